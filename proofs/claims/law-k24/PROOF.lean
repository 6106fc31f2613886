import PyProof.Rows.All
import Wide.All
import OpenK.AllK
import Wide.FinOn
import KE.KExcSuper
import HandS.Base
import HandS.Call
import HandS.Ends
import HandS.Exc
import HandS.HeadWalk
import KE.KExcIs
import HandS.ForExc
import HandS.ForMost
import HandS.ExcIs
import HandS.ExcField
import HandS.ExcValue
import HandS.IsInst
import HandS.Lambda
import HandS.Defaults
import HandS.HeadHook2
import HandS.Property
import HandS.Conv
import HandS.TupSets
import HandS.TupLe
import HandS.TupAny
import HandS.Deep
import HandS.Flow
import HandS.OwnEq
import KE.SortData
import PyProof.InstNe
import HandS.CallLocal
import HandS.ExcOwn
import HandS.Star
import HandS.AnyAll
import HandS.Walk
import HandS.Text
import HandS.Dict
import PyProof.DictUpdate
import HandS.Zip
import HandS.DictComp
import PyProof.StrLawsChain
import HandS.Style
import KE.SortKeyHeap
import HandS.SortKw
import HandS.More
import KE.KStateDown
import HandS.Words
import HandS.WordsExc
import HandS.Head0
import HandS.Head1
import HandS.Head2
import HandS.HeadEnd
import HandS.HeadHook3
import PySem.Challenge.RW_restsallowed_k24_across_texts_of_planboo
set_option Elab.async false
set_option linter.all false
set_option maxRecDepth 100000
set_option maxHeartbeats 4000000
/-! E1: raising an exception of a class whose inherited __init__ is `super().__init__(text); self.F = F`. -/
namespace PySem
namespace EX
open PySem.W PySem.Calls PyProof.Rows PySem.HandSPX
inductive Fk where | part | index
def Fk.name : Fk → Str | .part => "part" | .index => "index"
def Fk.msg : Fk → Str | .part => "a value is not as it should be" | .index => "a list is not as it should be"
def Fk.qual : Fk → Str | .part => "PartError.__init__" | .index => "ItemError.__init__"
def iA (k : Fk) (p1 p2 : Pos) : Arguments := { posonlyargs := [], args := [{ arg := "self", annotation := none, pos := p1 }, { arg := k.name, annotation := none, pos := p2 }], vararg := none, kwonlyargs := [], kw_defaults := [], kwarg := none, defaults := [] }
def iB (k : Fk) (q1 q2 q3 q4 q5 q6 q7 q8 q9 q10 : Pos) : List Stmt :=
  [.Expr (.Call (.Attribute (.Call (.Name "super" q1) [] [] q2) "__init__" q3) [.Constant (.str k.msg) 0 q4] [] q5) q6,
   .Assign [.Attribute (.Name "self" q7) k.name q8] (.Name k.name q9) q10]
def iS (k : Fk) : Scope := { kind := .function, names := [(PySem.Str.ofString "self", .local), (k.name, .local), (PySem.Str.ofString "__class__", .free), (PySem.Str.ofString "super", .globalImplicit)], isGenerator := false, isCoroutine := false, more := [] }
/-- what the written part says of such a class, at C; D: the class that owns the __init__ at fI; cc: its cell; cda: its code -/
structure XTxt (prog : Program) (K : Frag) (k : Fk) (C D fI cc cda : Addr) : Prop where
  cls : ∃ nm q N bs bm sn sub ab col dd k0 k1 k2 k3 k5, K.lookup C = some (excClassObj nm q C N bs bm true sn sub ab col dd k0 k1 k2 k3 k5 "ValueError.__new__") ∧ refsVE bm = true
  sa : findIn K (.ref C) "__setattr__" = some (some (.builtin "object.__setattr__"))
  noN : findIn K (.ref C) k.name = some none
  iC : findIn K (.ref C) "__init__" = some (some (.ref fI))
  tC : typeIn K (.ref fI) = some (.type "function")
  kC : keepIn K (.ref C) = true
  exC : subIn K (.ref C) (.type "BaseException") = some true
  veC : subIn K (.ref C) (.type "ValueError") = some true
  tyC : typeIn K (.ref C) = some (.type "type")
  dC : (clsIn K D).isSome = true
  mD : mroIn K C (.ref D) = some true
  nsu : nsIn K mainGlobals "super" = some none
  tp : nsIn K cStatics "thirdparty.any" = some none
  su : ks_superIn K C D "__init__" = some (some (.builtin "ValueError.__init__"))
  fn : ∃ (oc : Value) (od : Option Addr) (kV doc pm : Value) (an : Option Addr) (ct : Value) (osl : Array (Option Value)) (p1 p2 q1 q2 q3 q4 q5 q6 q7 q8 q9 q10 : Pos),
    K.lookup fI = some ⟨oc, od, .func (ksFn "__init__" k.qual (iA k p1 p2) (iB k q1 q2 q3 q4 q5 q6 q7 q8 q9 q10) (iS k) .none kV doc pm an (.ref cda) ct cc), osl⟩ ∧ codeIn K (.ref cda) k.qual = true ∧ (q3.endLine == q5.line) = true
  code : ∃ (ccl : Value) (cdd : Option Addr) (vs : Array Value) (ccs : Array (Option Value)) (file : Str) (tf : Tok), K.lookup cda = some ⟨ccl, cdd, .fields vs, ccs⟩ ∧ vs[2]? = some (.str file tf) ∧ ((prog.main.file : Str) == file) = true
  cell : ∃ (cl : Value) (cld : Option Addr) (csl : Array (Option Value)), K.lookup cc = some ⟨cl, cld, .cell (some (.ref D)), csl⟩
  top : (prog.main.scope.names.lookup ("super" : Str)).isSome = false
/-- what __init__ leaves of a fresh exception at x -/
structure InitEnd (k : Fk) (h h' : Heap) (x C dx t1 : Addr) (v : Value) : Prop where
  keep : ∀ b o, b ≠ x → h.get? b = some o → h'.get? b = some o
  obj : h'.get? x = some { cls := .ref C, dict := some dx, data := .fields #[.ref t1, .none, .none, .none, .bool false, .none] }
  dbig : h.objs.size ≤ dx
  dne : dx ≠ x
  ns : h'.Ns1 dx (fun y => if y = k.name then some v else none)
/-- a made exception -/
structure OwnMade (k : Fk) (h h' : Heap) (e C d : Addr) (v : Value) : Prop where
  keep : ∀ b o, h.get? b = some o → h'.get? b = some o
  new : h.objs.size ≤ e
  obj : ∃ oe vs, h'.get? e = some oe ∧ oe.cls = .ref C ∧ oe.dict = some d ∧ oe.data = .fields vs ∧ vs[1]? = some .none
  dbig : h.objs.size ≤ d
  dne : d ≠ e
  ns : h'.Ns1 d (fun y => if y = k.name then some v else none)
section
variable {prog : Program} {w : World} {A : Around} {E : Value → Shared → Prop} {h : Heap} {g : Array GenState} {d : Drawn} {t : Nat} {os : OsState}
variable {nm q : Str} {C N : Addr} {bs bm : List Value} {hdct : Bool} {sn : List Str} {sub : List Value} {ab : Bool} {col : Option Bool} {dd : Option Addr} {k0 k1 k2 k3 k5 : Option Value}
/-- the method-wrapper called -/
theorem call_bwV {u e t0 : Addr} {rest : List Value} {Q : Value → Shared → Prop}
    (hC : h.get? C = some (excClassObj nm q C N bs bm hdct sn sub ab col dd k0 k1 k2 k3 k5 "ValueError.__new__")) (he : h.get? e = some (excO C t0)) (hu : h.get? u = some (kxs_mw "ValueError.__init__" e)) (hrest : rest.length ≤ sizeLine)
    (hq : ∀ h' t1, (∀ b o, b ≠ e → h.get? b = some o → h'.get? b = some o) → h'.get? e = some (excO C t1) → Q .none ⟨h', g, d, t, os⟩) :
    wpAny (model prog w) A (call (.ref u) rest) Q E ⟨h, g, d, t, os⟩ := by
  refine wpAny_call (codeAny_of_tree ?_)
  show wpAny _ A.in1 (callAny (.ref u) ⟨rest, []⟩) _ _ _
  simp only [callAny]
  refine wpAny_bind (wpAny_load hu ?_)
  simp only [kxs_mw, show (Value.type "method-wrapper" == Value.type "method" || Value.type "method-wrapper" == Value.type "builtin_function_or_method" || Value.type "method-wrapper" == Value.type "method-wrapper") = true by decide, if_true]
  refine KFB.if_so (by decide) ?_
  refine wpAny_bind (check_bound_init F.excBase_ValueError.toExcCallFacts hC he rfl ?_)
  refine wpAny_bind (wpAny_pure (wpAny_pure ?_))
  refine ⟨plainId_quiet F.excBase_ValueError.init.plain _, codeAny_builtin F.excBase_ValueError.initEntry ?_⟩
  exact exc_init_tree (cls := .ref C) (t0 := t0) (dv := none) (c2 := .none) (c3 := .none) (b4 := .bool false) he hrest fun h' k e' _ => hq h' _ k e'
end
section
variable {prog : Program} {w : World} {A : Around} {E : Value → Shared → Prop} {R : Result → Shared → Prop} {s : Shared} {K : Frag} {mg mb : Str → Option Value} {k : Fk} {C D fI cc cda : Addr}
theorem one_size (v : Value) : [v].length ≤ sizeLine := by
  rw [sizeLine_eq]
  exact (by decide : 1 ≤ 16777216)
theorem ldC {M : Model} {s : Shared} {env : Env} {m : Str → Option Value} {x : Str} {pos : Pos} {v : Value} {Q : Value → Shared → Prop} {A : Around} {E : Value → Shared → Prop} (hn : s.heap.Ns env.locals m) (hv : m x = some v) (h : Q v s)
    (hk : env.scope.kind = .function) (hl : env.kindOf x = some .local) (hd : (x == ("__debug__" : Str)) = false) : wpAny M A (eval (.Name x pos) env) Q E s := wpAny_Name (wpAny_loadName_local hk hl hn hv h) hd
theorem part_init (T : XTxt prog K k C D fI cc cda) {x t0 : Addr} {v : Value} (X : K.In s.heap) (hlim : s.heap.NoLimit) (G : s.heap.Ns mainGlobals mg) (hmg : mg "super" = none) (Bn : s.heap.Ns builtinsNs mb) (hmb : mb "super" = some (.type "super"))
    (hx : s.heap.get? x = some (excO C t0)) (hnx : K.lookup x = none) (hxG : x ≠ mainGlobals) (hxB : x ≠ builtinsNs) (hroom : A.depth < recursionLimit)
    (hq : ∀ h' tk dx t1, InitEnd k s.heap h' x C dx t1 v → R (.ok (.ret .none)) { s with heap := h', toks := tk }) :
    codeAny (model prog w) A (.call (.ref fI) ⟨[.ref x, v], []⟩) R s := by
  obtain ⟨oc, od, kV, doc, pm, an, ct, osl, p1, p2, q1, q2, q3, q4, q5, q6, q7, q8, q9, q10, ho, hcd, hln⟩ := T.fn
  obtain ⟨nm, q, N, bs, bm, sn, sub, ab, col, dd, k0, k1, k2, k3, k5, hC, hbm⟩ := T.cls
  obtain ⟨ccl, cdd, vs, ccs, file, tf, hcode, hvs, hfile⟩ := T.code
  obtain ⟨cl, cld, csl, hcell⟩ := T.cell
  obtain ⟨cdD, hD⟩ := Option.isSome_iff_exists.mp T.dC
  have hcl : clsIn K C = some { name := nm, bases := bs, mro := .ref C :: bm, ns := N, qualname := q, hasDict := true, slotNames := sn, subclasses := sub, abstract := ab, collection := col, hasDel := false } := by unfold clsIn; rw [hC] <;> rfl
  refine ks_codeAny_call_defAt (fd := ksFn "__init__" k.qual (iA k p1 p2) (iB k q1 q2 q3 q4 q5 q6 q7 q8 q9 q10) (iS k) .none kV doc pm an (.ref cda) ct cc) (body := iB k q1 q2 q3 q4 q5 q6 q7 q8 q9 q10) (binds := [("self", .ref x), (k.name, v)])
    hroom (X _ _ ho) rfl hlim (codeRec_of X hcd) rfl (BindsTo.of_eq (by cases k <;> rfl)) (show ∀ x ∈ (iS k).names, x.2 ≠ NameKind.cell from by cases k <;> decide) (locs (by cases k <;> rfl)) (fun h₁ hns kp => ?_) (by cases k <;> rfl) (by cases k <;> rfl) (by cases k <;> rfl)
  obtain ⟨hh, g, d, t, os⟩ := s
  dsimp only at *
  have X₁ : K.In h₁ := X.keeps kp
  have hx₁ := kp _ _ hx
  have I₁ : InstAt h₁ x (excO C t0) C none := ⟨hx₁, rfl, rfl, trivial⟩
  have kG : h₁.Ns mainGlobals mg := by
    obtain ⟨o, es, ep, e, r⟩ := G
    exact ⟨o, es, ep, kp _ _ e, r⟩
  have kB : h₁.Ns builtinsNs mb := by
    obtain ⟨o, es, ep, e, r⟩ := Bn
    exact ⟨o, es, ep, kp _ _ e, r⟩
  obtain ⟨oD, hD1, hD2⟩ : ∃ oD, h₁.get? D = some oD ∧ oD.data = .cls cdD := by
    unfold clsIn at hD
    split at hD
    · rename_i c d' cd' sl ho'
      cases hD
      exact ⟨_, X₁ _ _ ho', rfl⟩
    · cases hD
  -- super().__init__(text)
  show wpAt _ _ _ (execs _ _) _ _ _
  refine ks_wpAt_execs_cons (ks_wpAt_Expr_any (ks_wpAt_MethodCall (pl := L2.plainOf (.Call (.Name "super" q1) [] [] q2) (callEnv (ksFn "__init__" k.qual (iA k p1 p2) (iB k q1 q2 q3 q4 q5 q6 q7 q8 q9 q10) (iS k) .none kV doc pm an (.ref cda) ct cc) hh.objs.size fI)) ?_ ?_) (by cases k <;> rfl) (by cases k <;> rfl))
  · -- the base: super()
    refine ks_wpAt_super_base (f := fI) (cc := cda) (ar := { arg := "self", annotation := none, pos := p1 }) (by cases k <;> rfl) (by cases k <;> rfl) (by decide) rfl (X₁ _ _ ho) rfl rfl rfl (X₁ _ _ hcode) rfl hvs hfile T.top ?_
    refine ks_loadName_global (by cases k <;> rfl) (by cases k <;> rfl) (loadGlobal_builtin kG hmg kB hmb ⟨rfl, ?_⟩)
    refine wpAny_loadName_free (by cases k <;> rfl) (by cases k <;> rfl) rfl ⟨_, X₁ _ _ hcell, rfl⟩ ?_
    refine wpAny_loadName_local (v := .ref x) (by cases k <;> rfl) (by cases k <;> rfl) hns (by cases k <;> rfl) ?_
    refine ks_wpAny_isType_cls hD1 hD2 ⟨rfl, ?_⟩
    refine ks_wpAny_call_super hD1 hD2 hx₁ rfl (fun c e => by cases e) (looks_mroIn X₁ T.mD) (fun h₂ e₂ k₂ => ?_)
    -- .__init__ of it
    have X₂ : K.In h₂ := X₁.keeps k₂
    have hx₂ := k₂ _ _ hx₁
    have hxC : x ≠ C := fun z => by
      have q := hnx
      rw [z, hC] at q
      cases q
    have sub : Looks (model prog w) h₂ (isInstance (.ref x) (.type "ValueError")) true := (InstAt.type (⟨hx₂, rfl, rfl, trivial⟩ : InstAt h₂ x (excO C t0) C none)).andThen (looks_subIn X₂ T.veC)
    have hsu : alongIn K "__init__" (((Value.ref C :: bm).dropWhile (· != .ref D)).drop 1) = some (some (.builtin "ValueError.__init__")) := by
      have q := T.su
      unfold ks_superIn at q
      rw [hcl] at q
      exact q
    refine kxs_getMethod kxs_ValueError e₂ (looks_opaque X₂ T.tp) (fun A Q E s kk q => wpAny_bind ((looks_clsIn X₂ hcl) A _ E s kk (wpAny_pure q))) rfl X₂ hsu sub hxC (by decide) ?_
    -- the call
    have hx₃ : (h₂.push (kxs_mw "ValueError.__init__" x)).get? x = some (excO C t0) := Heap.get?_push_of_some _ hx₂
    refine kxs_callWith (i := "ValueError.__init__") (x := x) rfl ?_
    refine evalArgs_plain ?_
    refine Calls.spliced_cons (Calls.Constant_str (pos := q4) (k := 0) ?_)
    refine Calls.spliced_nil ⟨Heap.get?_push_size _ rfl, ?_⟩
    refine call_bwV (t0 := t0) (Heap.get?_push_of_some _ (X₂ _ _ hC)) hx₃ (Heap.get?_push_size _ rfl) (one_size _) fun h₄ t1 k₄ hx₄ => ?_
    -- self.F = F
    have K4 : ∀ b o, b ≠ x → h₁.get? b = some o → h₄.get? b = some o := fun b o hb e => k₄ b o hb (Heap.get?_push_of_some _ (k₂ _ _ e))
    have X₄ : K.In h₄ := fun a o e => K4 a o (fun z => by rw [z, hnx] at e; cases e) (X₁ a o e)
    have hxL : hh.objs.size ≠ x := Nat.ne_of_gt (Heap.lt_size hx)
    have hn4 : h₄.Ns hh.objs.size fun y => ([("self", Value.ref x), (k.name, v)] : List (Str × Value)).reverse.lookup y := by
      obtain ⟨o, es, ep, e, r⟩ := hns
      exact ⟨o, es, ep, K4 _ _ hxL e, r⟩
    refine ks_wpAt_execs_cons (wpAt_of_wpAny (plainObj_wpAny_Assign_Attribute ?_ ?_))
    · refine ldC (v := v) hn4 (by cases k <;> rfl) (ldC (v := .ref x) hn4 (by cases k <;> rfl) ?_ (by cases k <;> rfl) (by cases k <;> rfl) (by decide)) (by cases k <;> rfl) (by cases k <;> rfl) (by cases k <;> decide)
      refine set_plain X₄ (ox := excO C t1) (od := none) ⟨hx₄, rfl, rfl, trivial⟩ T.sa ?_
      refine exc_osa X₄ hx₄ hcl (show refsVE (.ref C :: bm) = true from hbm) rfl T.noN (fun h₅ tk₅ dx k₅ dn dne hx₅ hn₅ => ?_)
      refine wpAt_of_wpAny (wpAny_execs_nil (hq h₅ tk₅ dx t1 ⟨fun b o hb e => k₅ b o hb (K4 b o hb (kp b o e)), hx₅, ?_, dne, hn₅⟩))
      have z : hh.objs.size < h₄.objs.size := hn4.lt
      exact Nat.le_of_lt (Nat.lt_of_lt_of_le z dn)
    · cases k <;> rfl
  · rw [arm_eval_Call]
    have e : ∀ ov : Value, methodCall (.Call (.Name "super" q1) [] [] q2) "__init__" q3 q5 (callEnv (ksFn "__init__" k.qual (iA k p1 p2) (iB k q1 q2 q3 q4 q5 q6 q7 q8 q9 q10) (iS k) .none kV doc pm an (.ref cda) ct cc) hh.objs.size fI) ov ([Expr.Constant (.str k.msg) 0 q4].length + ([] : List Keyword).length)
        (backTo q5 (starEach [Expr.Constant (.str k.msg) 0 q4] (callEnv (ksFn "__init__" k.qual (iA k p1 p2) (iB k q1 q2 q3 q4 q5 q6 q7 q8 q9 q10) (iS k) .none kV doc pm an (.ref cda) ct cc) hh.objs.size fI))) [] = _ := fun ov => L2.mcall_line rfl hln
    exact congrArg (fun z => attributeBase _ _ _ _ >>= fun ov => standAt q3.atName >>= fun _ => z ov) (funext e)
theorem part_made (T : XTxt prog K k C D fI cc cda) {v : Value} (X : K.In s.heap) (hlim : s.heap.NoLimit) (G : s.heap.Ns mainGlobals mg) (hmg : mg "super" = none) (Bn : s.heap.Ns builtinsNs mb) (hmb : mb "super" = some (.type "super")) (hroom : A.depth + 1 < recursionLimit)
    (hq : ∀ h' tk e d, OwnMade k s.heap h' e C d v → R (.ok (.ret (.ref e))) { s with heap := h', toks := tk }) :
    codeAny (model prog w) A (.call (.ref C) ⟨[v], []⟩) R s := by
  obtain ⟨nm, q, N, bs, bm, sn, sub, ab, col, dd, k0, k1, k2, k3, k5, hC, hbm⟩ := T.cls
  obtain ⟨hp, g, dr, tk, os⟩ := s
  have kk : ∀ b o, hp.get? b = some o → ((hp.push (kdv_tup [v])).push (excO C hp.objs.size)).get? b = some o := fun b o e => Heap.get?_push_of_some _ (Heap.get?_push_of_some _ e)
  have hget : ((hp.push (kdv_tup [v])).push (excO C hp.objs.size)).get? (hp.objs.size + 1) = some (excO C hp.objs.size) := by heap_get
  have ns_lt : ∀ {b : Addr} {m : Str → Option Value}, hp.Ns b m → b < hp.objs.size := fun n => n.lt
  have nsK : ∀ {b : Addr} {m : Str → Option Value}, hp.Ns b m → ((hp.push (kdv_tup [v])).push (excO C hp.objs.size)).Ns b m := fun ⟨o, es, ep, e, r⟩ => ⟨o, es, ep, kk _ _ e, r⟩
  have hnx : K.lookup (hp.objs.size + 1) = none := by
    cases e : K.lookup (hp.objs.size + 1) with
    | none => rfl
    | some o =>
      have z : hp.get? (hp.objs.size + 1) = some o := X _ _ e
      exact absurd (Nat.lt_of_succ_lt (Heap.lt_size z)) (Nat.lt_irrefl _)
  refine call_own F.excBase_ValueError (fun X => refsVE_contains X bm hbm) (X _ _ hC) (looks_findIn X T.iC) (fun self => bind_fn X self T.tC) (one_size v) ?_
  refine part_init (s := ⟨(hp.push (kdv_tup [v])).push (excO C hp.objs.size), g, dr, tk, os⟩) T (X.keeps kk) (hlim.keeps kk) (nsK G) hmg (nsK Bn) hmb hget hnx (Nat.ne_of_gt (Nat.lt_succ_of_lt (ns_lt G))) (Nat.ne_of_gt (Nat.lt_succ_of_lt (ns_lt Bn))) ?_ fun h' tk' dx t1 ⟨k', hx, dn, dne, hns⟩ => ?_
  · show A.depth + 1 < recursionLimit
    exact hroom
  · have old : ∀ b o, hp.get? b = some o → h'.get? b = some o := fun b o e => k' b o (Nat.ne_of_lt (Nat.lt_succ_of_lt (Heap.lt_size e))) (kk b o e)
    have z : hp.objs.size + 1 + 1 ≤ dx := by
      first
        | (simpa only [Heap.size_push] using dn)
        | exact dn
        | (have q := dn; rw [Heap.size_push, Heap.size_push] at q; exact q)
    exact ⟨rfl, hq h' tk' (hp.objs.size + 1) dx ⟨old, Nat.le_succ _, ⟨_, _, hx, rfl, rfl, rfl, rfl⟩, Nat.le_trans (Nat.le_trans (Nat.le_succ _) (Nat.le_succ _)) z, dne, hns⟩⟩
end
end EX
end PySem
set_option maxHeartbeats 4000000
/-! E2: over the layer: raise C(e); try: .. except X as n: y = n, the exception kept as a value; isinstance and fields of such a value. -/
namespace L2
open PySem PySem.Spec PyProof.Rows PySem.EX
/-! ### C(e) -/
def tMkP (k : Fk) (C : Addr) (ta : TA) : St → Hp → XK → Prop := fun σ H Q => ta σ H fun vs H1 => ∃ v, vs = [v] ∧ ∀ d, H1 d = none → Q (.ref C) (some d) (upd H1 d (.xd [(k.name, v)]))
theorem relO_one {v : V} {v' : Value} (n : Str) (r : RelV v v') (f : Str) : RelO (List.lookup f [(n, v)]) (if f = n then some v' else none) := by
  by_cases hw : f = n
  · subst hw
    rw [if_pos rfl]
    have q : List.lookup f [(f, v)] = some v := by simp [List.lookup]
    rw [q]
    exact r
  · rw [if_neg hw]
    have qw : (f == n) = false := by simpa using hw
    have q2 : List.lookup f [(n, v)] = none := by simp [List.lookup, qw]
    rw [q2]
    trivial
section
variable {X : Cx} {kd : Fk} {C D fI cc cda : Addr}
theorem pmk_part {x : Str} {a : Expr} {ta : TA} {p pos : Pos} {k : Nat} (T : XTxt X.prog X.K kd C D fI cc cda) (gC : X.mg x = some (.ref C)) (hr : Room k X.A) (ha : PA X [a] ta) (hg : Gl X x := by rfl) (hdb : (x == ("__debug__" : Str)) = false := by decide)
    (he : starEach (a :: []) X.env = (false, eval a X.env) :: starEach [] X.env := by rfl) (hpl : (backTo pos (starEach [] X.env)).any (·.1) = false := by rfl) :
    PMk X (.Call (.Name x p) [a] [] pos) (tMkP kd C ta) := by
  intro pins s σ H Q I h
  refine wpAny_Call_Name_kw (ld_glob I hg gC ?_ hdb)
  refine PySem.W.callWith_K (h₀ := X.base) I.ok.mod.kin T.kC (thn (ha.run pos pins s σ H _ I h) fun us s1 hh => ?_) he hpl
  obtain ⟨vs, H1, I1, r1, v, ev, q1⟩ := hh
  subst ev
  refine ⟨I1.kIn, ?_⟩
  cases r1 with
  | cons rv rn =>
    rename_i v' us'
    cases rn
    show wpAny _ _ (call (.ref C) [v']) _ _ _
    have hlim := I1.nolimit
    have kIn := I1.kIn
    have G : s1.heap.Ns mainGlobals X.mg := by
      obtain ⟨o, es, ep, e, r⟩ := I1.mod.glob
      exact ⟨o, es, ep, I1.bk _ _ e, r⟩
    have hmg : X.mg "super" = none := PySem.W.mg_none_of kIn G T.nsu
    obtain ⟨mb, hb0, hbb⟩ := I1.mod.blt
    have Bn : s1.heap.Ns builtinsNs mb := by
      obtain ⟨o, es, ep, e, r⟩ := hb0
      exact ⟨o, es, ep, I1.bk _ _ e, r⟩
    have hmb : mb "super" = some (.type "super") := (hbb "super" (by decide)).trans (by decide +kernel)
    obtain ⟨hp, g, dr, tk, os⟩ := s1
    refine wpAny_call (part_made T kIn hlim G hmg Bn hmb (by have := hr.dp; omega) fun h' tk' e d M => ?_)
    show MkP X pins σ Q (.ref e) ⟨h', g, dr, tk', os⟩
    obtain ⟨oe, fv, hoe, hc, hd, hdat, h1⟩ := M.obj
    have hns := M.ns
    obtain ⟨G', g1, g2⟩ := restrict h' fun b => decide (b ≠ e)
    have gk : ∀ b, b ≠ e → G'.get? b = h'.get? b := fun b hb => g1 b (decide_eq_true hb)
    have ge : G'.get? e = none := g2 e (by simp)
    have old : ∀ b o, hp.get? b = some o → G'.get? b = some o := fun b o q => (gk b (Nat.ne_of_lt (Nat.lt_of_lt_of_le (Heap.lt_size q) M.new))).trans (M.keep b o q)
    have ob : ObjOk X.prog X.w (upd H1 d (.xd [(kd.name, v)])) G' d (.xd [(kd.name, v)]) :=
      ⟨_, hns.at (fun o q => (gk d M.dne).trans q), fun f => relO_one kd.name rv f⟩
    have J : Inv X pins σ (upd H1 d (.xd [(kd.name, v)])) ⟨G', g, dr, tk', os⟩ := I1.laid (t' := tk') old M.dbig ob
    refine ⟨e, oe, fv, ⟨G', g, dr, tk', os⟩, _, .ref C, some d, rfl, J, fun b o q => ?_, ge, hoe, ⟨hc, hd⟩, hdat, h1, ?_, rfl, I1.bare, raises_own T.exC T.tyC, q1 d (I1.hok.fresh M.dbig)⟩
    · by_cases hb : b = e
      · have q' : G'.get? b = some o := q
        rw [hb, ge] at q'; cases q'
      · exact (gk b hb).symm.trans q
    · rw [upd_ne (Ne.symm M.dne)]
      exact I1.hok.fresh M.new
/-- raise C(e) -/
def tRaiseP (kd : Fk) (C : Addr) (W : WX) (ta : TA) : TS := fun _ σ H => tMkP kd C ta σ H fun cls d H' => W cls d σ H'
theorem ps_raiseP {x : Str} {a : Expr} {ta : TA} {W : WX} {p pos pos2 : Pos} {k : Nat} (hc : X.calm = true) (T : XTxt X.prog X.K kd C D fI cc cda) (gC : X.mg x = some (.ref C)) (hr : Room k X.A) (tk : Takes X W) (ha : PA X [a] ta) (hg : Gl X x := by rfl) (hdb : (x == ("__debug__" : Str)) = false := by decide)
    (he : starEach (a :: []) X.env = (false, eval a X.env) :: starEach [] X.env := by rfl) (hpl : (backTo pos (starEach [] X.env)).any (·.1) = false := by rfl) :
    PS X (.Raise (some (.Call (.Name x p) [a] [] pos)) none pos2) (tRaiseP kd C W ta) := ps_raise hc tk (pmk_part T gC hr ha hg hdb he hpl)
end
/-! ### an exception held as a value, behind the suite that caught it -/
def ExV (cls : Value) (d : Option Addr) (a : Addr) : HO := .ext fun h => ∃ (oe : Obj) (vs : Array Value), h.get? a = some oe ∧ Zc cls d oe ∧ oe.data = .fields vs
theorem exV_ok {P : Program} {w : World} {H : Hp} {h : Heap} {a : Addr} {cls : Value} {d : Option Addr} {oe : Obj} {vs : Array Value} (e : h.get? a = some oe) (z : Zc cls d oe) (hd : oe.data = .fields vs) : ObjOk P w H h a (ExV cls d a) :=
  ⟨⟨oe, vs, e, z, hd⟩, ⟨oe, e⟩, fun _ _ ⟨o, v, q, r⟩ k => ⟨o, v, k o q, r⟩⟩
section
variable {X : Cx} {pins : List (Addr × Obj)} {σ : St} {H : Hp} {s : Shared}
/-- a pinned object of ours, new since the entry, is tracked from now on -/
theorem Inv.track {a : Addr} {oe : Obj} {vs : Array Value} {cls : Value} {d : Option Addr} (I : Inv X (pins ++ [(a, oe)]) σ H s) (h0 : X.s_0.heap.get? a = none) (hp : ∀ p ∈ X.pn ++ pins, p.1 ≠ a) (hz : Zc cls d oe) (hd : oe.data = .fields vs) :
    Inv X pins σ (upd H a (ExV cls d a)) s := by
  obtain ⟨ha, na, nL, nF, nC⟩ := I.pin (a, oe) (List.mem_append_right _ (List.mem_append_right _ List.mem_cons_self))
  have ha : s.heap.get? a = some oe := ha
  have na : H a = none := na
  have neS : ∀ b u, H b = some u → b ≠ a := fun b u e => ne_of_none e na
  have ne0 : ∀ b o, X.s_0.heap.get? b = some o → b ≠ a := fun b o e z => by rw [z, h0] at e; cases e
  refine ⟨I.ok, I.os, I.bare, ⟨I.base.keep, I.base.slot, fun b o e n hx => ?_, I.base.there, fun b xs e => ?_, fun b o u e => ?_, fun b ps e => ?_⟩, I.loc, I.cell, ?_, fun x c e => ?_, fun p hpp => ?_, fun b u e => ?_, I.len⟩
  · rw [upd_ne (ne0 b o e)]
    exact I.base.free b o e n hx
  · have q := I.base.tups b xs e
    rw [upd_ne (neS b _ q)]
    exact q
  · have q := I.base.frzs b o u e
    rw [upd_ne (neS b _ q)]
    exact q
  · obtain ⟨m, q⟩ := I.base.tbls b ps e
    exact ⟨m, by rw [upd_ne (neS b _ q)]; exact q⟩
  · rw [upd_ne (Ne.symm nL)]
    exact I.free
  · have nc : c ≠ a := fun z => by
      obtain ⟨v, o, ho, hdd⟩ := I.cell x c e
      rw [z, ha] at ho
      cases ho
      exact nC v hdd
    rw [upd_ne nc]
    exact I.freeC x c e
  · obtain ⟨e, n, ne, nf, dd⟩ := I.pin p (by
      rcases List.mem_append.mp hpp with z | z
      · exact List.mem_append_left _ z
      · exact List.mem_append_right _ (List.mem_append_left _ z))
    exact ⟨e, by rw [upd_ne (hp p hpp)]; exact n, ne, nf, dd⟩
  · by_cases hb : b = a
    · rw [hb, upd_same] at e
      cases e
      rw [hb]
      exact exV_ok ha hz hd
    · rw [upd_ne hb] at e
      refine (I.hok b u e).stay (fun c v _ q => q) (fun c q => ?_) fun c xs q => ?_
      · rw [upd_ne (neS c _ q)]
        exact q
      · rw [upd_ne (neS c _ q)]
        exact q
/-- what the clause 'except x as n: y = n' wishes: slot i is n's, slot j is y's -/
def wKeep (K : PySem.W.Frag) (c : Value) (i j : Nat) (Wout : WX) (D : Ends) : WX := fun cls d σ H =>
  ∃ b, PySem.W.exmOne K cls c = some b ∧ (b = true → ∀ a, H a = none → D.nx (((σ.set i (some (.ref a))).set j (some (.ref a))).set i none) (upd H a (ExV cls d a))) ∧ (b = false → Wout cls d σ H)
theorem ps_try_keep {x n y : Str} {c : Value} {i j : Nat} {body : List Stmt} {np pos pos' q1 q2 q3 : Pos} {tb : WX → TS} {Wout : WX} (hs : X.stack = X.env :: X.outer) (hf : X.env.frame = some X.env.locals) (hex : X.ex = []) (hN : X.N.Nodup) (hi : X.N[i]? = some n) (hln : X.env.kindOf n = some .local)
    (hj : X.N[j]? = some y) (hlj : X.env.kindOf y = some .local) (hij : i ≠ j) (hc : Names X x c) (tk : Takes X Wout)
    (hb : ∀ (W : WX) (pn : List (Addr × Obj)) (xe : Value → Shared → Prop), Takes (X.tr pn xe) W → PassesOwn (model X.prog X.w) X.A X.env xe → PSs (X.tr pn xe) body (tb W))
    (hdn : (n == ("__debug__" : Str)) = false := by decide) (hcd : (n == ("__classdict__" : Str)) = false := by decide)
    (hsw : ∀ env' : Env, swapsWith (.Name n q2) (some (.Name y q1)) q3.line env' = pure false := by intro _; rfl) :
    PS X (.Try body [.ExceptHandler (some (.Name x np)) (some n) [.Assign [.Name y q1] (.Name n q2) q3] pos'] [] [] pos) (fun D σ H => tb (wKeep X.K c i j Wout D) D σ H) := by
  refine ⟨fun pins s σ H D I h => ?_⟩
  have ok := I.ok
  have hfr : X.A.frames = some (X.env :: X.outer) := by rw [ok.frames, hs]
  have hloc : Loc X.env.scope n := .inl hln
  have hlocj : Loc X.env.scope y := .inl hlj
  refine wpAny_Try_except ?_
  refine wpAny_mono ((hb (wKeep X.K c i j Wout D) (X.pn ++ pins) (fun e s₁ => wpAny (model X.prog X.w) X.A (noteFrame e X.env) (fun _ s₂ => wpAny (model X.prog X.w) X.A (setFlight e none) (fun _ s₃ =>
    wpAny (model X.prog X.w) X.A (handleBy e X.env [.ExceptHandler (some (.Name x np)) (some n) [.Assign [.Name y q1] (.Name n q2) q3] pos']) (SP X pins D) X.xe s₃) X.xe s₂) X.xe s₁) (fun u s' xx => ?_) PassesOwn.looking).run [] s σ H D (I.toTry _) h) (fun f s1 hsp => ?_) (fun e s1 he => he)
  · -- the catch
    obtain ⟨a, B, sI, pins', σ', H', cls, d, rfl, J', nb, up, sky, na, os, ag, b, hb1, hyes, hno⟩ := xx
    have J : Inv X pins σ' H' sI := J'.ofTry ok
    have sky' : Sky B (X.env :: X.outer) a (Zc cls d) X.env.locals s'.heap := by rw [← hs]; exact sky
    show wpAny (model X.prog X.w) X.A (noteFrame (.ref a) X.env) _ _ _
    refine Sky.land Zc.steady hfr hf sky' fun h3 fl3 up3 => ?_
    have J3 : Inv X pins σ' H' { s' with heap := h3 } := J.landed nb fl3.1 (up.trans up3) os ag
    obtain ⟨oe3, vs3, he3, hz3, hd3⟩ := fl3.there
    have notFr : ∀ {h : Heap} {o : Obj} {vs : Array Value}, h.FunFrames B (X.env :: X.outer) → h.get? a = some o → o.data = .fields vs → a ∉ frs (X.env :: X.outer) := fun {h o vs} ff e dd hm => by
      obtain ⟨_, o', e', hnf⟩ := ff.mem hm
      rw [e] at e'; cases e'
      exact hnf _ dd
    have nfr := notFr fl3.2.2.1 he3 hd3
    have nL : a ≠ X.env.locals := fun z => nfr (List.mem_filterMap.mpr ⟨X.env, List.mem_cons_self, by rw [hf, z]⟩)
    have nF : a ∉ X.fs := fun hm => by
      obtain ⟨e, he, q⟩ := List.mem_filterMap.mp hm
      exact nfr (List.mem_filterMap.mpr ⟨e, List.mem_cons_of_mem _ he, q⟩)
    -- a is new
    have nB : B.get? a = none := fl3.2.1
    have nI : sI.heap.get? a = none := by
      cases e : sI.heap.get? a with
      | none => rfl
      | some o =>
        have z := nb a o e (by rw [hs]; exact nfr)
        rw [nB] at z
        cases z
    have n0 : X.s_0.heap.get? a = none := by
      cases e : X.s_0.heap.get? a with
      | none => rfl
      | some o =>
        obtain ⟨o', z⟩ := J.base.there a o e (by rw [hex]; exact fun z => nomatch z)
        rw [nI] at z
        cases z
    have newp : ∀ p ∈ X.pn ++ pins, p.1 ≠ a := fun p hp z => by
      obtain ⟨e, _⟩ := J.pin p hp
      rw [z, nI] at e
      cases e
    have S3 := J3.suite he3 hd3 na nL nF
    refine wpAny_handleBy_cons (codeAny_handlers_test ?_) (by intro q; cases q)
    have LT : PySem.W.Looks (model X.prog X.w) h3 (typeOf (.ref a)) cls := fun A Q E s k q => wpAny_typeOf_ref (k _ _ he3) (by rw [hz3.1]; exact q)
    have LM := PySem.W.exm_one (M := model X.prog X.w) (J3.kIn) LT hb1
    have test : ∀ {Q : Value → Shared → Prop} {E : Value → Shared → Prop}, Q c { s' with heap := h3 } → wpAny (model X.prog X.w) (X.A.mark (some (.ref a))) (eval (.Name x np) X.env) Q E { s' with heap := h3 } := fun {Q E} q => by
      obtain ⟨hg, hdbg, hm | ⟨hm, hv, hnn⟩⟩ := hc
      · exact ld_glob (X := X.suite a ((a, oe3) :: (X.pn ++ pins))) S3 hg hm q hdbg
      · exact ld_blt (X := X.suite a ((a, oe3) :: (X.pn ++ pins))) S3 hg hm hv q hnn hdbg
    refine test (LM.here ?_)
    cases b with
    | true =>
      refine codeAny_handlers_suite_as ?_
      refine HandSPX.lands_againZ fl3 fun h4 fl4 up4 => ?_
      have J4 : Inv X pins σ' H' { s' with heap := h4 } := J.landed nb fl4.1 ((up.trans up3).trans up4) os ag
      obtain ⟨oe4, vs4, he4, hz4, hd4⟩ := fl4.there
      have S4 := J4.suite he4 hd4 na nL nF
      refine store_ok (X := X.suite a ((a, oe4) :: (X.pn ++ pins))) (v := .ref a) S4 hN hi hloc rfl (fun s5 S5 => ?_) (.inr hln)
      have hiσ : i < σ'.length := by rw [J.len]; exact (List.getElem?_eq_some_iff.mp hi).1
      have suite : PSs (X.suite a ((a, oe4) :: (X.pn ++ pins))) [.Assign [.Name y q1] (.Name n q2) q3] (tAsg (tVar i) (gName j)) :=
        pss_one (ps_set (i := j) hN hj hlocj (pe_var hi (.inl hln) hdn hcd) (hsw _) (.inr hlj))
      refine wpAny_mono (suite.run [] s5 _ H' { nx := fun σ6 H6 => σ6 = (σ'.set i (some (.ref a))).set j (some (.ref a)) ∧ H6 = H', rt := fun _ _ => False } S5 ⟨.ref a, List.getElem?_set_self hiσ, rfl, rfl⟩) (fun f s6 hsp => ?_) (fun _ _ z => False.elim z)
      cases f with
      | next =>
        obtain ⟨σ6, H6, S6, e6, e7⟩ := hsp
        rw [e6, e7] at S6
        have U6 : Inv X (pins ++ [(a, oe4)]) ((σ'.set i (some (.ref a))).set j (some (.ref a))) H' s6 := (S6.unsuite ok).pins_of fun (p : Addr × Obj) (hp : p ∈ pins ++ [(a, oe4)]) => by
          rcases List.mem_append.mp hp with z | z
          · exact (S6.unsuite ok).pin p (List.mem_append_right _ z)
          · have e : p = (a, oe4) := by simpa using z
            subst e
            exact S6.pin (a, oe4) (List.mem_append_left _ List.mem_cons_self)
        refine gone_ok U6 hN hi hln fun s7 J7 => ?_
        exact ⟨_, _, J7.track n0 newp hz4 hd4, hyes rfl a na⟩
      | brk =>
        obtain ⟨σ6, H6, S6, q6⟩ := hsp
        exact q6.elim
      | cont =>
        obtain ⟨σ6, H6, S6, q6⟩ := hsp
        exact q6.elim
      | ret u =>
        obtain ⟨v6, σ6, H6, S6, r6, q6⟩ := hsp
        exact q6.elim
    | false =>
      show wpAny _ X.A (handleBy (.ref a) X.env []) _ _ _
      refine wpAny_handleBy_nil ?_
      obtain ⟨k1, k2, k3, oe, vs, T, oT, ts', he, hz, hd, h1, hr⟩ := id fl3
      unfold PySem.passOn
      refine wpAny_bind (wpAny_field he hd h1 ?_)
      rw [if_neg (show ¬ ((Value.ref T == Value.none) = true) from by simp)]
      have fin : wpAny (model X.prog X.w) X.A (setFlight (.ref a) X.env.frame) (fun _ s4 => wpAny (model X.prog X.w) X.A (throw (.ref a) : Sem Flow) (SP X pins D) X.xe s4) X.xe { s' with heap := h3 } := by
        rw [hf]
        refine HandSPX.setFlight_upZ fl3 fun h4 hh4 up4 => wpAny_throw (tk _ _ ?_)
        exact ⟨a, B, sI, pins, σ', H', cls, d, rfl, J, nb, (up.trans up3).trans up4, .inr (.inr (by rw [hs]; exact hh4)), na, os, ag, hno rfl⟩
      first
        | exact wpAny_bind (wpAny_pure (wpAny_bind fin))
        | exact wpAny_bind fin
  · cases f with
    | next =>
      obtain ⟨σ', H', J', q⟩ := hsp
      exact wpAny_execs_nil ⟨σ', H', J'.ofTry ok, q⟩
    | brk =>
      obtain ⟨σ', H', J', q⟩ := hsp
      exact ⟨σ', H', J'.ofTry ok, q⟩
    | cont =>
      obtain ⟨σ', H', J', q⟩ := hsp
      exact ⟨σ', H', J'.ofTry ok, q⟩
    | ret u =>
      obtain ⟨v, σ', H', J', r, q⟩ := hsp
      exact ⟨v, σ', H', J'.ofTry ok, r, q⟩
end
/-! ### isinstance(e, c), e.f -/
/-- what the class C of such a value must say -/
structure XC (K : PySem.W.Frag) (C : Addr) : Prop where
  ga : PySem.W.findIn K (.ref C) "__getattribute__" = some (some (.builtin "BaseException.__getattribute__"))
  gg : PySem.W.findIn K (.ref C) "__getattr__" = some none
  ex : PySem.W.subIn K (.ref C) (.type "BaseException") = some true
  hd : PySem.W.hasDictIn K C = true
  ha : PySem.W.findIn K (.ref C) "__class__" = some (some (.builtin "object.__class__"))
  hn : PySem.W.specialIn K (.builtin "object.__class__") "__get__" = some (some (.builtin "getset_descriptor.__get__"))
  ht : PySem.W.takesIn K (.builtin "object.__class__") = some true
  hm : PySem.W.mroIn K C (.type "object") = some true
/-- the dict of the exception is told -/
def XD (H : Hp) (d : Option Addr) (fs : List (Str × V)) : Prop := (d = none ∧ fs = []) ∨ ∃ dd, d = some dd ∧ H dd = some (.xd fs)
def rIsX (K : PySem.W.Frag) : List V → Hp → VK → Prop := fun xs H Q => ∃ (a C : Addr) (d : Option Addr) (fs : List (Str × V)) (c : V) (u : Value) (b : Bool), xs = [.ref a, c] ∧ ClsV c u ∧ H a = some (ExV (.ref C) d a) ∧ XD H d fs ∧ XC K C ∧ PySem.W.kitOne K (.ref C) u = some b ∧ Q (.bl b) H
section
variable {X : Cx}
theorem inst_ex {H : Hp} {h : Heap} {P : Program} {w : World} {a C : Addr} {d : Option Addr} {fs : List (Str × V)} (hok : HOk P w H h) (ha : H a = some (ExV (.ref C) d a)) (hd : XD H d fs) : ∃ ox od, PySem.W.InstAt h a ox C od ∧ ∀ v f, fs.lookup f = some v → ∃ u, PySem.W.lookIn f (od.getD ox) = some (some u) ∧ RelV v u ∧ od.isSome = true := by
  obtain ⟨⟨oe, vs, he, hz, hdat⟩, _, _⟩ := hok a _ ha
  have nc : PySem.W.notCls oe = true := by unfold PySem.W.notCls; rw [hdat] <;> rfl
  rcases hd with ⟨e1, e2⟩ | ⟨dd, e1, hdd⟩
  · subst e1 e2
    refine ⟨oe, none, ⟨he, hz.1, nc, by rw [hz.2]; trivial⟩, fun v f e => ?_⟩
    cases e
  · subst e1
    obtain ⟨mA, hns, hr⟩ := hok dd _ hdd
    obtain ⟨od, ho, hl⟩ := lookIn_ns hns
    refine ⟨oe, some od, ⟨he, hz.1, nc, by rw [hz.2]; exact ho⟩, fun v f e => ?_⟩
    obtain ⟨u, hu, ru⟩ := RelO.some_of (v := v) (o := mA f) (by rw [← e]; exact hr f)
    exact ⟨u, by show PySem.W.lookIn f od = _; rw [hl, hu], ru, rfl⟩
theorem call_isX : CallR X (.builtin "isinstance") (rIsX X.K) := by
  intro pins s σ H xs us Q I r h
  obtain ⟨a, C, d, fs, c, u, b, rfl, k, ha, hd, T, e, q⟩ := h
  obtain ⟨u1, u2, rfl, r1, r2⟩ := vals2 r
  have e2 := k.eq r2
  subst e2
  cases (show u1 = Value.ref a from r1)
  obtain ⟨ox, od, J, _⟩ := inst_ex I.hok ha hd
  have hcl : (PySem.W.clsIn X.K C).isSome = true := by
    obtain ⟨cd, hc, _⟩ := PySem.W.any_some T.hd
    rw [hc]
    rfl
  exact PySem.W.kia_one (PySem.W.kitx_exc hcl T.ga T.gg T.ex T.ha T.hn T.ht T.hm) I.kIn J e (fun z => nomatch z) fun tk => ⟨.bl b, H, I.tok tk, rfl, q⟩
/-- isinstance(x, c): x any value, or an exception that is held -/
def rIsA (K : PySem.W.Frag) : List V → Hp → VK → Prop := fun x H Q => rIsX K x H Q ∨ rIsi K x H Q
theorem call_isA : CallR X (.builtin "isinstance") (rIsA X.K) := call_isX.or call_isi
/-- e.f -/
def tXFld (K : PySem.W.Frag) (f : Str) (te : TE) : TE := fun σ H Q => te σ H fun x H1 => ∃ (a C dd : Addr) (fs : List (Str × V)) (v : V), x = .ref a ∧ H1 a = some (ExV (.ref C) (some dd) a) ∧ H1 dd = some (.xd fs) ∧ XC K C ∧ PySem.W.findIn K (.ref C) f = some none ∧ fs.lookup f = some v ∧ Q v H1
theorem pe_xfld {e : Expr} {te : TE} {pos : Pos} {n : Str} (he : PE X e te) (hb : attributeBase e n X.env (eval e X.env) = eval e X.env := by rfl) : PE X (.Attribute e n pos) (tXFld X.K n te) := by
  refine ⟨fun pins s σ H Q I h => ?_⟩
  refine attr_of hb (thn (he.run pins s σ H _ I h) fun u s1 hh => ?_)
  obtain ⟨x, H1, I1, rx, a, C, dd, fs, v, ex, ha, hd, T, hno, l, q⟩ := hh
  subst ex
  obtain rfl : u = Value.ref a := rx
  obtain ⟨⟨oe, vs, he', hz, hdat⟩, _, _⟩ := I1.hok a _ ha
  obtain ⟨mA, hns, hr⟩ := (show ObjOk X.prog X.w H1 s1.heap dd (.xd fs) from I1.hok dd _ hd)
  obtain ⟨od, ho, hl⟩ := lookIn_ns hns
  obtain ⟨u, hu, ru⟩ := RelO.some_of (v := v) (o := mA n) (by rw [← l]; exact hr n)
  have J : PySem.W.InstAt s1.heap a oe C (some od) := ⟨he', hz.1, by unfold PySem.W.notCls; rw [hdat] <;> rfl, by rw [hz.2]; exact ho⟩
  exact HandSPX.exc_get I1.kIn J T.ga T.gg T.ex (PySem.W.findObj_own T.hd hno rfl (by rw [hl, hu])) (handed_of ru) ⟨v, H1, I1.tok _, ru, q⟩
end
end L2
set_option maxHeartbeats 4000000
/-! E3: a lambda handed to a def that calls it in a try, or hands it on. -/
namespace L2
open PySem PySem.Spec PyProof.Rows PySem.EX
open LamX (CodeO ExtN Tabs TabB LamS lamEnv lamCx lam_make2 lam_start2 run_ofS)
/-- what ran since the lambda was made, seen from its maker's frames fs -/
structure Later (fs : List Addr) (s0 : Shared) (H0 : Hp) (outer : List Env) (s : Shared) (H : Hp) : Prop where
  un : Un fs [] H0 H s0.heap s.heap
  fr : ∀ b ∈ frs outer, b ∉ fs → s0.heap.get? b = none
theorem Un.trans2 {fs fs2 : List Addr} {H H1 H2 : Hp} {h h1 h2 : Heap} (a : Un fs [] H H1 h h1) (b : Un fs2 [] H1 H2 h1 h2) (hn : ∀ c ∈ fs2, c ∉ fs → h.get? c = none) : Un fs [] H H2 h h2 where
  keep := fun c o q n hb hx => b.keep c o (a.keep c o q n hb hx) (a.free c o q n hx) (fun z => by rw [hn c z hb] at q; cases q) hx
  slot := fun c o q n hb hx => by
    obtain ⟨sl, e1⟩ := a.slot c o q n hb hx
    obtain ⟨sl', e2⟩ := b.any e1 (a.free c o q n hx) hx
    exact ⟨sl', e2⟩
  free := fun c o q n hx => by
    obtain ⟨o', e1⟩ := a.there c o q hx
    exact b.free c o' e1 (a.free c o q n hx) hx
  there := fun c o q hx => by
    obtain ⟨o', e1⟩ := a.there c o q hx
    exact b.there c o' e1 hx
  tups := fun c xs q => b.tups c xs (a.tups c xs q)
  frzs := fun c o xs q => b.frzs c o xs (a.frzs c o xs q)
  tbls := fun c ps q => by
    obtain ⟨m1, e1⟩ := a.tbls c ps q
    obtain ⟨m2, e2⟩ := b.tbls c _ e1
    exact ⟨m1 ++ m2, by rw [e2, Array.append_assoc]⟩
/-- the callable at f: tl E H Q is what its call asks -/
abbrev TL := XK → Hp → VK → Prop
def Acts (P : Program) (w : World) (K : PySem.W.Frag) (mg : Str → Option Value) (base : Heap) (fs : List Addr) (s0 : Shared) (H0 : Hp) (f c' : Addr) (q : Str) (k : Nat) (tl : TL) : Prop :=
  ∀ (A : Around) (outer : List Env) (s : Shared) (H : Hp) (Q : VK) (E : XK), Later fs s0 H0 outer s H → Room k A → Env0 P w K mg base A outer s H → H c' = some (CodeO c' q) → tl E H Q → codeAny (model P w) A (.call (.ref f) ⟨[], []⟩) (CR (L2.CX P w) outer P w H s Q E) s
section
variable {X : Cx} {pins : List (Addr × Obj)} {σ : St} {H : Hp} {s : Shared}
theorem lam_acts {f c' : Addr} {pm ctv : Value} {params : Arguments} {body : Expr} {scope : Scope} {k : Nat} {t : XK → TE}
    (I : Inv X pins σ H s) (L : LamS X.env.scope scope) (hf : s.heap.get? f = some (PySem.W.kla_obj "<lambda>" (X.env.qual ++ "<lambda>") params body scope (cloFrom X.env.cells scope.names []) pm c' ctv)) (hfn : H f = none) (hfr : f ∉ frs X.stack)
    (hbind : bindArgs (PySem.W.kla_fn "<lambda>" (X.env.qual ++ "<lambda>") params body scope (cloFrom X.env.cells scope.names []) pm (.ref c') ctv) ⟨[], []⟩ = pure [])
    (hbody : ∀ (A : Around) (outer : List Env) (s : Shared) (H : Hp) (E : XK), Room k (A.deeper (lamEnv X scope s.heap.objs.size f c')) → PE (lamCx X A outer s H E scope f c') body (t E)) :
    Acts X.prog X.w X.K X.mg X.base (frs X.stack) s H f c' (X.env.qual ++ "<lambda>") (k + 1) (fun E H' Q => t E σ H' Q) := by
  intro A outer s1 HZ Q E lt hr e0 hc ht
  have of1 : s1.heap.get? f = some (PySem.W.kla_obj "<lambda>" (X.env.qual ++ "<lambda>") params body scope (cloFrom X.env.cells scope.names []) pm c' ctv) := lt.un.keep f _ hf hfn hfr (fun z => nomatch z)
  obtain ⟨⟨oc, vs, tt, hoc, hdc, hvc⟩, _, _⟩ := e0.hok c' _ hc
  have lim : s1.heap.NoLimit := e0.mod.nolimit.keeps fun b o e => (e0.bs b o e).1
  refine PySem.W.kla_callFunE hr.depth of1 rfl L.co L.gen rfl ⟨c', oc, vs, tt, rfl, hoc, hdc, hvc⟩ ?_
  rw [hbind]
  refine wpAny_pure (wpAny_newFunctionEnv (fun y hy => (L.own y hy).2) (fun y hy => absurd hy (by simp)) (fun h₁ hns hsb => ⟨lim.fresh _ hsb, ?_⟩) L.kind)
  show codeAny _ _ (.expr body (lamEnv X scope s1.heap.objs.size f c')) _ _
  have kp : ∀ b o, s1.heap.get? b = some o → h₁.get? b = some o := fun b o e => hsb.extBut b o (Nat.ne_of_lt (Heap.lt_size e)) (Heap.get?_push_of_some _ e)
  have J : Inv (lamCx X A outer s1 HZ E scope f c') [] σ HZ { s1 with heap := h₁, toks := s1.toks + ([] : List (Str × Value)).length } :=
    lam_start2 I L e0 hr.hd lt.un hns kp
  refine PySem.W.kla_codeExpr (wpAny_mono ((hbody _ _ s1 HZ E (hr.deeper _)).run [] _ _ HZ Q J ht) (fun v s' hq => ?_) fun e s' hq => hq)
  obtain ⟨w', H', J', rv, q⟩ := hq
  exact ⟨w', H', J'.os, J'.bare, J'.base, J'.hok, rv, q⟩
end
/-- from a def's body that runs later -/
theorem Later.at_ {fs : List Addr} {s0 : Shared} {H0 : Hp} {CXg : CXT} {P : Program} {w : World} {K : PySem.W.Frag} {mg : Str → Option Value} {base : Heap} {N : List Str} {qg : Str} {sg : Scope} {g : Addr} {cdg : Value} {A : Around} {outer : List Env} {s : Shared} {H : Hp} {E : XK}
    {pn : List (Addr × Obj)} {xe : Value → Shared → Prop} {pins : List (Addr × Obj)} {σ1 : St} {H1 : Hp} {s1 : Shared} (lt : Later fs s0 H0 outer s H) (I : Inv ((cxOf CXg P w K mg base N qg sg g cdg A outer s H E).tr pn xe) pins σ1 H1 s1) :
    Later fs s0 H0 (envOfC qg sg s.heap.objs.size g cdg :: outer) s1 H1 := by
  have u2 : Un (frs outer) [] H H1 s.heap s1.heap := I.base
  have sz : ∀ b o, s0.heap.get? b = some o → ∃ o', s.heap.get? b = some o' := fun b o e => lt.un.there b o e (by simp)
  refine ⟨lt.un.trans2 u2 lt.fr, fun b hb hn => ?_⟩
  have hb' : b = s.heap.objs.size ∨ b ∈ frs outer := by
    have z : b ∈ s.heap.objs.size :: frs outer := hb
    exact List.mem_cons.mp z
  rcases hb' with e | e
  · cases q : s0.heap.get? b with
    | none => rfl
    | some o =>
      obtain ⟨o', z⟩ := sz b o q
      rw [e] at z
      exact absurd (Heap.lt_size z) (Nat.lt_irrefl _)
  · exact lt.fr b e hn
/-- a function object of the maker's, not tracked -/
def FnO (fs : List Addr) (s0 : Shared) (H0 : Hp) (f : Addr) : Prop := ∃ (oc : Value) (od : Option Addr) (fd : FuncData) (sl : Array (Option Value)), s0.heap.get? f = some ⟨oc, od, .func fd, sl⟩ ∧ H0 f = none ∧ f ∉ fs
section
variable {fs : List Addr} {s0 : Shared} {H0 : Hp} {CXg : CXT} {P : Program} {w : World} {K : PySem.W.Frag} {mg : Str → Option Value} {base : Heap} {N : List Str} {qg : Str} {sg : Scope} {g : Addr} {cdg : Value} {A : Around} {outer : List Env} {s : Shared} {H : Hp} {Eg : XK}
  {pn : List (Addr × Obj)} {xe : Value → Shared → Prop}
/-- a(), a the callable that the def got -/
theorem pe_acts {f c' : Addr} {q : Str} {k i : Nat} {tl : TL} {a : Str} {W : WX} {E : XK} {p1 p2 : Pos} (lt : Later fs s0 H0 outer s H) (F : Acts P w K mg base fs s0 H0 f c' q k tl)
    (hf : FnO fs s0 H0 f)
    (tk : Takes ((cxOf CXg P w K mg base N qg sg g cdg A outer s H Eg).tr pn xe) W) (hW : ∀ cls d σ' H', σ'.length = N.length → E cls d H' → W cls d σ' H') (hr : Room k (A.deeper (envOfC qg sg s.heap.objs.size g cdg)))
    (hN : N[i]? = some a) (hv : Vis sg a) (hd : (a == ("__debug__" : Str)) = false := by decide) (hcd : (a == ("__classdict__" : Str)) = false := by decide) :
    PE ((cxOf CXg P w K mg base N qg sg g cdg A outer s H Eg).tr pn xe) (.Call (.Name a p1) [] [] p2) (fun σZ HZ Q => σZ[i]? = some (some (.ref f)) ∧ HZ c' = some (CodeO c' q) ∧ tl E HZ Q) := by
  refine ⟨fun pinsZ sZ σZ HZ Q IZ h => ?_⟩
  obtain ⟨hs, hc, ht⟩ := h
  refine wpAny_Call_Name_kw (thn ((pe_var (pos := p1) (i := i) hN hv hd hcd).run pinsZ sZ σZ HZ (fun v H1 => v = .ref f ∧ H1 = HZ) IZ ⟨.ref f, hs, rfl, rfl⟩) fun u s1 ⟨v, H1, I1, r1, q1⟩ => ?_)
  obtain ⟨ev, eH⟩ := q1
  subst ev
  rw [eH] at I1
  obtain rfl : u = Value.ref f := r1
  have lt1 := lt.at_ I1
  obtain ⟨oc, od, fd, sl, ho, h0, hfs⟩ := hf
  have of1 := lt1.un.keep f _ ho h0 hfs (fun z => nomatch z)
  refine PySem.W.callWith_F0 ⟨_, _, _, _, of1⟩ ?_
  have rc := F _ _ s1 HZ Q E lt1 hr I1.env0 hc ht
  refine wpAny_call (codeAny_mono rc fun r s' hq => ?_)
  cases r with
  | error e =>
    refine tk e s' ?_
    have x := XE.of_call (W := fun c d σ H => σ.length = N.length → W c d σ H) I1 (fun cls d H' h hl => hW cls d σZ H' hl h) hq
    obtain ⟨a', B, sI, pins', σ', H', cls, d, e1, I', nb, up, sky, na, os, ag, w'⟩ := x
    exact ⟨a', B, sI, pins', σ', H', cls, d, e1, I', nb, up, sky, na, os, ag, w' I'.len⟩
  | ok fl =>
    cases fl with
    | ret u => exact I1.after hq
    | next => exact False.elim hq
    | brk => exact False.elim hq
    | cont => exact False.elim hq
end
/-- the def at g takes a callable: TT tl H Q is what its call asks (it lets nothing out) -/
def Takes1 (P : Program) (w : World) (K : PySem.W.Frag) (mg : Str → Option Value) (base : Heap) (g : Addr) (j k : Nat) (TT : TL → Hp → VK → Prop) : Prop :=
  ∀ (fs : List Addr) (s0 : Shared) (H0 : Hp) (f c' : Addr) (q : Str) (tl : TL) (A : Around) (outer : List Env) (s : Shared) (H : Hp) (Q : VK), Acts P w K mg base fs s0 H0 f c' q k tl → FnO fs s0 H0 f →
    Later fs s0 H0 outer s H → Room (j + k) A → Env0 P w K mg base A outer s H → H c' = some (CodeO c' q) → TT tl H Q → codeAny (model P w) A (.call (.ref g) ⟨[.ref f], []⟩) (CR CX0 outer P w H s Q E0) s
theorem ps_exprM {X : Cx} {e : Expr} {te : TE} {pos : Pos} (he : PE X e te) (hs : swapsWith e none pos.line X.env = pure false := by rfl) : PS X (.Expr e pos) (fun D σ H => ∃ Qn : VK, (∀ v H1, Qn v H1 → D.nx σ H1) ∧ te σ H Qn) := by
  refine ⟨fun pins s σ H D I h => ?_⟩
  obtain ⟨Qn, hq, h⟩ := h
  exact wpAny_Expr_any (thn (he.run pins s σ H _ I h) fun u s1 ⟨v, H1, I1, r1, q⟩ => ⟨σ, H1, I1, hq v H1 q⟩) I.quiet hs
/-- try: a() / except x as e: found = e -/
def TCaught (K : PySem.W.Frag) (CS : Addr) : TL → Hp → VK → Prop := fun tl H Q =>
  tl (fun cls d H' => ∃ b, PySem.W.exmOne K cls (.ref CS) = some b ∧ (b = true → ∀ a, H' a = none → Q (.ref a) (upd H' a (ExV cls d a))) ∧ (b = false → False)) H (fun _ H' => Q .non H')
section
variable {P : Program} {w : World} {K : PySem.W.Frag} {mg : Str → Option Value} {base : Heap}
theorem caught_takes {g CS : Addr} {name : Str} {params : Arguments} {body : List Stmt} {scope : Scope} {dV kV doc pm cdv ct oc : Value} {an od : Option Addr} {osl : Array (Option Value)} {k : Nat} {i0 : Nat} {p1 p2 p3 p4 p5 p6 p7 p8 p9 p10 p11 p12 p13 p14 : Pos}
    (lk : K.lookup g = some ⟨oc, od, .func (PySem.W.fnOf name name params body scope dV kV doc pm an cdv ct), osl⟩) (hcd : PySem.W.codeIn K cdv name = true) (S : FnScope ["work", "found", "error"] ["work"] scope)
    (hb : body = [.Assign [.Name "found" p1] (.Constant .none i0 p2) p3, .Try [.Expr (.Call (.Name "work" p4) [] [] p5) p6] [.ExceptHandler (some (.Name "NetError" p7)) (some "error") [.Assign [.Name "found" p8] (.Name "error" p9) p10] p11] [] [] p12, .Return (some (.Name "found" p13)) p14])
    (hbind : ∀ us : List Value, us.length = 1 → bindArgs (PySem.W.fnOf name name params body scope dV kV doc pm an cdv ct) ⟨us, []⟩ = pure ((["work"] : List Str).zip us))
    (h1 : scope.names.lookup ("work" : Str) = some .local) (h2 : scope.names.lookup ("found" : Str) = some .local) (h3 : scope.names.lookup ("error" : Str) = some .local) (hge : scope.names.lookup ("NetError" : Str) = some .globalImplicit) (hme : mg "NetError" = some (.ref CS)) :
    Takes1 P w K mg base g 1 k (TCaught K CS) := by
  intro fs s0 H0 f c' q tl A outer s H Q F hf lt hr e0 hc ht
  have hr1 : Room (k + 1) A := by rw [Nat.add_comm]; exact hr
  refine run_ofS (N := ["work", "found", "error"]) (ps := ["work"]) (us := [.ref f]) (vs := [.ref f]) (k := k) (E := E0) (CX := CX0) lk hcd S hr1 e0 (BindsTo.of_eq (hbind _ rfl)) (.cons rfl .nil) rfl fun hr' => ?_
  subst hb
  refine ⟨_, PSs.nox (pss_cons (ps_set (i := 1) S.nd rfl (.inl h2) pe_non) (pss_cons (ps_try_keep (i := 2) (j := 1) (c := .ref CS) (Wout := fun _ _ _ _ => False)
      (tb := fun W D σ H => ∃ Ech : XK, (∀ cls d σ' H', σ'.length = 3 → Ech cls d H' → W cls d σ' H') ∧ σ[0]? = some (some (.ref f)) ∧ H c' = some (CodeO c' q) ∧ ∃ Qn : VK, (∀ v H1, Qn v H1 → D.nx σ H1) ∧ tl Ech H Qn)
      rfl rfl rfl S.nd rfl h3 rfl h2 (by decide) ⟨hge, by decide, .inl hme⟩ LamX.takes0 (fun W pn xe tk _ => ?_)) (pss_one (ps_ret (pe_var (i := 1) rfl (.inl h2)))))), ?_⟩
  · refine ⟨fun pins s' σ H' D I h' => ?_⟩
    obtain ⟨Ech, hW, q1, q2, Qn, hq, q3⟩ := h'
    have hp := pe_acts (CXg := CX0) (Eg := E0) (i := 0) (p1 := p4) (p2 := p5) (pn := pn) (xe := xe) (E := Ech) lt F hf tk hW hr' rfl (.inl h1)
    exact (pss_one (ps_exprM hp)).run pins s' σ H' D I ⟨Qn, hq, q1, q2, q3⟩
  · refine ⟨fun cls d H' => ∃ b, PySem.W.exmOne K cls (.ref CS) = some b ∧ (b = true → ∀ a, H' a = none → Q (.ref a) (upd H' a (ExV cls d a))) ∧ (b = false → False), fun cls d σ' H' hl h => ?_, rfl, hc, fun _ H' => Q .non H', fun v H1 q => ⟨_, rfl, q⟩, ht⟩
    · obtain ⟨b, e1, e2, e3⟩ := h
      refine ⟨b, e1, fun hb a na => ?_, fun hb => e3 hb⟩
      match σ', hl with
      | [_, _, _], _ => exact ⟨_, rfl, e2 hb a na⟩
end
section
variable {X : Cx}
/-- x(lambda: body) -/
theorem pe_lam1 {T : List (Addr × Str)} {TT : TL → Hp → VK → Prop} {x : Str} {g c Pt : Addr} {j k : Nat} {params : Arguments} {body : Expr} {scope : Scope} {t : XK → TE} {p lpos pos : Pos}
    (G : Takes1 X.prog X.w X.K X.mg X.base g j (k + 1) TT) (hm : X.mg x = some (.ref g)) (hk : PySem.W.keepIn X.K (.ref g) = true) (TB : TabB X.base X.mg c Pt) (hcode : X.env.code = .ref c) (hmT : (Pt, X.env.qual ++ "<lambda>") ∈ T) (hu : ∀ p ∈ T, p.1 = Pt → p.2 = X.env.qual ++ "<lambda>")
    (hr : Room (j + (k + 1)) X.A) (L : LamS X.env.scope scope)
    (hbody : ∀ (A : Around) (outer : List Env) (s : Shared) (H : Hp) (E : XK) (f c' : Addr), Room k (A.deeper (lamEnv X scope s.heap.objs.size f c')) → PE (lamCx X A outer s H E scope f c') body (t E))
    (hg : Gl X x := by rfl) (hdef : defaultsOf params X.env = ([], []) := by rfl)
    (hbind : ∀ (q : Str) (cl : List (Str × Addr)) (pm cv ctv : Value), bindArgs (PySem.W.kla_fn "<lambda>" q params body scope cl pm cv ctv) ⟨[], []⟩ = pure [] := by intros; rfl)
    (hdb : (x == ("__debug__" : Str)) = false := by decide) :
    PE X (.Call (.Name x p) [.Lambda params body scope lpos] [] pos) (LamX.tLam T TT t) := by
  refine ⟨fun pins s σ H Q I h => ?_⟩
  obtain ⟨hT, h⟩ := h
  refine wpAny_Call_Name_kw (ld_glob I hg hm ?_ hdb)
  refine PySem.W.callWith_K (h₀ := X.base) I.ok.mod.kin hk ?_ (by rfl) (by rfl)
  show wpAny _ _ (spliced ((false, eval (.Lambda params body scope lpos) X.env) :: backTo pos (starEach [] X.env))) _ _ s
  refine Calls.spliced_cons (lam_make2 I TB hcode hmT hu hT hdef (L.has I.ok) fun f c' pm' ctv H1 s' I1 eN T1 hf hfn hfr hco => ?_)
  refine Calls.spliced_nil ⟨I1.kIn, ?_⟩
  have F := lam_acts (k := k) (t := t) I1 L hf hfn hfr (hbind _ _ _ _ _) (fun A outer s H E hr2 => hbody A outer s H E f c' hr2)
  have rc : codeAny (model X.prog X.w) X.A (.call (.ref g) ⟨[.ref f], []⟩) (CR CX0 X.stack X.prog X.w H1 s' Q E0) s' :=
    G (frs X.stack) s' H1 f c' _ _ X.A X.stack s' H1 Q F ⟨_, _, _, _, hf, hfn, hfr⟩ ⟨Un.refl, fun b hb hn => absurd hb hn⟩ hr I1.env0 hco (h H1 eN T1)
  refine wpAny_call (codeAny_mono rc fun r s2 hq => ?_)
  cases r with
  | error e => exact (show False from hq).elim
  | ok fl =>
    cases fl with
    | ret u => exact I1.after hq
    | next => exact False.elim hq
    | brk => exact False.elim hq
    | cont => exact False.elim hq
end
end L2
set_option maxHeartbeats 4000000
/-! E4: defs as one fact each. -/
namespace L2
open PySem PySem.Spec PyProof.Rows PySem.EX
/-- a def of the module by its name, with its promise -/
structure Fnc (P : Program) (w : World) (K : PySem.W.Frag) (mg : Str → Option Value) (base : Heap) (CX : CXT) (k : Nat) (x : Str) (ps : List Str) (sp : Sp) : Prop where
  ex : ∃ (f : Addr) (fd : FuncData), FnOk P w K mg base CX k f fd ps sp ∧ mg x = some (.ref f) ∧ PySem.W.keepIn K (.ref f) = true ∧ Binds K fd ps []
/-- what the head tells of a def -/
def Def (K : PySem.W.Frag) (mg : Str → Option Value) (x : Str) (st : Stmt) : Prop := (∃ fd, FunD K x x (defArgs st) (defBody st) (defScope st) [] [] (He.ga K x) fd) ∧ mg x = some (.ref (He.ga K x))
def tFn (sp : Sp) (E : XK) (t : TA) : TE := fun σ H Q => t σ H fun vs H1 => sp vs H1 Q E
section
variable {P : Program} {w : World} {K : PySem.W.Frag} {mg : Str → Option Value} {base : Heap}
/-- THE RULE for a def -/
theorem fnc {CX : CXT} {k : Nat} {x : Str} {st : Stmt} {N ps : List Str} {sp : Sp} (D : Def K mg x st) (S : FnScope N ps (defScope st)) (len : ∀ vs H Q E, sp vs H Q E → vs.length = ps.length)
    (hbind : ∀ (kV doc pm : Value) (an : Option Addr) (cdv ct : Value) (us : List Value), us.length = ps.length → bindArgs (PySem.W.fnOf x x (defArgs st) (defBody st) (defScope st) .none kV doc pm an cdv ct) ⟨us, []⟩ = pure (ps.zip us))
    (hbody : ∀ (cdv : Value) (A : Around) (outer : List Env) (s : Shared) (H : Hp) (vs : List V) (Q : VK) (E : XK), Room k (A.deeper (envOfC x (defScope st) s.heap.objs.size (He.ga K x) cdv)) → sp vs H Q E →
      ∃ t, PSs (cxOf CX P w K mg base N x (defScope st) (He.ga K x) cdv A outer s H E) (defBody st) t ∧ t { nx := fun _ H' => Q .non H', rt := Q } (start N vs) H) : Fnc P w K mg base CX (k + 1) x ps sp := by
  obtain ⟨⟨fd, F⟩, g⟩ := D
  exact ⟨_, fd, F.ok S len hbody, g, F.kp, F.bindsN hbind⟩
/-- .. of a def that lets nothing out -/
theorem fnc0 {k : Nat} {x : Str} {st : Stmt} {N ps : List Str} {sp : Sp} (D : Def K mg x st) (S : FnScope N ps (defScope st)) (len : ∀ vs H Q E, sp vs H Q E → vs.length = ps.length)
    (hbind : ∀ (kV doc pm : Value) (an : Option Addr) (cdv ct : Value) (us : List Value), us.length = ps.length → bindArgs (PySem.W.fnOf x x (defArgs st) (defBody st) (defScope st) .none kV doc pm an cdv ct) ⟨us, []⟩ = pure (ps.zip us))
    (hbody : ∀ (cdv : Value) (A : Around) (outer : List Env) (s : Shared) (H : Hp) (vs : List V) (Q : VK) (E : XK), Room k (A.deeper (envOfC x (defScope st) s.heap.objs.size (He.ga K x) cdv)) → sp vs H Q E →
      ∃ t, PSs (cxOf CX0 P w K mg base N x (defScope st) (He.ga K x) cdv A outer s H E).nox (defBody st) t ∧ t { nx := fun _ H' => Q .non H', rt := Q } (start N vs) H) : Fnc P w K mg base CX0 (k + 1) x ps sp :=
  fnc D S len hbind fun cdv A outer s H vs Q E hr h => by
    obtain ⟨t, h1, h2⟩ := hbody cdv A outer s H vs Q E hr h
    exact ⟨t, h1.nox, h2⟩
end
section
variable {X : Cx} {CX : CXT} {k : Nat} {x : Str} {ps : List Str} {sp : Sp} {E : XK} {p pos : Pos} {e : Expr} {es : List Expr} {t : TA}
theorem pe_fn (F : Fnc X.prog X.w X.K X.mg X.base CX k x ps sp) (hr : Room k X.A) (hx : Passes CX X E) (ha : PA X (e :: es) t) (hg : Gl X x := by rfl) (hdb : (x == ("__debug__" : Str)) = false := by decide)
    (he : starEach (e :: es) X.env = (false, eval e X.env) :: starEach es X.env := by rfl) (hpl : (backTo pos (starEach es X.env)).any (·.1) = false := by rfl) : PE X (.Call (.Name x p) (e :: es) [] pos) (tFn sp E t) := by
  obtain ⟨f, fd, ok, g, kp, b⟩ := F.ex
  have h := pe_call (p := p) (pos := pos) ok hr hg g kp b .nil hx ha hdb he hpl
  refine ⟨fun pins s σ H Q I q => h.run pins s σ H Q I ?_⟩
  show t σ H fun vs H1 => sp (vs ++ []) H1 Q E
  have e0 : (fun (vs : List V) (H1 : Hp) => sp (vs ++ []) H1 Q E) = fun vs H1 => sp vs H1 Q E := by
    funext vs H1
    rw [List.append_nil]
  rw [e0]
  exact q
theorem pe_fn0 (F : Fnc X.prog X.w X.K X.mg X.base CX k x ps sp) (hr : Room k X.A) (hx : Passes CX X E) (hg : Gl X x := by rfl) (hdb : (x == ("__debug__" : Str)) = false := by decide) : PE X (.Call (.Name x p) [] [] pos) (tFn sp E tNil) := by
  obtain ⟨f, fd, ok, g, kp, b⟩ := F.ex
  exact pe_call0 (p := p) (pos := pos) ok hr hg g kp b .nil hx hdb
end
theorem Fnc.imp {P : Program} {w : World} {K : PySem.W.Frag} {mg : Str → Option Value} {base : Heap} {CX : CXT} {k : Nat} {x : Str} {ps : List Str} {sp sp' : Sp} (F : Fnc P w K mg base CX k x ps sp) (h : ∀ vs H Q E, sp' vs H Q E → sp vs H Q E) : Fnc P w K mg base CX k x ps sp' := by
  obtain ⟨f, fd, ok, r⟩ := F.ex
  exact ⟨f, fd, ok.imp h, r⟩
end L2
set_option maxHeartbeats 4000000
/-! E5: the tape of the draws: what it is, the promises of the law's own helpers. -/
namespace L2
open PySem PySem.Spec PyProof.Rows PySem.EX
abbrev kLarge : Key := Sum.inr "large"
abbrev kRest : Key := Sum.inr "rest"
abbrev kCells : Key := Sum.inr "cells"
abbrev kTurn : Key := Sum.inr "turn"
def tapeL (l c : Addr) (r n : Int) : List (Key × V) := [(kLarge, .ref l), (kRest, .int r), (kCells, .ref c), (kTurn, .int n)]
theorem key_ne {a b : Str} (h : a ≠ b) : ¬ (Sum.inr a : Key) = Sum.inr b := fun q => h (Sum.inr.inj q)
theorem sLR : ¬ ("large" : Str) = "rest" := by decide +kernel
theorem sLT : ¬ ("large" : Str) = "turn" := by decide +kernel
theorem sRT : ¬ ("rest" : Str) = "turn" := by decide +kernel
theorem sTR : ¬ ("turn" : Str) = "rest" := by decide +kernel
theorem sCR : ¬ ("cells" : Str) = "rest" := by decide +kernel
theorem sCT : ¬ ("cells" : Str) = "turn" := by decide +kernel
theorem nLR : ¬ kLarge = kRest := key_ne (by decide +kernel)
theorem nLC : ¬ kLarge = kCells := key_ne (by decide +kernel)
theorem nLT : ¬ kLarge = kTurn := key_ne (by decide +kernel)
theorem nRC : ¬ kRest = kCells := key_ne (by decide +kernel)
theorem nRT : ¬ kRest = kTurn := key_ne (by decide +kernel)
theorem nCT : ¬ kCells = kTurn := key_ne (by decide +kernel)
theorem tape_large (l c : Addr) (r n : Int) : valV (tapeL l c r n) kLarge = some (.ref l) := valV_pos rfl
theorem tape_rest (l c : Addr) (r n : Int) : valV (tapeL l c r n) kRest = some (.int r) := (valV_neg nLR).trans (valV_pos rfl)
theorem tape_cells (l c : Addr) (r n : Int) : valV (tapeL l c r n) kCells = some (.ref c) := (valV_neg nLC).trans ((valV_neg nRC).trans (valV_pos rfl))
theorem tape_turn (l c : Addr) (r n : Int) : valV (tapeL l c r n) kTurn = some (.int n) := (valV_neg nLT).trans ((valV_neg nRT).trans ((valV_neg nCT).trans (valV_pos rfl)))
theorem put_rest (l c : Addr) (r n z : Int) : putK (tapeL l c r n) kRest (.int z) = tapeL l c z n := by
  simp [putK, tapeL, sLR, sCR, sTR]
theorem put_turn (l c : Addr) (r n z : Int) : putK (tapeL l c r n) kTurn (.int z) = tapeL l c r z := by
  simp [putK, tapeL, sLT, sRT, sCT]
theorem sLC : ¬ ("large" : Str) = "cells" := by decide +kernel
theorem sRC : ¬ ("rest" : Str) = "cells" := by decide +kernel
theorem merge_tape (l c : Addr) (r n : Int) : mergeK [] (tapeL l c r n) = tapeL l c r n := by
  simp [mergeK, tapeL, putK, sLR, sLT, sRT, sCT, sLC, sRC]
section
variable {H : Hp} {t l c : Addr} {r n : Int}
theorem dg_large (h : H t = some (.dK (tapeL l c r n))) : DGet H t (.str "large") (some (.ref l)) := by rw [← tape_large l c r n]; exact DGet.k (k := kLarge) h
theorem dg_rest (h : H t = some (.dK (tapeL l c r n))) : DGet H t (.str "rest") (some (.int r)) := by rw [← tape_rest l c r n]; exact DGet.k (k := kRest) h
theorem dg_cells (h : H t = some (.dK (tapeL l c r n))) : DGet H t (.str "cells") (some (.ref c)) := by rw [← tape_cells l c r n]; exact DGet.k (k := kCells) h
theorem dg_turn (h : H t = some (.dK (tapeL l c r n))) : DGet H t (.str "turn") (some (.int n)) := by rw [← tape_turn l c r n]; exact DGet.k (k := kTurn) h
theorem dp_rest (z : Int) (h : H t = some (.dK (tapeL l c r n))) : DPut H t (.str "rest") (.int z) (upd H t (.dK (tapeL l c z n))) := by rw [← put_rest l c r n z]; exact DPut.k (k := kRest) h (by show 4 < sizeLine; decide)
theorem dp_turn (z : Int) (h : H t = some (.dK (tapeL l c r n))) : DPut H t (.str "turn") (.int z) (upd H t (.dK (tapeL l c r z))) := by rw [← put_turn l c r n z]; exact DPut.k (k := kTurn) h (by show 4 < sizeLine; decide)
end
/-- the tape stands at t, its large numbers at l, its cells at c -/
structure Tape (H : Hp) (t l c : Addr) : Prop where
  ex : ∃ (r n : Int) (lg cs : List Int), H t = some (.dK (tapeL l c r n)) ∧ H l = some (.lst (lg.map V.int)) ∧ H c = some (.lst (cs.map V.int))
  lc : l ≠ c
theorem Tape.tl {H : Hp} {t l c : Addr} (T : Tape H t l c) : t ≠ l := by
  obtain ⟨r, n, lg, cs, h1, h2, _⟩ := T.ex
  exact ne_of h1 h2 (by intro z; cases z)
theorem Tape.tc {H : Hp} {t l c : Addr} (T : Tape H t l c) : t ≠ c := by
  obtain ⟨r, n, lg, cs, h1, _, h2⟩ := T.ex
  exact ne_of h1 h2 (by intro z; cases z)
/-- all else stands -/
def But (t l : Addr) (H H' : Hp) : Prop := ∀ b o, H b = some o → b ≠ t → b ≠ l → H' b = some o
theorem But.refl {t l : Addr} {H : Hp} : But t l H H := fun _ _ h _ _ => h
theorem But.trans {t l : Addr} {H H1 H2 : Hp} (a : But t l H H1) (b : But t l H1 H2) : But t l H H2 := fun c o h h1 h2 => b c o (a c o h h1 h2) h1 h2
theorem But.of {t l : Addr} {H H' : Hp} (a : Same H H') : But t l H H' := fun c o h _ _ => a c o h
theorem But.free {t l p : Addr} {H H' : Hp} (a : But t l H H') (ht : p ≠ t) (hl : p ≠ l) (h : H' p = none) : H p = none := by
  cases q : H p with
  | none => rfl
  | some o => rw [a p o q ht hl] at h; cases h
theorem But.seq {K : PySem.W.Frag} {t l a : Addr} {H H' : Hp} {xs : List V} (e : But t l H H') (ht : a ≠ t) (hl : a ≠ l) (h : SqL K H a xs) : SqL K H' a xs := by
  rcases h with (h | ⟨o, h⟩) | h
  · exact .inl (.inl (e _ _ h ht hl))
  · exact .inl (.inr ⟨o, e _ _ h ht hl⟩)
  · exact .inr h
theorem Same.upd {H : Hp} {p : Addr} {o : HO} (h : H p = none) : Same H (L2.upd H p o) := fun b u e => by rw [upd_ne (ne_of_none e h)]; exact e
theorem Same.tape {H H' : Hp} {t l c : Addr} (a : Same H H') (T : Tape H t l c) : Tape H' t l c := by
  obtain ⟨r, n, lg, cs, h1, h2, h3⟩ := T.ex
  exact ⟨⟨r, n, lg, cs, a _ _ h1, a _ _ h2, a _ _ h3⟩, T.lc⟩
theorem map_get {α : Type} {f : α → V} {l : List α} {i : Nat} {x : V} (h : (l.map f)[i]? = some x) : ∃ z, l[i]? = some z ∧ x = f z := by
  rw [List.getElem?_map] at h
  cases e : l[i]? with
  | none => rw [e] at h; cases h
  | some z => rw [e] at h; exact ⟨z, rfl, (Option.some.inj h).symm⟩
theorem line1000 {n : Nat} (h : n ≤ 1000) : n ≤ sizeLine := Nat.le_trans h (by decide)
theorem Same.put {H H2 : Hp} {D : Addr} {o : HO} (s : Same H H2) (h : H D = none) : Same H (L2.upd H2 D o) := fun b u e => by rw [upd_ne (ne_of_none e h)]; exact s b u e
theorem Same.free' {H H' : Hp} (e : Same H H') {l : Addr} (h : H' l = none) : H l = none := e.free h
theorem map_snoc {α : Type} {f : α → V} (l : List α) (x : α) : l.map f ++ [f x] = (l ++ [x]).map f := by simp
theorem atI_int {α : Type} {xs : List α} {d : Int} {v : α} (h0 : 0 ≤ d) (h : xs[d.toNat]? = some v) : atI xs d = some v := by
  have e : d = (d.toNat : Int) := by omega
  rw [e]
  exact atI_nat h
theorem erase_permI {α : Type} : ∀ {l : List α} {i : Nat} {z : α}, l[i]? = some z → (z :: l.eraseIdx i).Perm l
  | [], i, z, h => by simp at h
  | a :: l, 0, z, h => by
    have e : a = z := Option.some.inj h
    subst e
    exact .refl _
  | a :: l, i + 1, z, h => by
    have q := erase_permI (l := l) (i := i) (z := z) h
    exact (List.Perm.swap a z _).trans (q.cons a)
theorem perm_erase {α : Type} {l xs f : List α} {i : Nat} {z : α} (h : l[i]? = some z) (p : (f ++ l).Perm xs) : ((f ++ [z]) ++ l.eraseIdx i).Perm xs := by
  have q : (f ++ (z :: l.eraseIdx i)).Perm (f ++ l) := (erase_permI h).append_left f
  rw [List.append_assoc]
  exact q.trans p
theorem map_erase {α β : Type} (f : α → β) : ∀ (l : List α) (i : Nat), (l.map f).eraseIdx i = (l.eraseIdx i).map f
  | [], _ => by simp
  | _ :: _, 0 => rfl
  | a :: l, i + 1 => by
    show f a :: (l.map f).eraseIdx i = f a :: (l.eraseIdx i).map f
    rw [map_erase f l i]
theorem seqIx {d : Int} {n : Nat} (h0 : 0 ≤ d) (h1 : d < n) : seqIndex? d n = some d.toNat := by
  have h : ¬ d < 0 := by omega
  simp [seqIndex?, h, h0, h1]
/-! ### promises -/
def spBegun (K : PySem.W.Frag) : Sp := fun vs H Q _ => ∃ (a : Addr) (ns : List Int), vs = [.ref a] ∧ SqL K H a (ns.map V.int) ∧ ns.length ≤ 63 ∧
  ∀ (t l c : Addr) (H' : Hp), Same H H' → H t = none → H l = none → H c = none → Tape H' t l c → Q (.ref t) H'
def spBlend : Sp := fun vs H Q _ => ∃ (t l c : Addr), vs = [.ref t] ∧ Tape H t l c ∧ ∀ (v : Int) (H' : Hp), Tape H' t l c → (∀ b o, H b = some o → b ≠ t → H' b = some o) → Q (.int v) H'
def spDraw : Sp := fun vs H Q _ => ∃ (t l c : Addr) (m : Int), vs = [.ref t, .int m] ∧ 0 < m ∧ m < 1073741824 ∧ Tape H t l c ∧ ∀ (d : Int) (H' : Hp), 0 ≤ d → d < m → Tape H' t l c → But t l H H' → Q (.int d) H'
def spPick (K : PySem.W.Frag) : Sp := fun vs H Q _ => ∃ (t l c a : Addr) (xs : List V), vs = [.ref t, .ref a] ∧ SqL K H a xs ∧ xs ≠ [] ∧ xs.length < 1073741824 ∧ a ≠ t ∧ a ≠ l ∧ Tape H t l c ∧
  ∀ (i : Nat) (v : V) (H' : Hp), xs[i]? = some v → Tape H' t l c → But t l H H' → Q v H'
def spShuf (K : PySem.W.Frag) : Sp := fun vs H Q _ => ∃ (t l c a : Addr) (xs : List Int), vs = [.ref t, .ref a] ∧ SqL K H a (xs.map V.int) ∧ xs.length < 1000 ∧ Tape H t l c ∧
  ∀ (ys : List Int) (p : Addr) (H' : Hp), ys.Perm xs → H p = none → H' p = some (.lst (ys.map V.int)) → Tape H' t l c → But t l H H' → Q (.ref p) H'
end L2
set_option maxHeartbeats 4000000
/-! E6: data in plain Lean: lists of ints, of texts, of arrows; how they stand in a heap. -/
namespace L2
open PySem PySem.Spec PyProof.Rows PySem.EX
section
variable {α : Type} {f : α → PyData}
theorem lay_map (h : ∀ a, (f a).canLay0 = true) : ∀ l : List α, PyData.canLayAll0 (l.map f) = true
  | [] => rfl
  | a :: l => by rw [List.map_cons, PyData.canLayAll0, h a, lay_map h l] <;> rfl
theorem lay_mem : ∀ {l : List α}, (∀ a ∈ l, (f a).canLay0 = true) → PyData.canLayAll0 (l.map f) = true
  | [], _ => rfl
  | a :: l, h => by rw [List.map_cons, PyData.canLayAll0, h a List.mem_cons_self, lay_mem fun b hb => h b (List.mem_cons_of_mem _ hb)] <;> rfl
theorem dep_map {n : Nat} (h : ∀ a, (f a).depth ≤ n) : ∀ l : List α, PyData.depthAll (l.map f) ≤ n
  | [] => Nat.zero_le _
  | a :: l => by
    rw [List.map_cons, PyData.depthAll]
    exact Nat.max_le.mpr ⟨h a, dep_map h l⟩
theorem eqv_map [DecidableEq α] (h : ∀ a b, (f a).eqv (f b) = decide (a = b)) : ∀ l m : List α, PyData.eqvAll (l.map f) (m.map f) = decide (l = m)
  | [], [] => by simp [PyData.eqvAll]
  | [], _ :: _ => by simp [PyData.eqvAll]
  | _ :: _, [] => by simp [PyData.eqvAll]
  | a :: l, b :: m => by
    rw [List.map_cons, List.map_cons, PyData.eqvAll, h a b, eqv_map h l m]
    by_cases e : a = b <;> by_cases e2 : l = m <;> simp [e, e2]
theorem shaped_of {d : PyData} (h : d.canLay0 = true) (n : d.depth ≤ 64) : SeqAt.shaped d = true := by
  unfold SeqAt.shaped
  rw [h, decide_eq_true n] <;> rfl
end
/-! ### ints -/
theorem eqv_int (i j : Int) : (PyData.int i).eqv (.int j) = decide (i = j) := by
  rw [PyData.eqv, Bool.beq_eq_decide_eq]
theorem eqv_str (i j : Str) : (PyData.str i).eqv (.str j) = decide (i = j) := by
  rw [PyData.eqv, Bool.beq_eq_decide_eq]
theorem eqv_ints (l m : List Int) : (PyData.list (l.map .int)).eqv (.list (m.map .int)) = decide (l = m) := by
  rw [PyData.eqv]
  exact eqv_map eqv_int l m
theorem shaped_ints (l : List Int) : SeqAt.shaped (.list (l.map .int)) = true :=
  shaped_of (by rw [PyData.canLay0]; exact lay_map (fun _ => rfl) l) (by rw [PyData.depth]; exact Nat.succ_le_succ (Nat.le_trans (dep_map (n := 0) (fun _ => Nat.le_refl _) l) (by decide)))
section
variable {K : PySem.W.Frag} {H : Hp}
theorem dp_all {α : Type} {f : α → PyData} {g : α → V} (h : ∀ a, Dp K H (g a) (f a)) : ∀ l : List α, DpAll K H (l.map g) (l.map f)
  | [] => .nil
  | a :: l => .cons (h a) (dp_all h l)
theorem dp_ints {a : Addr} {l : List Int} (h : SqL K H a (l.map V.int)) : Dp K H (.ref a) (.list (l.map .int)) := .lst h (dp_all (fun i => .int i) l)
theorem dp_nil {a : Addr} (h : SqL K H a []) : Dp K H (.ref a) (.list []) := .lst h .nil
end
theorem eqv_nilL (l : List PyData) : (PyData.list l).eqv (.list []) = l.isEmpty := by
  cases l <;> rw [PyData.eqv] <;> simp [PyData.eqvAll]
theorem shaped_nil : SeqAt.shaped (.list []) = true := shaped_of rfl (by decide)
/-! ### texts -/
theorem shaped_strs {l : List Str} (h : ∀ x ∈ l, (PyData.str x).canLay0 = true) : SeqAt.shaped (.list (l.map .str)) = true :=
  shaped_of (by rw [PyData.canLay0]; exact lay_mem h) (by rw [PyData.depth]; exact Nat.succ_le_succ (Nat.le_trans (dep_map (n := 0) (fun _ => Nat.le_refl _) l) (by decide)))
theorem eqv_strs (l m : List Str) : (PyData.list (l.map .str)).eqv (.list (m.map .str)) = decide (l = m) := by
  rw [PyData.eqv]
  exact eqv_map eqv_str l m
theorem dp_strs {K : PySem.W.Frag} {H : Hp} {a : Addr} {l : List Str} (h : SqL K H a (l.map V.str)) : Dp K H (.ref a) (.list (l.map .str)) := .lst h (dp_all (fun i => .str i) l)
/-! ### arrows: triples of ints -/
abbrev Ar := Int × Int × Int
def arL (a : Ar) : List Int := [a.1, a.2.1, a.2.2]
def arD (a : Ar) : PyData := .tuple ((arL a).map .int)
theorem arL_inj {a b : Ar} (h : arL a = arL b) : a = b := by
  obtain ⟨a1, a2, a3⟩ := a
  obtain ⟨b1, b2, b3⟩ := b
  simp [arL] at h
  obtain ⟨h1, h2, h3⟩ := h
  rw [h1, h2, h3]
theorem eqv_ar (a b : Ar) : (arD a).eqv (arD b) = decide (a = b) := by
  unfold arD
  rw [PyData.eqv, eqv_map eqv_int]
  by_cases e : a = b
  · subst e; simp
  · rw [decide_eq_false e, decide_eq_false fun q => e (arL_inj q)]
theorem lay_ar (a : Ar) : (arD a).canLay0 = true := by
  unfold arD
  rw [PyData.canLay0]
  exact lay_map (fun _ => rfl) _
theorem dep_ar (a : Ar) : (arD a).depth ≤ 1 := by
  unfold arD
  rw [PyData.depth]
  exact Nat.succ_le_succ (dep_map (n := 0) (fun _ => Nat.le_refl _) _)
/-- an arrow stands at the value v -/
def ArV (H : Hp) (v : V) (a : Ar) : Prop := ∃ p, v = .ref p ∧ H p = some (.tup ((arL a).map V.int))
abbrev Ars (H : Hp) : List V → List Ar → Prop := Paired (ArV H)
theorem ArV.keep {H H' : Hp} {v : V} {a : Ar} (h : ArV H v a) (k : ∀ b xs, H b = some (.tup xs) → H' b = some (.tup xs)) : ArV H' v a := by
  obtain ⟨p, e, h⟩ := h
  exact ⟨p, e, k _ _ h⟩
theorem Paired.imp {α β : Type} {F G : α → β → Prop} (f : ∀ a b, F a b → G a b) : ∀ {l : List α} {m : List β}, Paired F l m → Paired G l m
  | _, _, .nil => .nil
  | _, _, .cons h t => .cons (f _ _ h) (Paired.imp f t)
theorem Ars.keep {H H' : Hp} {vs : List V} {as : List Ar} (h : Ars H vs as) (k : ∀ b xs, H b = some (.tup xs) → H' b = some (.tup xs)) : Ars H' vs as := Paired.imp (fun _ _ h => h.keep k) h
theorem Same.tups {H H' : Hp} (s : Same H H') : ∀ b xs, H b = some (.tup xs) → H' b = some (.tup xs) := fun b xs e => s b _ e
/-- the tape's writes touch no tuple -/
theorem But.tups {H H' : Hp} {t l c : Addr} (s : But t l H H') (T : Tape H t l c) : ∀ b xs, H b = some (.tup xs) → H' b = some (.tup xs) := fun b xs e => by
  obtain ⟨r, n, lg, cs, h1, h2, _⟩ := T.ex
  exact s b _ e (ne_of e h1 (by intro z; cases z)) (ne_of e h2 (by intro z; cases z))
section
variable {K : PySem.W.Frag} {H : Hp}
theorem ArV.dp {v : V} {a : Ar} (h : ArV H v a) : Dp K H v (arD a) := by
  obtain ⟨p, e, h⟩ := h
  rw [e]
  exact .tup (SqT.of h) (dp_all (fun i => .int i) _)
theorem Ars.dp : ∀ {vs : List V} {as : List Ar}, Ars H vs as → DpAll K H vs (as.map arD)
  | _, _, .nil => .nil
  | _, _, .cons h t => .cons h.dp (Ars.dp t)
end
theorem shaped_ars (as : List Ar) : SeqAt.shaped (.tuple (as.map arD)) = true :=
  shaped_of (by rw [PyData.canLay0]; exact lay_map lay_ar as) (by rw [PyData.depth]; exact Nat.le_trans (Nat.succ_le_succ (dep_map dep_ar as)) (by decide))
theorem shaped_arsL (as : List Ar) : SeqAt.shaped (.list (as.map arD)) = true :=
  shaped_of (by rw [PyData.canLay0]; exact lay_map lay_ar as) (by rw [PyData.depth]; exact Nat.le_trans (Nat.succ_le_succ (dep_map dep_ar as)) (by decide))
theorem eqv_ars (as bs : List Ar) : (PyData.tuple (as.map arD)).eqv (.tuple (bs.map arD)) = decide (as = bs) := by
  rw [PyData.eqv]
  exact eqv_map eqv_ar as bs
theorem Ars.length {H : Hp} {vs : List V} {as : List Ar} (h : Ars H vs as) : vs.length = as.length := Paired.length h
end L2
set_option maxHeartbeats 4000000
/-! E7: sorted of data of any shape, over the layer; arrows in order. -/
namespace L2
open PySem PySem.Spec PyProof.Rows PySem.EX
open PySem.W (EachIs AllAlike Sortable dataLe sorted_data)
/-- sorted(xs): every item with its data -/
def rSortG (K : PySem.W.Frag) : List V → Hp → VK → Prop := fun vs H Q => ∃ (a : Addr) (bs : List (V × PyData)), vs = [V.ref a] ∧ SqL K H a (bs.map (·.1)) ∧ (∀ b ∈ bs, Dp K H b.1 b.2) ∧ AllAlike (bs.map (·.2)) ∧ Sortable (bs.map (·.2)) ∧ (∀ b ∈ bs, b.2.depth ≤ 8) ∧
  ∀ p, H p = none → Q (.ref p) (upd H p (.lst ((bs.mergeSort (dataLe false (·.2))).map (·.1))))
theorem each_vals : ∀ {bs : List (V × PyData)} {us : List Value}, Vals (bs.map (·.1)) us → EachIs (fun v (b : V × PyData) => RelV b.1 v) us bs
  | [], _, r => by
    have r' : Vals [] _ := r
    cases r'
    exact .nil
  | b :: bs, _, r => by
    have r' : Vals (b.1 :: bs.map (·.1)) _ := r
    cases r' with
    | cons h t => exact .cons h (each_vals t)
theorem vals_each : ∀ {bs : List (V × PyData)} {us : List Value}, EachIs (fun v (b : V × PyData) => RelV b.1 v) us bs → Vals (bs.map (·.1)) us
  | _, _, .nil => .nil
  | _, _, .cons h t => .cons h (vals_each t)
theorem each_reads {X : Cx} {pins : List (Addr × Obj)} {σ : St} {H : Hp} {s : Shared} (I : Inv X pins σ H s) : ∀ {bs : List (V × PyData)} {us : List Value}, (∀ b ∈ bs, Dp X.K H b.1 b.2) → Vals (bs.map (·.1)) us → EachIs (fun v (b : V × PyData) => ∃ as, Reads s.heap v b.2 as) us bs
  | [], _, _, r => by
    have r' : Vals [] _ := r
    cases r'
    exact .nil
  | b :: bs, _, h, r => by
    have r' : Vals (b.1 :: bs.map (·.1)) _ := r
    cases r' with
    | cons h1 t => exact .cons (Dp.reads I b.2 b.1 _ (h b List.mem_cons_self) h1) (each_reads I (fun c hc => h c (List.mem_cons_of_mem _ hc)) t)
theorem cr_sortG {X : Cx} (hu : X.A.units + 64 < cLine) : CallR X (.builtin "sorted") (rSortG X.K) := by
  intro pins s σ H vs us Q I r h
  obtain ⟨a, bs, rfl, hs, hd, hal, hso, hdp, q⟩ := h
  obtain ⟨its, rv, hl, hz⟩ := I.list hs
  rw [Vals.ref1 r]
  rw [List.length_map] at hz
  refine sorted_data (R := fun v (b : V × PyData) => RelV b.1 v) (enc := fun b => b.2) hl.isList (each_vals rv) (each_reads I hd rv) hal hso hz (fun b hb => by have := hdp b hb; omega) fun out h1 h2 => ?_
  have h3 := vals_each h2
  obtain ⟨ep, he'⟩ := PyProof.Rows.sortedAll_at s.heap its (List.toArray out)
  have hlen : ((bs.mergeSort (dataLe false fun b => b.2)).map (·.1)).length ≤ sizeLine := by
    rw [List.length_map, List.length_mergeSort]
    exact hz
  exact ⟨.ref _, upd H (s.heap.objs.size + 1) (.lst ((bs.mergeSort (dataLe false fun b => b.2)).map (·.1))), I.laid (t' := s.toks) (fun _ _ => PyProof.Rows.sortedAll_old) (Nat.le_succ _) ⟨hlen, out, ep, h3, he'⟩, rfl, q _ (I.hok.fresh (Nat.le_succ _))⟩
/-! ### arrows in order -/
def lt3 (a b : Ar) : Prop := a.1 < b.1 ∨ (a.1 = b.1 ∧ (a.2.1 < b.2.1 ∨ (a.2.1 = b.2.1 ∧ a.2.2 < b.2.2)))
instance (a b : Ar) : Decidable (lt3 a b) := by unfold lt3; infer_instance
theorem lt3_list (a b : Ar) : arL a < arL b ↔ lt3 a b := by
  unfold arL lt3
  simp [List.cons_lt_cons_iff]
theorem lt3_irr (a : Ar) : ¬ lt3 a a := by unfold lt3; omega
theorem lt3_trans {a b c : Ar} (h1 : lt3 a b) (h2 : lt3 b c) : lt3 a c := by
  unfold lt3 at *
  omega
theorem lt3_tri (a b : Ar) : lt3 a b ∨ a = b ∨ lt3 b a := by
  obtain ⟨a1, a2, a3⟩ := a
  obtain ⟨b1, b2, b3⟩ := b
  unfold lt3
  simp only [Prod.mk.injEq]
  omega
def le3 (a b : Ar) : Bool := !decide (lt3 b a)
theorem dataLe_ar : dataLe false arD = le3 := by
  funext a b
  show (!PySem.W.dataLt (arD b) (arD a)) = _
  unfold arD le3
  rw [PySem.W.dataLt_tuple]
  have e := PySem.W.dataLt_ints (arL b) (arL a)
  unfold PySem.W.rowLt at e
  rw [e]
  by_cases h : arL b < arL a
  · rw [decide_eq_true h, decide_eq_true ((lt3_list b a).mp h)]
  · rw [decide_eq_false h, decide_eq_false fun q => h ((lt3_list b a).mpr q)]
/-- ascending without twins -/
def Asc (as : List Ar) : Prop := as.Pairwise lt3
theorem le3_total (a b : Ar) : (le3 a b || le3 b a) = true := by
  unfold le3
  rcases lt3_tri a b with h | h | h
  · have : ¬ lt3 b a := fun q => lt3_irr _ (lt3_trans h q)
    simp [this]
  · subst h
    simp [lt3_irr]
  · have : ¬ lt3 a b := fun q => lt3_irr _ (lt3_trans h q)
    simp [this]
theorem le3_trans (a b c : Ar) (h1 : le3 a b = true) (h2 : le3 b c = true) : le3 a c = true := by
  unfold le3 at *
  simp only [Bool.not_eq_true', decide_eq_false_iff_not] at *
  unfold lt3 at *
  omega
theorem sort_asc {as : List Ar} (h : as.Nodup) : Asc (as.mergeSort le3) := by
  have hp := List.pairwise_mergeSort (le := le3) le3_trans le3_total as
  have hn : (as.mergeSort le3).Nodup := (List.mergeSort_perm as le3).nodup_iff.mpr h
  have hb : (as.mergeSort le3).Pairwise (fun a b => le3 a b = true ∧ a ≠ b) := hp.and hn
  refine hb.imp fun {a b} hab => ?_
  obtain ⟨h1, h2⟩ := hab
  unfold le3 at h1
  simp only [Bool.not_eq_true', decide_eq_false_iff_not] at h1
  rcases lt3_tri a b with z | z | z
  · exact z
  · exact absurd z h2
  · exact absurd z h1
theorem sort_idA {as : List Ar} (h : Asc as) : as.mergeSort le3 = as := by
  refine List.mergeSort_of_pairwise (h.imp fun {a b} hab => ?_)
  unfold le3
  rw [decide_eq_false fun q => lt3_irr _ (lt3_trans hab q)]
  rfl
theorem alike_ar (a b : Ar) : PySem.W.alike (arD a) (arD b) = true := by
  unfold arD
  rw [PySem.W.alike]
  exact PySem.W.alike_ints _ _
theorem Ars.get {H : Hp} : ∀ {vs : List V} {as : List Ar} {i : Nat} {v : V}, Ars H vs as → vs[i]? = some v → ∃ a, as[i]? = some a ∧ ArV H v a
  | _, _, _, _, .nil, e => by simp at e
  | _, _, 0, _, .cons h _, e => ⟨_, rfl, by rw [← Option.some.inj e]; exact h⟩
  | _, _, i + 1, v, .cons _ t, e => by
    obtain ⟨a, h1, h2⟩ := Ars.get (i := i) (v := v) t (by simpa using e)
    exact ⟨a, by simpa using h1, h2⟩
theorem ars_zip {H : Hp} : ∀ {vs : List V} {as : List Ar}, Ars H vs as → ∃ l : List (V × Ar), l.map (·.1) = vs ∧ l.map (·.2) = as ∧ ∀ p ∈ l, ArV H p.1 p.2
  | _, _, .nil => ⟨[], rfl, rfl, fun _ h => nomatch h⟩
  | v :: vs, a :: as, .cons h t => by
    obtain ⟨l, e1, e2, e3⟩ := ars_zip t
    refine ⟨(v, a) :: l, by rw [List.map_cons, e1], by rw [List.map_cons, e2], fun p hp => ?_⟩
    rcases List.mem_cons.mp hp with e | hp
    · subst e; exact h
    · exact e3 p hp
theorem ars_of {H : Hp} : ∀ {l : List (V × Ar)}, (∀ p ∈ l, ArV H p.1 p.2) → Ars H (l.map (·.1)) (l.map (·.2))
  | [], _ => .nil
  | p :: l, h => .cons (h p List.mem_cons_self) (ars_of fun q hq => h q (List.mem_cons_of_mem _ hq))
/-- sorted(xs), xs a list of arrows -/
def rSortA (K : PySem.W.Frag) : List V → Hp → VK → Prop := fun vs H Q => ∃ (a : Addr) (xs : List V) (as : List Ar), vs = [V.ref a] ∧ SqL K H a xs ∧ Ars H xs as ∧ ∀ p ys, H p = none → Ars H ys (as.mergeSort le3) → Q (.ref p) (upd H p (.lst ys))
theorem cr_sortA {X : Cx} (hu : X.A.units + 64 < cLine) : CallR X (.builtin "sorted") (rSortA X.K) := by
  intro pins s σ H vs us Q I r h
  obtain ⟨a, xs, as, rfl, hs, ha, q⟩ := h
  obtain ⟨l, e1, e2, e3⟩ := ars_zip ha
  refine cr_sortG hu pins s σ H [.ref a] us Q I r ⟨a, l.map (fun p => (p.1, arD p.2)), rfl, ?_, fun b hb => ?_, ?_, ?_, fun b hb => ?_, fun p hp => ?_⟩
  · rw [List.map_map]
    have e : ((fun b : V × PyData => b.1) ∘ fun p : V × Ar => (p.1, arD p.2)) = fun p => p.1 := rfl
    rw [e, e1]
    exact hs
  · obtain ⟨p, hp, rfl⟩ := List.mem_map.mp hb
    exact (e3 p hp).dp
  · rw [List.map_map]
    exact AllAlike.of fun b b' => alike_ar _ _
  · rw [List.map_map]
    exact Sortable.tuples fun b => ⟨_, _, rfl⟩
  · obtain ⟨p, hp, rfl⟩ := List.mem_map.mp hb
    exact Nat.le_trans (dep_ar p.2) (by decide)
  · have m1 : (l.mergeSort fun p q => le3 p.2 q.2).map (fun p : V × Ar => (p.1, arD p.2)) = (l.map fun p => (p.1, arD p.2)).mergeSort (dataLe false fun b : V × PyData => b.2) := by
      refine List.map_mergeSort fun p _ q _ => ?_
      show le3 p.2 q.2 = dataLe false arD p.2 q.2
      rw [dataLe_ar]
    have m2 : (l.mergeSort fun p q => le3 p.2 q.2).map (fun p : V × Ar => p.2) = (l.map fun p => p.2).mergeSort le3 := List.map_mergeSort fun p _ q _ => rfl
    rw [← m1, List.map_map]
    refine q p _ hp ?_
    rw [← e2, ← m2]
    exact ars_of fun p hp => e3 p ((List.mergeSort_perm l _).mem_iff.mp hp)
end L2
set_option maxHeartbeats 4000000
/-! E8: == and != of two instances by their own __eq__, whatever it answers. -/
namespace PySem.W
open PySem.Builtin
section
variable {prog : Program} {w : World} {A : Around} {E : Value → Shared → Prop} {s : Shared} {K : Frag} {x C f : Addr} {ox : Obj} {od : Option Obj}
theorem check_slot_K {id owner n : String} {rest : List Value} {Q : Unit → Shared → Prop} {M : Model} (hk : builtinKind id = some .slot) (hs : splitId id = some (owner, n)) (ha : argsOk id ⟨.ref x :: rest, []⟩)
    (X : K.In s.heap) (I : InstAt s.heap x ox C od) (ho : subIn K (.ref C) (.type owner) = some true) (hq : Q () s) : wpAny M A (checkBuiltinCall id ⟨.ref x :: rest, []⟩) Q E s := by
  simp only [checkBuiltinCall, hk, hs]
  refine wpAny_bind ?_
  unfold isInstance
  refine wpAny_bind (I.type.here ((looks_subIn X ho).here ?_))
  simp only [Bool.not_true, Bool.false_eq_true, if_false]
  try refine wpAny_bind (wpAny_pure ?_)
  cases hsig : Manifest.signature? id with
  | none =>
    simp only [hsig]
    exact wpAny_pure hq
  | some sig =>
    simp only [argsOk, hsig] at ha
    have h2 : Bind.checkArgs id sig ⟨.ref x :: rest, []⟩ = pure () := ha
    show wpAny M A (Bind.checkArgs id sig ⟨.ref x :: rest, []⟩) Q E _
    rw [h2]; exact wpAny_pure hq
theorem objNe_K {y : Value} (X : K.In s.heap) (I : InstAt s.heap x ox C od) (he : findIn K (.ref C) "__eq__" = some (some (.ref f))) (hf : isFn K (.ref f) = true) (hu : A.units < cLine) {Q : Fin → Shared → Prop}
    (hcall : wpAny (model prog w) A (call (.ref f) [.ref x, y]) (fun v s' => ∃ b, v = .bool b ∧ Q (.done (.ret (.bool (!b)))) s') E s) : wpAny (model prog w) A (Builtin.«object.__ne__» ⟨[.ref x, y], []⟩) Q E s := by
  obtain ⟨h, g, d, t, os⟩ := s
  unfold Builtin.«object.__ne__»
  repeat (first
    | with_reducible refine wpAny_cRoomFor hu ?_
    | (refine wpAny_bind (m := callSpecialIfBound? (.ref x) (Str.ofString "__eq__") [y])
        (ifBound_K X I he hf (wpAny_mono hcall (fun r s' hr => by
          obtain ⟨b, rfl, hq⟩ := hr
          repeat (first | exact hq | exact wpAny_pure hq | exact wpAny_truthy_bool hq | (refine wpAny_bind (m := truthy (.bool _)) (wpAny_truthy_bool ?_)) | wp_step)) fun _ _ e => e)))
    | wp_step)
theorem ne_K {y : Addr} {oy : Obj} {ody : Option Obj} (X : K.In s.heap) (I : InstAt s.heap x ox C od) (J : InstAt s.heap y oy C ody) (he : findIn K (.ref C) "__eq__" = some (some (.ref f))) (hf : isFn K (.ref f) = true)
    (hn : findIn K (.ref C) "__ne__" = some (some (.builtin "object.__ne__"))) (hob : subIn K (.ref C) (.type "object") = some true) (hu : A.units + 1 < cLine) {Q : Value → Shared → Prop}
    (hcall : wpAny (model prog w) A.in1 (call (.ref f) [.ref x, .ref y]) (fun v s' => ∃ b, v = .bool b ∧ Q (.bool (!b)) s') E s) : wpAny (model prog w) A (richCompare .NotEq (.ref x) (.ref y)) Q E s := by
  unfold richCompare
  simp only [oneThing_ref]
  refine wpAny_holding (wpAny_bind (wpAny_cRoomFor (Nat.lt_of_succ_lt hu) ?_))
  rw [cmpInfo_NotEq]
  dsimp only
  refine wpAny_bind (I.type.here (wpAny_bind (J.type.here ?_)))
  rw [show (Value.ref C != Value.ref C) = false from by simp]
  simp only [Bool.false_eq_true, if_false]
  refine wpAny_bind (wpAny_pure ?_)
  simp only [Bool.false_eq_true, if_false]
  have one : wpAny (model prog w) A (tryCompare (.ref x) "__ne__" (.ref y)) (fun r s' => ∃ b, r = some (.bool b) ∧ Q (.bool b) s') E s := by
    unfold tryCompare
    refine wpAny_bind ?_
    simp only [callSpecialIfBound?, bindSpecialIfBound?]
    refine wpAny_holding (wpAny_bind (wpAny_bind (wpAny_bind (I.type.here ((looks_findIn X hn).here ?_)))))
    refine wpAny_bind (wpAny_askSetting (wpAny_ite ?_))
    have fin : ∀ post : Option Value → Shared → Prop, (∀ b s', Q (.bool b) s' → post (some (.bool b)) s') → wpAny (model prog w) A (call (.builtin "object.__ne__") ([.ref x] ++ [.ref y]) >>= fun v => pure (some v)) post E s := by
      intro post hp
      refine wpAny_bind (wpAny_call (codeAny_call_builtin F.cmp_object.ne.plain F.cmpEntry_ne (check_slot_K F.cmpKind_ne F.cmpSplit_ne (F.cmpArgs_ne _ _) X I hob (objNe_K (A := A.in1) X I he hf hu (wpAny_mono hcall (fun v s' hv => ?_) fun _ _ e => e)))))
      obtain ⟨b, rfl, hq⟩ := hv
      exact ⟨b, rfl, wpAny_pure (hp _ _ hq)⟩
    split
    · rw [F.cmp_object.ne.bind]
      exact wpAny_bind (wpAny_pure (wpAny_pure (fin _ fun b s' hq => wpAny_pure ⟨_, rfl, hq⟩)))
    · rw [F.cmp_object.ne.bind]
      exact wpAny_tryCatch (wpAny_bind (wpAny_pure (wpAny_pure (fin _ fun b s' hq => wpAny_pure ⟨_, rfl, hq⟩))))
  refine wpAny_bind (wpAny_mono one (fun r s' z => ?_) fun _ _ e => e)
  obtain ⟨v, rfl, hq⟩ := z
  exact wpAny_pure hq
end
end PySem.W
namespace L2
open PySem PySem.Spec PyProof.Rows PySem.EX
section
variable {X : Cx} {n : Nat}
/-- x == y, x != y by the own __eq__ whose promise is sp -/
def rEqI (C : Addr) (sp : Sp) (E : XK) (neg : Bool) : R2 := fun x y H Q => ∃ a b dx dy fs gs, x = .ref a ∧ y = .ref b ∧ H a = some (.ins C dx fs) ∧ H b = some (.ins C dy gs) ∧ sp [x, y] H (fun v H' => ∃ c, v = .bl c ∧ Q (.bl (c != neg)) H') E
theorem op_neI {CX : CXT} {C f : Addr} {fd : FuncData} {ps : List Str} {sp : Sp} {E : XK} (F : FnOk X.prog X.w X.K X.mg X.base CX n f fd ps sp)
    (hs : PySem.W.findIn X.K (.ref C) "__eq__" = some (some (.ref f))) (hf : PySem.W.isFn X.K (.ref f) = true) (hn : PySem.W.findIn X.K (.ref C) "__ne__" = some (some (.builtin "object.__ne__")))
    (hob : PySem.W.subIn X.K (.ref C) (.type "object") = some true) (hb : Binds X.K fd ps []) (hx : Passes CX X E) (hr : Room (n + 1) X.A) : OpR X (compareOp .NotEq) (rEqI C sp E true) := by
  intro pins s σ H x y v u Q I rx ry hq
  obtain ⟨a, b, dx, dy, fs, gs, rfl, rfl, ha, hb', q⟩ := hq
  cases rx
  cases ry
  obtain ⟨mA, J, _⟩ := ins_get I.hok ha
  obtain ⟨mB, J', _⟩ := ins_get I.hok hb'
  obtain ⟨od, J, _⟩ := J.look
  obtain ⟨od', J', _⟩ := J'.look
  show wpAny (model X.prog X.w) X.A (richCompare .NotEq _ _) (EP X pins σ Q) X.xe s
  refine PySem.W.ne_K I.kIn J J' hs hf hn hob hr.in1.units0 ?_
  have hl := F.len _ _ _ _ q
  have r2 : Vals [V.ref a, V.ref b] [Value.ref a, Value.ref b] := .cons rfl (.cons rfl .nil)
  have e0 : Env0 X.prog X.w X.K X.mg X.base X.A.in1 X.stack s H := by
    have e := I.env0
    exact ⟨e.frames, e.mod, e.bs, e.bsz, e.funs, e.frf, e.hok, e.bare⟩
  refine wpAny_call (codeAny_mono (F.run X.A.in1 X.stack s H ⟨[.ref a, .ref b], []⟩ [.ref a, .ref b] [.ref a, .ref b] _ E hr.in1 e0 (by
    have := hb s [.ref a, .ref b] I.kIn (by simpa using hl)
    simpa using this) r2 q) fun r s' hq => ?_)
  cases r with
  | error e => exact hx pins σ H s e s' I hq
  | ok fl =>
    cases fl with
    | ret w =>
      obtain ⟨z, H', I', rz, c, ez, q'⟩ := I.after hq
      subst ez
      cases rz
      refine ⟨c, rfl, .bl (!c), H', I', rfl, ?_⟩
      have e : (c != true) = !c := by cases c <;> rfl
      rw [← e]
      exact q'
    | next => exact False.elim hq
    | brk => exact False.elim hq
    | cont => exact False.elim hq
end
end L2
set_option maxHeartbeats 4000000
/-! E9: f(k = v): a def called by keywords alone. -/
namespace L2
open PySem PySem.Spec PyProof.Rows PySem.EX
section
variable {X : Cx} {CX : CXT} {k : Nat} {f : Addr} {fd : FuncData} {ps ks : List Str} {sp : Sp} {E : XK} {x : Str} {p pos : Pos} {kws : List Keyword} {tk : TA} {g : List Value → List Value → List Value} {gV : List V → List V → List V}
theorem pe_callN0 (F : FnOk X.prog X.w X.K X.mg X.base CX k f fd ps sp) (hr : Room k X.A) (hg : Gl X x) (hm : X.mg x = some (.ref f)) (hk : PySem.W.keepIn X.K (.ref f) = true) (hb : KBn X.K fd ps 0 ks g gV) (hx : Passes CX X E)
    (hkw : PK X kws tk) (hall : (backToKw pos (keywordEach kws X.env)).all (·.1.isSome) = true := by rfl) (hks : (backToKw pos (keywordEach kws X.env)).filterMap (·.1) = ks := by rfl)
    (hdb : (x == ("__debug__" : Str)) = false := by decide)
    (hpl : ((backTo pos (starEach [] X.env)).any (·.1) || (backToKw pos (keywordEach kws X.env)).any (·.1.isNone)) = false := by rfl) :
    PE X (.Call (.Name x p) [] kws pos) (tCallN 0 ks.length sp gV E tNil tk) := by
  refine ⟨fun pins s σ H Q I h => ?_⟩
  refine wpAny_Call_Name_kw (ld_glob I hg hm ?_ hdb)
  refine PySem.W.callWith_KW0 (h₀ := X.base) I.ok.mod.kin hk hall ?_ hpl
  refine thn (hkw.run pos pins s σ H _ I h) fun ws s2 ⟨zs, H2, I2, rz, l1, l2, q2⟩ => ⟨I2.kIn, ?_⟩
  rw [hks]
  exact run_fnN (us := []) (vs := []) F hr hb hx I2 .nil rz rfl l2 q2
end
/-- a def of one parameter, called with it by its name -/
structure Kw1 (P : Program) (w : World) (K : PySem.W.Frag) (mg : Str → Option Value) (base : Heap) (CX : CXT) (k : Nat) (x y : Str) (sp : Sp) : Prop where
  ex : ∃ (f : Addr) (fd : FuncData), FnOk P w K mg base CX k f fd [y] sp ∧ mg x = some (.ref f) ∧ PySem.W.keepIn K (.ref f) = true ∧ KBn K fd [y] 0 [y] (fun us ws => us ++ ws) (fun vs zs => vs ++ zs)
def tKw1 (sp : Sp) (E : XK) (t : TE) : TE := fun σ H Q => t σ H fun v H1 => sp [v] H1 Q E
theorem pe_kw1 {X : Cx} {CX : CXT} {k : Nat} {x y : Str} {sp : Sp} {E : XK} {e : Expr} {t : TE} {p pos kp : Pos} (F : Kw1 X.prog X.w X.K X.mg X.base CX k x y sp) (hr : Room k X.A) (hx : Passes CX X E) (ha : PE X e t) (hg : Gl X x := by rfl) (hdb : (x == ("__debug__" : Str)) = false := by decide)
    (hall : (backToKw pos (keywordEach [⟨some y, e, kp⟩] X.env)).all (·.1.isSome) = true := by rfl) (hks : (backToKw pos (keywordEach [⟨some y, e, kp⟩] X.env)).filterMap (·.1) = [y] := by rfl)
    (hpl : ((backTo pos (starEach [] X.env)).any (·.1) || (backToKw pos (keywordEach [⟨some y, e, kp⟩] X.env)).any (·.1.isNone)) = false := by rfl) : PE X (.Call (.Name x p) [] [⟨some y, e, kp⟩] pos) (tKw1 sp E t) := by
  obtain ⟨f, fd, ok, g, kp', b⟩ := F.ex
  have h := pe_callN0 (p := p) (pos := pos) ok hr hg g kp' b hx (pk_cons (kpos := kp) (nm := some y) ha pk_nil) hall hks hdb hpl
  refine ⟨fun pins s σ H Q I q => h.run pins s σ H Q I ?_⟩
  have q' : t σ H fun v H1 => sp [v] H1 Q E := q
  exact (show tCallN 0 1 sp (fun vs zs => vs ++ zs) E tNil (tCons t tNil) σ H Q from by
    show t σ H fun v H1 => _
    have e : (fun (v : V) (H1 : Hp) => sp [v] H1 Q E) = fun v H1 => (0 = 0 ∧ 1 = 1 ∧ sp [v] H1 Q E) := by
      funext v H1
      simp
    rw [e] at q'
    exact q')
theorem kw1 {P : Program} {w : World} {K : PySem.W.Frag} {mg : Str → Option Value} {base : Heap} {CX : CXT} {k : Nat} {x y : Str} {sp : Sp} {f : Addr} {st : Stmt} {fd : FuncData} (ok : FnOk P w K mg base CX k f fd [y] sp)
    (F : FunD K x x (defArgs st) (defBody st) (defScope st) [] [] f fd) (g : mg x = some (.ref f))
    (h : ∀ (kV doc pm : Value) (an : Option Addr) (cdv ct w : Value), bindArgs (PySem.W.fnOf x x (defArgs st) (defBody st) (defScope st) .none kV doc pm an cdv ct) ⟨[], [(y, w)]⟩ = pure [(y, w)]) : Kw1 P w K mg base CX k x y sp := by
  refine ⟨f, fd, ok, g, F.kp, ?_⟩
  obtain ⟨oc, od, dV, kV, doc, pm, an, cdv, ct, osl, rfl, lk, hcd, hD, hK⟩ := F.ex
  refine ⟨fun s us ws X l1 l2 => ?_, fun r z => r.append z⟩
  rcases hD with ⟨_, rfl⟩ | ⟨e, _⟩
  · match us, ws, l1, l2 with
    | [], [w], _, _ => exact .of_eq (h kV doc pm an cdv ct w)
  · exact absurd rfl e
/-- Fnc with the def's own record told -/
def FncX (P : Program) (w : World) (K : PySem.W.Frag) (mg : Str → Option Value) (base : Heap) (CX : CXT) (k : Nat) (x : Str) (st : Stmt) (ps : List Str) (sp : Sp) : Prop :=
  ∃ fd, FnOk P w K mg base CX k (He.ga K x) fd ps sp ∧ FunD K x x (defArgs st) (defBody st) (defScope st) [] [] (He.ga K x) fd ∧ mg x = some (.ref (He.ga K x)) ∧ Binds K fd ps []
theorem FncX.fnc {P : Program} {w : World} {K : PySem.W.Frag} {mg : Str → Option Value} {base : Heap} {CX : CXT} {k : Nat} {x : Str} {st : Stmt} {ps : List Str} {sp : Sp} (F : FncX P w K mg base CX k x st ps sp) : Fnc P w K mg base CX k x ps sp := by
  obtain ⟨fd, ok, D, g, b⟩ := F
  exact ⟨_, fd, ok, g, D.kp, b⟩
theorem FncX.kw {P : Program} {w : World} {K : PySem.W.Frag} {mg : Str → Option Value} {base : Heap} {CX : CXT} {k : Nat} {x y : Str} {st : Stmt} {sp : Sp} (F : FncX P w K mg base CX k x st [y] sp)
    (h : ∀ (kV doc pm : Value) (an : Option Addr) (cdv ct w : Value), bindArgs (PySem.W.fnOf x x (defArgs st) (defBody st) (defScope st) .none kV doc pm an cdv ct) ⟨[], [(y, w)]⟩ = pure [(y, w)]) : Kw1 P w K mg base CX k x y sp := by
  obtain ⟨fd, ok, D, g, b⟩ := F
  exact kw1 ok D g h
theorem fncX {P : Program} {w : World} {K : PySem.W.Frag} {mg : Str → Option Value} {base : Heap} {CX : CXT} {k : Nat} {x : Str} {st : Stmt} {N ps : List Str} {sp : Sp} (D : Def K mg x st) (S : FnScope N ps (defScope st)) (len : ∀ vs H Q E, sp vs H Q E → vs.length = ps.length)
    (hbind : ∀ (kV doc pm : Value) (an : Option Addr) (cdv ct : Value) (us : List Value), us.length = ps.length → bindArgs (PySem.W.fnOf x x (defArgs st) (defBody st) (defScope st) .none kV doc pm an cdv ct) ⟨us, []⟩ = pure (ps.zip us))
    (hbody : ∀ (cdv : Value) (A : Around) (outer : List Env) (s : Shared) (H : Hp) (vs : List V) (Q : VK) (E : XK), Room k (A.deeper (envOfC x (defScope st) s.heap.objs.size (He.ga K x) cdv)) → sp vs H Q E →
      ∃ t, PSs (cxOf CX P w K mg base N x (defScope st) (He.ga K x) cdv A outer s H E) (defBody st) t ∧ t { nx := fun _ H' => Q .non H', rt := Q } (start N vs) H) : FncX P w K mg base CX (k + 1) x st ps sp := by
  obtain ⟨⟨fd, F⟩, g⟩ := D
  exact ⟨fd, F.ok S len hbody, F, g, F.bindsN hbind⟩
end L2
set_option maxHeartbeats 4000000
/-! E10: defs whose code object is told (they make lambdas); the relation that such a def keeps. -/
namespace L2
open PySem PySem.Spec PyProof.Rows PySem.EX
open LamX (Tabs TabS ExtN CodeO TabB)
/-- what the head tells of a def that makes lambdas: c its code object -/
def DefT (K : PySem.W.Frag) (mg : Str → Option Value) (x : Str) (st : Stmt) (c : Addr) : Prop := (∃ fd, FunD K x x (defArgs st) (defBody st) (defScope st) [] [] (He.ga K x) fd ∧ fd.code = .ref c) ∧ mg x = some (.ref (He.ga K x))
section
variable {P : Program} {w : World} {K : PySem.W.Frag} {mg : Str → Option Value} {base : Heap}
theorem fncT {c : Addr} {k : Nat} {x : Str} {st : Stmt} {N ps : List Str} {sp : Sp} (D : DefT K mg x st c) (S : FnScope N ps (defScope st)) (len : ∀ vs H Q E, sp vs H Q E → vs.length = ps.length)
    (hbind : ∀ (kV doc pm : Value) (an : Option Addr) (cdv ct : Value) (us : List Value), us.length = ps.length → bindArgs (PySem.W.fnOf x x (defArgs st) (defBody st) (defScope st) .none kV doc pm an cdv ct) ⟨us, []⟩ = pure (ps.zip us))
    (hbody : ∀ (A : Around) (outer : List Env) (s : Shared) (H : Hp) (vs : List V) (Q : VK) (E : XK), Room k (A.deeper (envOfC x (defScope st) s.heap.objs.size (He.ga K x) (.ref c))) → sp vs H Q E →
      ∃ t, PSs (cxOf CX0 P w K mg base N x (defScope st) (He.ga K x) (.ref c) A outer s H E).nox (defBody st) t ∧ t { nx := fun _ H' => Q .non H', rt := Q } (start N vs) H) :
    ∃ fd, FnOk P w K mg base CX0 (k + 1) (He.ga K x) fd ps sp ∧ Binds K fd ps [] ∧ FunD K x x (defArgs st) (defBody st) (defScope st) [] [] (He.ga K x) fd := by
  obtain ⟨⟨fd, F, hc⟩, g⟩ := D
  refine ⟨fd, ?_, F.bindsN hbind, F⟩
  obtain ⟨oc, od, dV, kV, doc, pm, an, cdv, ct, osl, rfl, lk, hcd, _, _⟩ := F.ex
  have e : cdv = .ref c := hc
  subst e
  refine fn_of lk hcd S len fun A outer s H vs Q E hr hsp => ?_
  obtain ⟨t, h1, h2⟩ := hbody A outer s H vs Q E hr hsp
  exact ⟨t, h1.nox, h2⟩
theorem fncT' {c : Addr} {k : Nat} {x : Str} {st : Stmt} {N ps : List Str} {sp : Sp} (D : DefT K mg x st c) (S : FnScope N ps (defScope st)) (len : ∀ vs H Q E, sp vs H Q E → vs.length = ps.length)
    (hbind : ∀ (kV doc pm : Value) (an : Option Addr) (cdv ct : Value) (us : List Value), us.length = ps.length → bindArgs (PySem.W.fnOf x x (defArgs st) (defBody st) (defScope st) .none kV doc pm an cdv ct) ⟨us, []⟩ = pure (ps.zip us))
    (hbody : ∀ (A : Around) (outer : List Env) (s : Shared) (H : Hp) (vs : List V) (Q : VK) (E : XK), Room k (A.deeper (envOfC x (defScope st) s.heap.objs.size (He.ga K x) (.ref c))) → sp vs H Q E →
      ∃ t, PSs (cxOf CX0 P w K mg base N x (defScope st) (He.ga K x) (.ref c) A outer s H E).nox (defBody st) t ∧ t { nx := fun _ H' => Q .non H', rt := Q } (start N vs) H) :
    Fnc P w K mg base CX0 (k + 1) x ps sp := by
  obtain ⟨fd, ok, b, F⟩ := fncT D S len hbind hbody
  exact ⟨_, fd, ok, D.2, F.kp, b⟩
end
/-- all but the tape and the tables stands -/
def Bt (t l : Addr) (H H' : Hp) : Prop := ∀ b o, H b = some o → b ≠ t → b ≠ l → (∀ ps, o ≠ .tbl ps) → H' b = some o
theorem Bt.refl {t l : Addr} {H : Hp} : Bt t l H H := fun _ _ h _ _ _ => h
theorem Bt.trans {t l : Addr} {H H1 H2 : Hp} (a : Bt t l H H1) (b : Bt t l H1 H2) : Bt t l H H2 := fun c o h h1 h2 h3 => b c o (a c o h h1 h2 h3) h1 h2 h3
theorem Bt.of {t l : Addr} {H H' : Hp} (a : But t l H H') : Bt t l H H' := fun c o h h1 h2 _ => a c o h h1 h2
theorem Bt.ext {t l : Addr} {H H' : Hp} (a : ExtN H H') : Bt t l H H' := fun c o h _ _ n => a c o h n
theorem Tabs.but {T : List (Addr × Str)} {H H' : Hp} {t l c : Addr} (h : Tabs T H) (b : But t l H H') (TT : Tape H t l c) : Tabs T H' := by
  obtain ⟨r, n, lg, cs, h1, h2, _⟩ := TT.ex
  intro p hp
  obtain ⟨ps, e, ok, g⟩ := h p hp
  refine ⟨ps, b _ _ e (ne_of e h1 (by intro z; cases z)) (ne_of e h2 (by intro z; cases z)), ok, fun pos cv hc => ?_⟩
  obtain ⟨c', e1, e2⟩ := g pos cv hc
  exact ⟨c', e1, b _ _ e2 (ne_of e2 h1 (by intro z; cases z)) (ne_of e2 h2 (by intro z; cases z))⟩
theorem ExtN.tape {H H' : Hp} {t l c : Addr} (a : ExtN H H') (T : Tape H t l c) : Tape H' t l c := by
  obtain ⟨r, n, lg, cs, h1, h2, h3⟩ := T.ex
  exact ⟨⟨r, n, lg, cs, a _ _ h1 (by intro ps z; cases z), a _ _ h2 (by intro ps z; cases z), a _ _ h3 (by intro ps z; cases z)⟩, T.lc⟩
theorem ExtN.seq {K : PySem.W.Frag} {H H' : Hp} {a : Addr} {xs : List V} (e : ExtN H H') (h : SqL K H a xs) : SqL K H' a xs := by
  rcases h with (h | ⟨o, h⟩) | h
  · exact .inl (.inl (e _ _ h (by intro ps z; cases z)))
  · exact .inl (.inr ⟨o, e _ _ h (by intro ps z; cases z)⟩)
  · exact .inr h
theorem ExtN.same {H H' : Hp} (a : Same H H') : ExtN H H' := fun b o h _ => a b o h
theorem ExtN.tups {H H' : Hp} (e : ExtN H H') : ∀ b xs, H b = some (.tup xs) → H' b = some (.tup xs) := fun b xs h => e b _ h (by intro ps z; cases z)
end L2
set_option maxHeartbeats 4000000
/-! E11: a def called through a name that holds it; a callable handed on; raise of own classes without __init__. -/
namespace L2
open PySem PySem.Spec PyProof.Rows PySem.EX
open LamX (CodeO ExtN Tabs TabB LamS lamEnv lamCx run_ofS)
/-- the def at f with its promise -/
structure HeldX (P : Program) (w : World) (K : PySem.W.Frag) (mg : Str → Option Value) (base : Heap) (CX : CXT) (k : Nat) (f : Addr) (sp : Sp) : Prop where
  ex : ∃ (fd : FuncData) (ps : List Str), FnOk P w K mg base CX k f fd ps sp ∧ PySem.W.keepIn K (.ref f) = true ∧ Binds K fd ps []
theorem Fnc.held {P : Program} {w : World} {K : PySem.W.Frag} {mg : Str → Option Value} {base : Heap} {CX : CXT} {k : Nat} {x : Str} {ps : List Str} {sp : Sp} {f : Addr} (F : Fnc P w K mg base CX k x ps sp) (g : mg x = some (.ref f)) : HeldX P w K mg base CX k f sp := by
  obtain ⟨f', fd, ok, g', kp, b⟩ := F.ex
  have e : f' = f := Value.ref.inj (Option.some.inj (g'.symm.trans g))
  subst e
  exact ⟨fd, ps, ok, kp, b⟩
theorem HeldX.mono {P : Program} {w : World} {K : PySem.W.Frag} {mg : Str → Option Value} {base : Heap} {CX : CXT} {j k : Nat} {f : Addr} {sp : Sp} (F : HeldX P w K mg base CX j f sp) (h : j ≤ k) : HeldX P w K mg base CX k f sp := by
  obtain ⟨fd, ps, ok, r⟩ := F.ex
  exact ⟨fd, ps, ok.mono h, r⟩
/-- y(..), y the i-th slot: a def of those that hold a promise -/
def tCallW (P : Program) (w : World) (K : PySem.W.Frag) (mg : Str → Option Value) (base : Heap) (CX : CXT) (k i : Nat) (E : XK) (t : TA) : TE := fun σ H Q => ∃ f sp, σ[i]? = some (some (.ref f)) ∧ HeldX P w K mg base CX k f sp ∧ t σ H fun vs H1 => sp vs H1 Q E
section
variable {X : Cx} {CX : CXT} {k i : Nat} {E : XK} {x : Str} {p pos : Pos} {e : Expr} {es : List Expr} {t : TA}
theorem pe_callW (hr : Room k X.A) (hN : X.N[i]? = some x) (hv : Vis X.env.scope x) (hx : Passes CX X E) (ha : PA X (e :: es) t)
    (hdb : (x == ("__debug__" : Str)) = false := by decide) (hcd : (x == ("__classdict__" : Str)) = false := by decide)
    (he : starEach (e :: es) X.env = (false, eval e X.env) :: starEach es X.env := by rfl) (hpl : (backTo pos (starEach es X.env)).any (·.1) = false := by rfl) :
    PE X (.Call (.Name x p) (e :: es) [] pos) (tCallW X.prog X.w X.K X.mg X.base CX k i E t) := by
  refine ⟨fun pins s σ H Q I h => ?_⟩
  obtain ⟨f, sp, hs, hH, ht⟩ := h
  obtain ⟨fd, ps, F, hk, hb⟩ := hH.ex
  refine (pe_callL (i := i) (f := f) (sp := sp) (dvs := []) (E := E) F hr hN hv hk hb .nil hx ha hdb hcd he hpl).run pins s σ H Q I ⟨hs, ?_⟩
  have e0 : (fun (vs : List V) (H1 : Hp) => sp (vs ++ []) H1 Q E) = fun vs H1 => sp vs H1 Q E := by
    funext vs H1
    rw [List.append_nil]
  show t σ H (fun vs H1 => sp (vs ++ []) H1 Q E)
  rw [e0]
  exact ht
end
section
variable {fs : List Addr} {s0 : Shared} {H0 : Hp} {P : Program} {w : World} {K : PySem.W.Frag} {mg : Str → Option Value} {base : Heap} {N : List Str} {qg : Str} {sg : Scope} {g : Addr} {cdg : Value} {A : Around} {outer : List Env} {s : Shared} {H : Hp} {CXg : CXT} {Eg : XK}
/-- x(a), a the callable that this def got, x a def that takes one -/
theorem pe_hand {TT : TL → Hp → VK → Prop} {f c' : Addr} {q x a : Str} {j k i : Nat} {tl : TL} {gx : Addr} {p1 p2 pos : Pos} (G : Takes1 P w K mg base gx j k TT) (hm : mg x = some (.ref gx)) (hk : PySem.W.keepIn K (.ref gx) = true) (lt : Later fs s0 H0 outer s H) (F : Acts P w K mg base fs s0 H0 f c' q k tl)
    (hf : FnO fs s0 H0 f) (hr : Room (j + k) (A.deeper (envOfC qg sg s.heap.objs.size g cdg))) (hN : N[i]? = some a) (hv : Vis sg a) (hg : Gl (cxOf CXg P w K mg base N qg sg g cdg A outer s H Eg).nox x := by rfl) (hd : (a == ("__debug__" : Str)) = false := by decide) (hcd : (a == ("__classdict__" : Str)) = false := by decide) (hdx : (x == ("__debug__" : Str)) = false := by decide)
    (he : starEach [.Name a p2] (cxOf CXg P w K mg base N qg sg g cdg A outer s H Eg).nox.env = (false, eval (.Name a p2) (cxOf CXg P w K mg base N qg sg g cdg A outer s H Eg).nox.env) :: starEach [] (cxOf CXg P w K mg base N qg sg g cdg A outer s H Eg).nox.env := by rfl)
    (hpl : (backTo pos (starEach [] (cxOf CXg P w K mg base N qg sg g cdg A outer s H Eg).nox.env)).any (·.1) = false := by rfl) :
    PE ((cxOf CXg P w K mg base N qg sg g cdg A outer s H Eg).nox) (.Call (.Name x p1) [.Name a p2] [] pos) (fun σZ HZ Q => σZ[i]? = some (some (.ref f)) ∧ HZ c' = some (CodeO c' q) ∧ TT tl HZ Q) := by
  refine ⟨fun pinsZ sZ σZ HZ Q IZ h => ?_⟩
  obtain ⟨hs, hc, ht⟩ := h
  refine wpAny_Call_Name_kw (ld_glob IZ hg hm ?_ hdx)
  refine PySem.W.callWith_K (h₀ := base) IZ.ok.mod.kin hk ?_ he hpl
  refine thn ((pa_cons (pe_var (pos := p2) (i := i) hN hv hd hcd) pa_nil).run pos pinsZ sZ σZ HZ (fun vs H1 => vs = [.ref f] ∧ H1 = HZ) IZ ⟨.ref f, hs, rfl, rfl⟩) fun us s1 ⟨vs, H1, I1, r1, q1⟩ => ?_
  obtain ⟨ev, eH⟩ := q1
  subst ev
  rw [eH] at I1
  refine ⟨I1.kIn, ?_⟩
  obtain ⟨u, rfl, ru⟩ := vals1 r1
  obtain rfl : u = Value.ref f := ru
  have lt1 : Later fs s0 H0 (envOfC qg sg s.heap.objs.size g cdg :: outer) s1 HZ := lt.at_ (CXg := CXg) (E := Eg) (pn := []) (xe := fun _ _ => False) I1
  have rc := G fs s0 H0 f c' q tl (A.deeper (envOfC qg sg s.heap.objs.size g cdg)) (envOfC qg sg s.heap.objs.size g cdg :: outer) s1 HZ Q F hf lt1 hr I1.env0 hc ht
  refine wpAny_call (codeAny_mono rc fun r s' hq => ?_)
  cases r with
  | error e => exact (show False from hq).elim
  | ok fl =>
    cases fl with
    | ret u => exact I1.after hq
    | next => exact False.elim hq
    | brk => exact False.elim hq
    | cont => exact False.elim hq
end
/-- an own class without an __init__, above it own ones such, then ValueError -/
structure OCls (K : PySem.W.Frag) (mg : Str → Option Value) (x : Str) : Prop where
  glo : mg x = some (.ref (He.ga K x))
  exc : PySem.W.excIn K (He.ga K x) He.veBase "ValueError.__new__" = true
  kp : PySem.W.keepIn K (.ref (He.ga K x)) = true
  be : PySem.W.subIn K (.ref (He.ga K x)) (.type "BaseException") = some true
  ty : PySem.W.typeIn K (.ref (He.ga K x)) = some (.type "type")
/-- raise C('..') -/
def tRaiseO (C : Addr) (W : WX) : TS := fun _ σ H => W (.ref C) none σ H
theorem ps_raiseO {X : Cx} {x m : Str} {j : Nat} {p p2 pos pos2 : Pos} {W : WX} (hc : X.calm = true) (T : OCls X.K X.mg x) (tk : Takes X W) (hg : Gl X x := by rfl) (hdb : (x == ("__debug__" : Str)) = false := by decide) :
    PS X (.Raise (some (.Call (.Name x p) [.Constant (.str m) j p2] [] pos)) none pos2) (tRaiseO (He.ga X.K x) W) :=
  ps_raise hc tk (pmk_own PySem.F.excBase_ValueError T.exc T.glo T.kp (raises_own T.be T.ty) hg hdb)
end L2
set_option maxHeartbeats 4000000
namespace K24
open PySem L2
def top (i : Nat) : Stmt := PySem.Challenge.pw_restsallowed_k24_across_texts_of_planboo.main.body.getD i (.Pass ⟨0, 0, 0, 0⟩)
abbrev sBegun : Stmt := top 67
abbrev sBlend : Stmt := top 68
abbrev sDraw : Stmt := top 69
abbrev sPick : Stmt := top 70
abbrev sCaught : Stmt := top 71
/-! ### the law's own helpers -/
structure TxL (K : PySem.W.Frag) (mg : Str → Option Value) : Prop where
  begun : Def K mg "_law_begun" sBegun
  blend : Def K mg "_law_blend" sBlend
  draw : Def K mg "_law_draw" sDraw
  pick : Def K mg "_law_pick" sPick
  abs : mg "abs" = none
  int : mg "int" = none
  len : mg "len" = none
theorem cpow {i j : Int} (h1 : 0 ≤ j) (h2 : j ≤ 1000000) (h3 : i.natAbs < 2 ^ 64) : CPow i j := ⟨h1, h2, h3⟩
theorem cmulR {i j : Int} (h1 : -(2 ^ 64) < j) (h2 : j < 2 ^ 64) : CMul i j := .inr ⟨h1, h2⟩
theorem cmulL {i j : Int} (h1 : -(2 ^ 64) < i) (h2 : i < 2 ^ 64) : CMul i j := .inl ⟨h1, h2⟩
theorem cdiv {i j : Int} (h1 : 0 < j) (h2 : j < 1073741824) : CDiv i j := ⟨h1, h2⟩
local macro_rules | `(tactic| walk_at "rd") => `(tactic| (repeat (first
  | (refine ⟨_, rfl, ?_⟩)
  | (refine ⟨_, _, rfl, rfl, ?_⟩)
  | (refine ⟨cpow (by decide) (by decide) (by decide), ?_⟩)
  | (refine ⟨cmulR (by decide) (by decide), ?_⟩)
  | (refine ⟨cdiv (by first | decide | omega) (by first | decide | omega), ?_⟩))))
section
variable {P : Program} {w : World} {K : PySem.W.Frag} {mg : Str → Option Value} {base : Heap}
theorem scBegun : FnScope ["script", "large", "grain"] ["script"] (defScope sBegun) := ⟨rfl, rfl, rfl, by decide +kernel, rfl, by decide +kernel, by decide +kernel⟩
theorem ok_begun (T : TxL K mg) : Fnc P w K mg base CX0 1 "_law_begun" ["script"] (spBegun K) := by
  refine fnc0 T.begun scBegun (fun vs H Q E h => ?_) (fun _ _ _ _ _ _ us hl => match us, hl with | [_], _ => rfl) (fun cdv A outer s H vs Q E hr h => ?_)
  · obtain ⟨a, ns, rfl, _⟩ := h
    rfl
  · obtain ⟨a, ns, rfl, hS, hlen, k⟩ := h
    refine ⟨_, pss_cons (ps_setLc (i := 1) (own := [("grain", 2)]) (g := gName 2) rfl scBegun.nd rfl rfl (sw_true rfl rfl rfl (by decide +kernel)) (pi_list (pv 0)) (blkOk_by (N := ["script", "large", "grain"]) (sc := defScope sBegun) (by decide +kernel))
        (fun _ _ _ _ _ => pg_name (i := 2) scBegun.nd rfl (Or.inl rfl)) (fun _ _ _ _ _ => pts_one (pt_cmpR op_ge (pe_callB call_abs (by rfl) T.abs (by decide +kernel) (pa_cons (pv 2) pa_nil)) (pe_op op_pow pe_int pe_int) (nomark _)))
        (fun _ _ _ _ _ => pe_op op_sub (pe_callB call_abs (by rfl) T.abs (by decide +kernel) (pa_cons (pv 2) pa_nil)) (pe_op op_pow pe_int pe_int)))
      (pss_one (ps_ret (pe_disp (pps_cons pe_str (pv 1) (pps_cons pe_str pe_int (pps_cons pe_str
        (pe_lc (own := [("grain", 2)]) (g := gName 2) (tt := tYes) rfl scBegun.nd (pi_list (pv 0)) (blkOk_by (N := ["script", "large", "grain"]) (sc := defScope sBegun) (by decide +kernel))
          (fun _ _ _ _ _ => pg_name (i := 2) scBegun.nd rfl (Or.inl rfl)) (fun _ _ _ _ _ => pts_nil) (fun _ _ _ _ _ => pe_callB call_abs (by rfl) T.abs (by decide +kernel) (pa_cons (pv 2) pa_nil)))
        (pps_cons pe_str pe_int pps_nil)))) (by rfl) (by rfl) (fun z => by cases z) (by decide)))), ?_⟩
    refine ⟨_, rfl, a, rfl, ⟨_, hS⟩, fun D hD => lc_list (K := K) (a := a) (xs := ns.map V.int) (fun i H2 => Same H H2 ∧ ∃ zs : List Int, H2 D = some (.lst (zs.map V.int)) ∧ zs.length ≤ i) ⟨Same.upd hD, [], upd_same, Nat.le_refl _⟩ (fun i H2 _ h => h.1.seq hS) ?_ ?_⟩
    · rintro i x H2 hx ⟨s2, zs, hz, hl⟩
      obtain ⟨z, hz1, rfl⟩ := map_get hx
      refine ⟨rfl, ?_⟩
      walk_at "rd"
      refine ite2 (fun hc => ?_) (fun hc => ?_)
      · walk_at "rd"
        have hi := (List.getElem?_eq_some_iff.mp hz1).1
        refine ⟨_, hz, small1000 (by rw [List.length_map]; omega), s2.put hD, zs ++ [(if z < 0 then -z else z) - 10 ^ Int.toNat 18], ?_, by rw [List.length_append, List.length_singleton]; omega⟩
        rw [upd_same, ← map_snoc]
      · exact ⟨s2, zs, hz, by omega⟩
    · rintro H2 ⟨s2, zs, hz, hl⟩
      intro p hp
      walk_at "rd"
      have s3 : Same H (upd H2 p (.dK [])) := s2.trans (Same.upd hp)
      have nDp : D ≠ p := ne_of_none hz hp
      refine ⟨⟨_, s3.seq hS⟩, fun D2 hD2 => lc_list (K := K) (a := a) (xs := ns.map V.int) (fun i H3 => Same H H3 ∧ H3 p = some (.dK []) ∧ H3 D = some (.lst (zs.map V.int)) ∧ ∃ cs : List Int, H3 D2 = some (.lst (cs.map V.int)) ∧ cs.length ≤ i) ?_ (fun i H3 _ h => h.1.seq hS) ?_ ?_⟩
      · have hp2 : p ≠ D2 := ne_of_none upd_same hD2
        have hz2 : (upd H2 p (HO.dK [])) D = some (.lst (zs.map V.int)) := by rw [upd_ne nDp]; exact hz
        exact ⟨s3.trans (Same.upd hD2), by rw [upd_ne hp2]; exact upd_same, by rw [upd_ne (ne_of_none hz2 hD2)]; exact hz2, [], upd_same, Nat.le_refl _⟩
      · rintro i x H3 hx ⟨s4, hp3, hz3, cs, hc, hl2⟩
        obtain ⟨z, hz1, rfl⟩ := map_get hx
        have hi := (List.getElem?_eq_some_iff.mp hz1).1
        have nD2 : H D2 = none := s3.free hD2
        have hp2 : p ≠ D2 := ne_of hp3 hc (by intro z; cases z)
        have hD12 : D ≠ D2 := fun e => by
          rw [← e, upd_ne nDp, hz] at hD2
          cases hD2
        refine ⟨rfl, ?_⟩
        walk_at "rd"
        refine ⟨_, hc, small1000 (by rw [List.length_map]; omega), s4.put nD2, by rw [upd_ne hp2]; exact hp3, by rw [upd_ne hD12]; exact hz3, cs ++ [if z < 0 then -z else z], ?_, by rw [List.length_append, List.length_singleton]; omega⟩
        rw [upd_same, ← map_snoc]
      · rintro H3 ⟨s4, hp3, hz3, cs, hc, hl2⟩
        refine ⟨hp3, tapeL D D2 0 0, rfl, (by show 4 ≤ 15; decide), ?_⟩
        have np : H p = none := s2.free hp
        have hD12 : D ≠ D2 := fun e => by
          rw [← e, upd_ne nDp, hz] at hD2
          cases hD2
        refine k p D D2 _ (s4.put np) np hD (s3.free hD2) ⟨⟨0, 0, zs, cs, ?_, ?_, ?_⟩, hD12⟩
        · rw [upd_same, merge_tape]
        · rw [upd_ne nDp]
          exact hz3
        · rw [upd_ne (ne_of hc hp3 (by intro z; cases z))]
          exact hc
theorem scBlend : FnScope ["tape", "turn", "found", "great", "blended", "grain"] ["tape"] (defScope sBlend) := ⟨rfl, rfl, rfl, by decide +kernel, rfl, by decide +kernel, by decide +kernel⟩
theorem great_at {i : Nat} {y : V} (h : [V.int 2147483629, V.int 2147483587, V.int 2147483579][i]? = some y) : ∃ g : Int, y = .int g ∧ 0 < g ∧ g < 2147483648 := by
  match i, h with
  | 0, h => exact ⟨_, (Option.some.inj h).symm, by decide, by decide⟩
  | 1, h => exact ⟨_, (Option.some.inj h).symm, by decide, by decide⟩
  | 2, h => exact ⟨_, (Option.some.inj h).symm, by decide, by decide⟩
  | i + 3, h => simp at h
theorem pow_small {b g : Int} (h0 : 0 ≤ b) (h1 : b < g) (h2 : g < 2147483648) : b.natAbs < 2 ^ 64 := by
  have e : (2 : Nat) ^ 64 = 18446744073709551616 := by decide
  rw [e]
  omega
theorem ok_blend (T : TxL K mg) : Fnc P w K mg base CX0 1 "_law_blend" ["tape"] spBlend := by
  refine fnc0 T.blend scBlend (fun vs H Q E h => ?_) (fun _ _ _ _ _ _ us hl => match us, hl with | [_], _ => rfl) (fun cdv A outer s H vs Q E hr h => ?_)
  · obtain ⟨t, l, c, rfl, _⟩ := h
    rfl
  · obtain ⟨t, l, c, rfl, TT, k⟩ := h
    have hu := hu_of hr
    refine ⟨_, pss_cons (ps_dput hu (pv 0) pe_str (pe_op op_add (pe_dget hu (pv 0) pe_str (fun _ _ => rfl)) pe_int) rfl)
      (pss_cons (ps_par (by rfl) scBlend.nd (i := 1) (j := 2) rfl rfl (by decide) rfl rfl (pa_cons (pe_callTy call_int1 (by rfl) T.int (by decide +kernel) (pa_cons (pe_dget hu (pv 0) pe_str (fun _ _ => rfl)) pa_nil)) (pa_cons pe_int pa_nil)) (by rfl))
      (pss_cons (ps_for PassesOwn.never rfl (pi_list (pe_lst (pa_cons pe_int (pa_cons pe_int (pa_cons pe_int pa_nil))))) (pg_name (i := 3) scBlend.nd rfl (Or.inl rfl))
        (pss_cons (ps_set (i := 4) scBlend.nd rfl (Or.inl rfl) (pe_op op_mod (pe_op op_add (pe_op op_mul (pv 1) pe_int) (pe_op op_fdiv (pv 3) pe_int)) (pv 3)))
        (pss_cons (ps_for PassesOwn.never rfl (pi_list (pe_dget hu (pv 0) pe_str (fun _ _ => rfl))) (pg_name (i := 5) scBlend.nd rfl (Or.inl rfl))
          (pss_one (ps_set (i := 4) scBlend.nd rfl (Or.inl rfl) (pe_op op_mod (pe_op op_add (pe_op op_mul (pv 4) pe_int) (pe_callTy call_int1 (by rfl) T.int (by decide +kernel) (pa_cons (pv 5) pa_nil))) (pv 3)))))
        (pss_one (ps_set (i := 2) scBlend.nd rfl (Or.inl rfl) (pe_op op_add (pe_op op_mul (pv 2) pe_int) (pe_op op_mod (pe_op op_pow (pv 4) pe_int) (pv 3))))))))
      (pss_one (ps_ret (pv 2))))), ?_⟩
    obtain ⟨r, n, lg, cs, h1, h2, h3⟩ := TT.ex
    have tl := TT.tl
    have tc := TT.tc
    -- tape['turn'] = tape['turn'] + 1
    refine ⟨_, rfl, t, .int n, rfl, dg_turn h1, _, _, rfl, rfl, _, rfl, t, _, rfl, dp_turn _ h1, ?_⟩
    -- turn, found = (int(tape['turn']), 0)
    refine ⟨_, rfl, t, .int (n + 1), rfl, dg_turn upd_same, .inl ⟨_, rfl, _, _, rfl, ?_⟩⟩
    -- the loops
    refine ⟨by decide, fun p hp => ⟨p, rfl, ⟨_, SqL.of upd_same⟩, for_list (K := K) (a := p) (xs := [V.int 2147483629, V.int 2147483587, V.int 2147483579]) (fun i σ H2 => ∃ (f : Int) (gv bv rv : Option V), σ = [some (.ref t), some (.int (n + 1)), some (.int f), gv, bv, rv] ∧ Same (upd H t (.dK (tapeL l c r (n + 1)))) H2 ∧ H2 p = some (.lst [V.int 2147483629, V.int 2147483587, V.int 2147483579]))
      ⟨0, none, none, none, rfl, Same.upd hp, upd_same⟩ (fun i σ H2 _ ⟨_, _, _, _, _, _, h⟩ => SqL.of h) ?_ ?_⟩⟩
    · rintro i y σ H2 hy ⟨f, gv, bv, rv, rfl, s2, hp2⟩
      obtain ⟨g, rfl, hg0, hg1⟩ := great_at hy
      have ht2 : H2 t = some (.dK (tapeL l c r (n + 1))) := s2 _ _ upd_same
      have hc2 : H2 c = some (.lst (cs.map V.int)) := s2 _ _ (by rw [upd_ne (Ne.symm tc)]; exact h3)
      -- blended = (turn * 69621 + great // 7) % great
      walk_at "rd"
      refine ⟨hg0, ?_⟩
      -- for grain in tape['cells']
      refine ⟨_, rfl, t, .ref c, rfl, dg_cells ht2, c, rfl, ⟨_, SqL.of hc2⟩, for_list (K := K) (a := c) (xs := cs.map V.int) (fun j σ H3 => ∃ (b : Int) (rv : Option V), σ = [some (.ref t), some (.int (n + 1)), some (.int f), some (.int g), some (.int b), rv] ∧ 0 ≤ b ∧ b < g ∧ H3 = H2)
        ⟨_, rv, rfl, Int.emod_nonneg _ (by omega), Int.emod_lt_of_pos _ hg0, rfl⟩ (fun j σ H3 _ ⟨_, _, _, _, _, h⟩ => by rw [h]; exact SqL.of hc2) ?_ ?_⟩
      · rintro j y σ H3 hy ⟨b, rv, rfl, b0, b1, rfl⟩
        obtain ⟨z, _, rfl⟩ := map_get hy
        walk_at "rd"
        refine .inl ⟨_, rfl, ?_⟩
        walk_at "rd"
        refine ⟨hg0, ?_⟩
        exact ⟨_, _, rfl, Int.emod_nonneg _ (by omega), Int.emod_lt_of_pos _ hg0, rfl⟩
      · rintro σ H3 ⟨b, rv, rfl, b0, b1, rfl⟩
        walk_at "rd"
        refine ⟨cpow (by decide) (by decide) (pow_small b0 b1 hg1), ?_⟩
        walk_at "rd"
        refine ⟨hg0, ?_⟩
        walk_at "rd"
        exact ⟨_, _, _, _, rfl, s2, hp2⟩
    · rintro σ H2 ⟨f, gv, bv, rv, rfl, s2, hp2⟩
      refine ⟨_, rfl, k f H2 ⟨⟨r, n + 1, lg, cs, s2 _ _ upd_same, s2 _ _ (by rw [upd_ne (Ne.symm tl)]; exact h2), s2 _ _ (by rw [upd_ne (Ne.symm tc)]; exact h3)⟩, TT.lc⟩ fun b o e hb => s2 _ _ (by rw [upd_ne hb]; exact e)⟩
theorem scDraw : FnScope ["tape", "size", "found"] ["tape", "size"] (defScope sDraw) := ⟨rfl, rfl, rfl, by decide +kernel, rfl, by decide +kernel, by decide +kernel⟩
theorem ok_draw (T : TxL K mg) : Fnc P w K mg base CX0 2 "_law_draw" ["tape", "size"] spDraw := by
  have GB : Fnc P w K mg base CX0 1 "_law_blend" ["tape"] spBlend := ok_blend T
  refine fnc0 T.draw scDraw (fun vs H Q E h => ?_) (fun _ _ _ _ _ _ us hl => match us, hl with | [_, _], _ => rfl) (fun cdv A outer s H vs Q E hr h => ?_)
  · obtain ⟨t, l, c, m, rfl, _⟩ := h
    rfl
  · obtain ⟨t, l, c, m, rfl, m0, m1, TT, k⟩ := h
    have hu := hu_of hr
    refine ⟨_, pss_cons (ps_if (pt_cmpR op_eq (pe_dget hu (pv 0) pe_str (fun _ _ => rfl)) pe_int (nomark _))
        (pss_one (ps_dput hu (pv 0) pe_str (pe_ifExp (pt_cmpR (op_neD hr.units) (pe_dget hu (pv 0) pe_str (fun _ _ => rfl)) (pe_lst pa_nil) (nomark _))
          (pe_bm PySem.F.plainAttrs_list PySem.F.slot_list_pop PySem.F.type_list_pop mt_popAt (pe_dget hu (pv 0) pe_str (fun _ _ => rfl)) (pa_cons pe_int pa_nil))
          (pe_fn GB hr pass0 (pa_cons (pv 0) pa_nil))) rfl)) pss_nil)
      (pss_cons (ps_set (i := 2) scDraw.nd rfl (Or.inl rfl) (pe_op op_mod (pe_callTy call_int1 (by rfl) T.int (by decide +kernel) (pa_cons (pe_dget hu (pv 0) pe_str (fun _ _ => rfl)) pa_nil)) (pv 1)))
      (pss_cons (ps_dput hu (pv 0) pe_str (pe_op op_fdiv (pe_callTy call_int1 (by rfl) T.int (by decide +kernel) (pa_cons (pe_dget hu (pv 0) pe_str (fun _ _ => rfl)) pa_nil)) (pv 1)) rfl)
      (pss_one (ps_ret (pv 2))))), ?_⟩
    obtain ⟨r, n, lg, cs, h1, h2, h3⟩ := TT.ex
    have tl := TT.tl
    have tc := TT.tc
    -- what is behind the if
    have tail : ∀ H2 : Hp, Tape H2 t l c → But t l H H2 → tSeq
        (tAsg (tOp (rI (fun _ j => 0 < j) fun i j => V.int (i % j)) (tCB (fun xs H Q => (∃ i, xs = [V.int i] ∧ Q (V.int i) H) ∨ ∃ k, xs = [V.bl k] ∧ Q (V.int (if k then 1 else 0)) H) (tCons (tDGet (tVar 0) (tC (.str "rest"))) tNil)) (tVar 1)) (gName 2))
        (tSeq (sDPut (tVar 0) (tC (.str "rest")) (tOp (rI CDiv fun i j => V.int (i / j)) (tCB (fun xs H Q => (∃ i, xs = [V.int i] ∧ Q (V.int i) H) ∨ ∃ k, xs = [V.bl k] ∧ Q (V.int (if k then 1 else 0)) H) (tCons (tDGet (tVar 0) (tC (.str "rest"))) tNil)) (tVar 1)))
        (tRet (tVar 2))) { nx := fun _ H' => Q .non H', rt := Q } [some (.ref t), some (.int m), none] H2 := by
      intro H2 T2 b2
      obtain ⟨r, n, lg, cs, h1, h2, h3⟩ := T2.ex
      refine ⟨_, rfl, t, .int r, rfl, dg_rest h1, .inl ⟨_, rfl, _, rfl, _, _, rfl, rfl, m0, ?_⟩⟩
      refine ⟨_, rfl, t, .int r, rfl, dg_rest h1, .inl ⟨_, rfl, _, rfl, _, _, rfl, rfl, ⟨m0, m1⟩, _, rfl, t, _, rfl, dp_rest _ h1, _, rfl, ?_⟩⟩
      refine k (r % m) _ (Int.emod_nonneg _ (by omega)) (Int.emod_lt_of_pos _ m0) ⟨⟨_, n, lg, cs, upd_same, by rw [upd_ne (Ne.symm T2.tl)]; exact h2, by rw [upd_ne (Ne.symm T2.tc)]; exact h3⟩, T2.lc⟩ fun b o e ht hl => ?_
      rw [upd_ne ht]
      exact b2 b o e ht hl
    refine ⟨_, rfl, t, .int r, rfl, dg_rest h1, rfl, _, rfl, ?_⟩
    refine ite2 (fun _ => ?_) (fun _ => tail H TT .refl)
    -- tape['rest'] = ..
    refine ⟨_, rfl, t, .ref l, rfl, dg_large h1, by decide, fun p hp => ⟨_, _, dp_ints (SqL.of (by rw [upd_ne (ne_of_none h2 hp)]; exact h2)), dp_nil (SqL.of upd_same), shaped_ints _, shaped_nil, _, rfl, ?_⟩⟩
    have g1 : (upd H p (.lst [])) t = some (.dK (tapeL l c r n)) := by rw [upd_ne (ne_of_none h1 hp)]; exact h1
    have g2 : (upd H p (.lst [])) l = some (.lst (lg.map V.int)) := by rw [upd_ne (ne_of_none h2 hp)]; exact h2
    have g3 : (upd H p (.lst [])) c = some (.lst (cs.map V.int)) := by rw [upd_ne (ne_of_none h3 hp)]; exact h3
    rw [eqv_nilL]
    cases lg with
    | nil =>
      refine iteF ?_
      refine ⟨_, rfl, t, l, c, rfl, ⟨⟨r, n, [], cs, g1, g2, g3⟩, TT.lc⟩, fun v H2 T2 b2 => ?_⟩
      obtain ⟨r2, n2, lg2, cs2, k1, k2, k3⟩ := T2.ex
      refine ⟨_, rfl, t, _, rfl, dp_rest v k1, ?_⟩
      refine tail _ ⟨⟨v, n2, lg2, cs2, upd_same, by rw [upd_ne (Ne.symm tl)]; exact k2, by rw [upd_ne (Ne.symm tc)]; exact k3⟩, TT.lc⟩ fun b o e ht hl => ?_
      rw [upd_ne ht]
      exact b2 b o (by rw [upd_ne (ne_of_none e hp)]; exact e) ht
    | cons z lg =>
      refine iteT ?_
      refine ⟨_, rfl, t, .ref l, rfl, dg_large g1, .inl ⟨rfl, _, SqL.of g2⟩, l, _, 0, 0, V.int z, rfl, rfl, g2, by decide, by decide, (by simp [seqIndex?]), rfl, ?_⟩
      have q1 : (upd (upd H p (.lst [])) l (.lst (((z :: lg).map V.int).eraseIdx 0))) t = some (.dK (tapeL l c r n)) := by rw [upd_ne tl]; exact g1
      refine ⟨_, rfl, t, _, rfl, dp_rest z q1, ?_⟩
      refine tail _ ⟨⟨z, n, lg, cs, upd_same, ?_, ?_⟩, TT.lc⟩ fun b o e ht hl => ?_
      · rw [upd_ne (Ne.symm tl), upd_same]
        rfl
      · rw [upd_ne (Ne.symm tc), upd_ne (Ne.symm TT.lc)]
        exact g3
      · rw [upd_ne ht, upd_ne hl, upd_ne (ne_of_none e hp)]
        exact e
theorem scPick : FnScope ["tape", "several"] ["tape", "several"] (defScope sPick) := ⟨rfl, rfl, rfl, by decide +kernel, rfl, by decide +kernel, by decide +kernel⟩
theorem ok_pick (T : TxL K mg) : Fnc P w K mg base CX0 3 "_law_pick" ["tape", "several"] (spPick K) := by
  have GD : Fnc P w K mg base CX0 2 "_law_draw" ["tape", "size"] spDraw := ok_draw T
  refine fnc0 T.pick scPick (fun vs H Q E h => ?_) (fun _ _ _ _ _ _ us hl => match us, hl with | [_, _], _ => rfl) (fun cdv A outer s H vs Q E hr h => ?_)
  · obtain ⟨t, l, c, a, xs, rfl, _⟩ := h
    rfl
  · obtain ⟨t, l, c, a, xs, rfl, hS, hne, hlt, at_, al, TT, k⟩ := h
    refine ⟨_, pss_one (ps_ret (pe_ix ix_list (pv 1) (pe_fn GD hr pass0 (pa_cons (pv 0) (pa_cons (pe_callB call_len_seq (by rfl) T.len PySem.boot_len (pa_cons (pv 1) pa_nil)) pa_nil))) (fun _ _ => rfl))), ?_⟩
    have h0 : 0 < xs.length := List.length_pos_iff.mpr hne
    refine ⟨_, rfl, _, rfl, _, rfl, a, xs, rfl, .inl hS, t, l, c, _, rfl, by omega, by omega, TT, fun d H' d0 d1 T' b' => ?_⟩
    have hd : d.toNat < xs.length := by omega
    exact ⟨a, xs, d, xs[d.toNat], rfl, rfl, b'.seq at_ al hS, atI_int d0 (List.getElem?_eq_getElem hd), k d.toNat _ H' (List.getElem?_eq_getElem hd) T' b'⟩
end
end K24
set_option maxHeartbeats 4000000
namespace K24
open PySem L2 PySem.EX
/-! ### the program's defs -/
abbrev sNum : Stmt := top 13
abbrev sBtw : Stmt := top 14
abbrev sLst : Stmt := top 15
abbrev sSw : Stmt := top 45
abbrev sLines : Stmt := top 46
abbrev sIsArrow : Stmt := top 35
abbrev sNeedA : Stmt := top 36
/-- an exception class of ours -/
structure XCls (prog : Program) (K : PySem.W.Frag) (mg : Str → Option Value) (x : Str) (k : Fk) : Prop where
  glo : mg x = some (.ref (He.ga K x))
  txt : ∃ D fI cc cda, XTxt prog K k (He.ga K x) D fI cc cda
structure TxP (prog : Program) (K : PySem.W.Frag) (mg : Str → Option Value) : Prop where
  num : Def K mg "is_number" sNum
  btw : Def K mg "is_between" sBtw
  lst : Def K mg "is_list" sLst
  sw : Def K mg "switches_in" sSw
  lines : Def K mg "lines_of" sLines
  isArrow : Def K mg "is_arrow" sIsArrow
  needA : Def K mg "need_arrows" sNeedA
  most : ∃ t, mg "MOST_SWITCHES" = some (.int 5 t)
  isinst : mg "isinstance" = none
  int : mg "int" = none
  bool : mg "bool" = none
  tuple : mg "tuple" = none
  list : mg "list" = none
  str : mg "str" = none
  range : mg "range" = none
  len : mg "len" = none
  all : mg "all" = none
  enum : mg "enumerate" = none
  badText : XCls prog K mg "BadText" .index
  badNum : XCls prog K mg "BadNumber" .part
  badArr : XCls prog K mg "BadArrows" .index
  noPlan : XCls prog K mg "NoPlan" .part
section
variable {P : Program} {w : World} {K : PySem.W.Frag} {mg : Str → Option Value} {base : Heap}
theorem pe_ty {X : Cx} {x : Str} {n : String} {pos : Pos} (hm : X.mg x = none) (hg : Gl X x) (hv : bootBuiltins x = some (.type n)) (hn : x ≠ "__name__" := by decide) (hd : (x == ("__debug__" : Str)) = false := by decide) : PE X (.Name x pos) (tC (.ty n)) := pe_bltn hg hm hv rfl hn hd
def spNum : Sp := fun vs H Q _ => ∃ i : Int, vs = [.int i] ∧ Q (.bl true) H
theorem scNum : FnScope ["thing"] ["thing"] (defScope sNum) := ⟨rfl, rfl, rfl, by decide +kernel, rfl, by decide +kernel, by decide +kernel⟩
theorem ok_num (T : TxP P K mg) : Fnc P w K mg base CX0 1 "is_number" ["thing"] spNum := by
  refine fnc0 T.num scNum (fun vs H Q E h => ?_) (fun _ _ _ _ _ _ us hl => match us, hl with | [_], _ => rfl) (fun cdv A outer s H vs Q E hr h => ?_)
  · obtain ⟨i, rfl, _⟩ := h
    rfl
  · obtain ⟨i, rfl, k⟩ := h
    refine ⟨_, pss_one (ps_ret (pe_and (pe_callB call_isi (by rfl) T.isinst (by decide +kernel) (pa_cons (pv 0) (pa_cons (pe_ty (n := "int") T.int (by rfl) (by decide +kernel)) pa_nil)))
      (pe_one (pe_not (pe_callB call_isi (by rfl) T.isinst (by decide +kernel) (pa_cons (pv 0) (pa_cons (pe_ty (n := "bool") T.bool (by rfl) (by decide +kernel)) pa_nil))))))), ?_⟩
    refine ⟨_, rfl, .int i, .ty "int", _, _, true, rfl, .ty _, .base (.int i), by with_unfolding_all rfl, true, rfl, ?_⟩
    refine iteT ?_
    exact ⟨_, rfl, .int i, .ty "bool", _, _, false, rfl, .ty _, .base (.int i), by with_unfolding_all rfl, false, rfl, k⟩
def spBtw : Sp := fun vs H Q _ => ∃ i a b : Int, vs = [.int i, .int a, .int b] ∧ Q (.bl (decide (a ≤ i) && decide (i ≤ b))) H
theorem scBtw : FnScope ["thing", "low", "high"] ["thing", "low", "high"] (defScope sBtw) := ⟨rfl, rfl, rfl, by decide +kernel, rfl, by decide +kernel, by decide +kernel⟩
theorem ok_btw (T : TxP P K mg) : Fnc P w K mg base CX0 2 "is_between" ["thing", "low", "high"] spBtw := by
  have GN : Fnc P w K mg base CX0 1 "is_number" ["thing"] spNum := ok_num T
  refine fnc0 T.btw scBtw (fun vs H Q E h => ?_) (fun _ _ _ _ _ _ us hl => match us, hl with | [_, _, _], _ => rfl) (fun cdv A outer s H vs Q E hr h => ?_)
  · obtain ⟨i, a, b, rfl, _⟩ := h
    rfl
  · obtain ⟨i, a, b, rfl, k⟩ := h
    refine ⟨_, pss_one (ps_ret (pe_and (pe_fn GN hr pass0 (pa_cons (pv 0) pa_nil)) (pe_one (pe_chain op_le op_le (pv 1) (pv 0) (pv 2))))), ?_⟩
    refine ⟨_, rfl, i, rfl, true, rfl, iteT ?_⟩
    refine ⟨_, rfl, _, rfl, _, _, rfl, rfl, _, rfl, ?_⟩
    by_cases h1 : a ≤ i
    · rw [decide_eq_true h1, Bool.true_and] at k
      rw [decide_eq_true h1]
      exact iteT ⟨_, rfl, _, _, rfl, rfl, k⟩
    · rw [decide_eq_false h1, Bool.false_and] at k
      rw [decide_eq_false h1]
      exact iteF k
theorem TyX.ext {H H' : Hp} {x : V} {t : Value} (e : ∀ a o, H a = some o → H' a = some o) (h : TyX K H x t) : TyX K H' x t := by
  cases h with
  | base b => cases b with
    | non => exact .base .non
    | bl x => exact .base (.bl x)
    | int x => exact .base (.int x)
    | str x => exact .base (.str x)
    | flt x => exact .base (.flt x)
    | lst q => exact .base (.lst (e _ _ q))
    | frz q => exact .base (.frz (e _ _ q))
    | tup q => exact .base (.tup (e _ _ q))
    | dK q => exact .base (.dK (e _ _ q))
    | dT q => exact .base (.dT (e _ _ q))
    | ins q c1 c2 c3 c4 c5 => exact .base (.ins (e _ _ q) c1 c2 c3 c4 c5)
  | byt b => exact .byt b
  | set q => exact .set (e _ _ q)
  | kList q c => exact .kList q c
  | kTuple q c => exact .kTuple q c
  | kDict q c => exact .kDict q c
  | fTuple q => exact .fTuple (e _ _ q)
  | fDict q => exact .fDict (e _ _ q)
def spLst (K : PySem.W.Frag) : Sp := fun vs H Q _ => ∃ (v : V) (t : Value) (b : Bool), vs = [v] ∧ TyX K H v t ∧ PySem.W.kitAny K t [.type "list", .type "tuple"] = some b ∧ ∀ H', Same H H' → Q (.bl b) H'
theorem scLst : FnScope ["thing"] ["thing"] (defScope sLst) := ⟨rfl, rfl, rfl, by decide +kernel, rfl, by decide +kernel, by decide +kernel⟩
theorem ok_lst (T : TxP P K mg) : Fnc P w K mg base CX0 1 "is_list" ["thing"] (spLst K) := by
  refine fnc0 T.lst scLst (fun vs H Q E h => ?_) (fun _ _ _ _ _ _ us hl => match us, hl with | [_], _ => rfl) (fun cdv A outer s H vs Q E hr h => ?_)
  · obtain ⟨v, t, b, rfl, _⟩ := h
    rfl
  · obtain ⟨v, t, b, rfl, ty, kit, k⟩ := h
    refine ⟨_, pss_one (ps_ret (pe_callB call_isiT (by rfl) T.isinst (by decide +kernel) (pa_cons (pv 0) (pa_cons (pe_tup (pa_cons (pe_ty (n := "list") T.list (by rfl) (by decide +kernel)) (pa_cons (pe_ty (n := "tuple") T.tuple (by rfl) (by decide +kernel)) pa_nil))) pa_nil)))), ?_⟩
    refine ⟨_, rfl, by decide, fun p hp => ?_⟩
    exact ⟨v, p, _, t, _, b, rfl, upd_same, .cons (.ty _) (.cons (.ty _) .nil), TyX.ext (Same.upd hp) ty, kit, k _ (Same.upd hp)⟩
/-! ### texts -/
def nS (i : Int) : Str := Str.ofString (toString i)
def headS (m : Int) : Str := Str.ofString "switches " ++ nS m
theorem headS_len {m : Int} (h0 : 1 ≤ m) (h1 : m ≤ 5) : (headS m).length = 10 := by
  have e : m = 1 ∨ m = 2 ∨ m = 3 ∨ m = 4 ∨ m = 5 := by omega
  rcases e with rfl | rfl | rfl | rfl | rfl <;> decide +kernel
theorem headS_inj {m n : Int} (h0 : 1 ≤ m) (h1 : m ≤ 5) (k0 : 1 ≤ n) (k1 : n ≤ 5) (h : headS m = headS n) : m = n := by
  have e : m = 1 ∨ m = 2 ∨ m = 3 ∨ m = 4 ∨ m = 5 := by omega
  have e' : n = 1 ∨ n = 2 ∨ n = 3 ∨ n = 4 ∨ n = 5 := by omega
  rcases e with rfl | rfl | rfl | rfl | rfl <;> rcases e' with rfl | rfl | rfl | rfl | rfl <;> first | rfl | exact absurd h (by decide +kernel)
def spSw : Sp := fun vs H Q _ => ∃ l : Str, vs = [.str l] ∧ ((∃ m : Int, 1 ≤ m ∧ m ≤ 5 ∧ l = headS m ∧ Q (.int m) H) ∨ ((∀ m : Int, 1 ≤ m → m ≤ 5 → l ≠ headS m) ∧ Q .non H))
theorem scSw : FnScope ["line", "many"] ["line"] (defScope sSw) := ⟨rfl, rfl, rfl, by decide +kernel, rfl, by decide +kernel, by decide +kernel⟩
theorem ok_sw (T : TxP P K mg) : Fnc P w K mg base CX0 1 "switches_in" ["line"] spSw := by
  obtain ⟨tm, hm⟩ := T.most
  refine fnc0 T.sw scSw (fun vs H Q E h => ?_) (fun _ _ _ _ _ _ us hl => match us, hl with | [_], _ => rfl) (fun cdv A outer s H vs Q E hr h => ?_)
  · obtain ⟨l, rfl, _⟩ := h
    rfl
  · obtain ⟨l, rfl, k⟩ := h
    refine ⟨_, pss_cons (ps_for PassesOwn.never rfl (pi_range2 (by rfl) T.range (pa_cons pe_int (pa_cons (pe_op op_add (pe_glob (v := .int 5) (by rfl) hm ⟨_, rfl⟩) pe_int) pa_nil))) (pg_name (i := 1) scSw.nd rfl (Or.inl rfl))
        (pss_one (ps_if (pt_cmpR op_eq (pv 0) (pe_op op_add_str pe_str (pe_callTy call_str_int (by rfl) T.str (by decide +kernel) (pa_cons (pv 1) pa_nil))) (nomark _)) (pss_one (ps_ret (pv 1))) pss_nil)))
      (pss_one (ps_ret pe_non)), ?_⟩
    refine ⟨5, 1, rfl, rfl, 1, 6, rfl, ⟨by decide, by decide, by decide, by decide⟩, for_range (lo := 1) (n := 5) (fun i σ H2 => H2 = H ∧ (∃ x, σ = [some (.str l), x]) ∧ ∀ j : Nat, j < i → l ≠ headS (1 + j)) ⟨rfl, ⟨_, rfl⟩, fun j hj => absurd hj (Nat.not_lt_zero _)⟩ ?_ ?_⟩
    · rintro i σ H2 hi ⟨rfl, ⟨x, rfl⟩, hn⟩
      have hlen : (headS (1 + (i : Int))).length = 10 := headS_len (by omega) (by omega)
      refine ⟨_, rfl, _, rfl, _, rfl, Nat.lt_of_le_of_lt (Nat.log2_le_self _) (by omega), _, _, rfl, rfl, (by
        have e : (Str.ofString "switches ").length + (nS (1 + (i : Int))).length = (headS (1 + (i : Int))).length := by unfold headS; rw [PySem.Str.length_append]
        show (Str.ofString "switches ").length + (nS (1 + (i : Int))).length ≤ sizeLine
        rw [e, hlen]
        decide), rfl, _, rfl, ?_⟩
      have e : decide (V.str l = V.str (Str.ofString "switches " ++ Str.ofString (toString ((1 : Int) + i)))) = decide (l = headS (1 + i)) := by
        show decide (V.str l = V.str (headS (1 + i))) = _
        by_cases h : l = headS (1 + i) <;> simp [h]
      rw [e]
      refine ite2 (fun hc => ?_) (fun hc => ?_)
      · have hc := of_decide_eq_true hc
        rcases k with ⟨m, m0, m1, hl, k⟩ | ⟨hl, _⟩
        · have : m = 1 + i := headS_inj m0 m1 (by omega) (by omega) (hl.symm.trans hc)
          subst this
          exact ⟨_, rfl, k⟩
        · exact absurd hc (hl _ (by omega) (by omega))
      · have hc : ¬ l = headS (1 + i) := fun h => hc (decide_eq_true h)
        refine ⟨rfl, ⟨_, rfl⟩, fun j hj => ?_⟩
        rcases Nat.lt_or_ge j i with h | h
        · exact hn j h
        · have : j = i := by omega
          subst this
          exact hc
    · rintro σ H2 ⟨rfl, ⟨x, rfl⟩, hn⟩
      rcases k with ⟨m, m0, m1, hl, k⟩ | ⟨hl, k⟩
      · have := hn (m - 1).toNat (by omega)
        have e : (1 : Int) + ((m - 1).toNat : Int) = m := by omega
        rw [e] at this
        exact absurd hl this
      · exact k
/-- what is wanted of C(v), raised -/
def XOut (C : Addr) (k : Fk) (v : V) (H : Hp) (E : XK) : Prop := ∀ (d : Addr) (H' : Hp), Same H H' → H' d = some (.xd [(k.name, v)]) → E (.ref C) (some d) H'
theorem XOut.go {C : Addr} {k : Fk} {v : V} {H H1 : Hp} {E : XK} (x : XOut C k v H E) (s : Same H H1) {d : Addr} (hd : H1 d = none) : E (.ref C) (some d) (upd H1 d (.xd [(k.name, v)])) := x d _ (s.trans (Same.upd hd)) upd_same
abbrev nl : Str := Str.ofString "\n"
def spLines (K : PySem.W.Frag) : Sp := fun vs H Q E => ∃ v, vs = [v] ∧ ((∃ t : Str, v = .str t ∧ t.length + 2 ≤ sizeLine ∧ ∀ p, H p = none → Q (.ref p) (upd H p (.lst ((Txt.split t nl).map V.str)))) ∨
  ∃ ty, TyX K H v ty ∧ PySem.W.kitOne K ty (.type "str") = some false ∧ XOut (He.ga K "BadText") .index .non H E)
theorem scLines : FnScope ["text"] ["text"] (defScope sLines) := ⟨rfl, rfl, rfl, by decide +kernel, rfl, by decide +kernel, by decide +kernel⟩
theorem ok_lines (T : TxP P K mg) : Fnc P w K mg base (L2.CX P w) 1 "lines_of" ["text"] (spLines K) := by
  obtain ⟨gB, D, fI, cc, cda, XB⟩ := T.badText
  refine fnc T.lines scLines (fun vs H Q E h => ?_) (fun _ _ _ _ _ _ us hl => match us, hl with | [_], _ => rfl) (fun cdv A outer s H vs Q E hr h => ?_)
  · obtain ⟨v, rfl, _⟩ := h
    rfl
  · obtain ⟨v, rfl, h⟩ := h
    refine ⟨_, pss_cons (ps_if (pt_not (pt_val (pe_callB call_isi (by rfl) T.isinst (by decide +kernel) (pa_cons (pv 0) (pa_cons (pe_ty (n := "str") T.str (by rfl) (by decide +kernel)) pa_nil)))))
        (pss_one (ps_raiseP rfl XB gB hr (takes_of rfl rfl rfl rfl) (pa_cons pe_non pa_nil))) pss_nil)
      (pss_one (ps_ret (pe_split (pv 0) pe_str))), ?_⟩
    rcases h with ⟨t, rfl, hz, k⟩ | ⟨ty, h1, h2, h3⟩
    · refine ⟨_, rfl, .str t, .ty "str", _, _, true, rfl, .ty _, .base (.str t), by with_unfolding_all rfl, _, rfl, ?_⟩
      refine iteF ?_
      exact ⟨_, rfl, ⟨t, rfl⟩, t, _, rfl, rfl, by decide, hz, fun p hp => k p hp⟩
    · refine ⟨_, rfl, v, .ty "str", _, _, false, rfl, .ty _, h1, h2, _, rfl, ?_⟩
      refine iteT ?_
      exact ⟨_, rfl, fun d hd => h3.go (fun _ _ h => h) hd⟩
/-! ### arrows -/
def okA (n : Int) (a : Ar) : Prop := 0 ≤ a.1 ∧ a.1 < n ∧ 0 ≤ a.2.1 ∧ a.2.1 < n ∧ (a.2.2 = 1 ∨ a.2.2 = -1)
def spIsArrow : Sp := fun vs H Q _ => ∃ (n : Int) (v : V) (a : Ar), vs = [.int n, v] ∧ ArV H v a ∧ okA n a ∧ ∀ H', Same H H' → Q (.bl true) H'
theorem scIsArrow : FnScope ["switches", "thing", "part"] ["switches", "thing"] (defScope sIsArrow) := ⟨rfl, rfl, rfl, by decide +kernel, rfl, by decide +kernel, by decide +kernel⟩
theorem ok_isArrow (T : TxP P K mg) : Fnc P w K mg base CX0 3 "is_arrow" ["switches", "thing"] spIsArrow := by
  have GN : Fnc P w K mg base CX0 1 "is_number" ["thing"] spNum := ok_num T
  have GB : Fnc P w K mg base CX0 2 "is_between" ["thing", "low", "high"] spBtw := ok_btw T
  refine fnc0 T.isArrow scIsArrow (fun vs H Q E h => ?_) (fun _ _ _ _ _ _ us hl => match us, hl with | [_, _], _ => rfl) (fun cdv A outer s H vs Q E hr h => ?_)
  · obtain ⟨n, v, a, rfl, _⟩ := h
    rfl
  · obtain ⟨n, v, a, rfl, ⟨p, rfl, hp⟩, ok, k⟩ := h
    refine ⟨_, pss_cons (ps_if (PW.pt (pw_or (pt_not (pt_val (pe_callB call_isi (by rfl) T.isinst (by decide +kernel) (pa_cons (pv 1) (pa_cons (pe_ty (n := "tuple") T.tuple (by rfl) (by decide +kernel)) pa_nil)))))
        (pw_or (pt_cmpR op_ne (pe_callB call_len_seq (by rfl) T.len PySem.boot_len (pa_cons (pv 1) pa_nil)) pe_int (nomark _))
        (pw_or1 (pt_not (pt_val (pe_callB (cr_all rfl) (by rfl) T.all (by decide +kernel) (pa_cons
          (pe_lc (own := [("part", 2)]) (g := gName 2) (tt := tYes) rfl scIsArrow.nd (pi_tup (pv 1)) (blkOk_by (N := ["switches", "thing", "part"]) (sc := defScope sIsArrow) (by decide +kernel))
            (fun _ _ _ _ _ => pg_name (i := 2) scIsArrow.nd rfl (Or.inl rfl)) (fun _ _ _ _ _ => pts_nil) (fun _ _ _ _ _ => pe_fn GN (hr.mono (by decide)) pass0 (pa_cons (pv 2) pa_nil))) pa_nil))))))))
        (pss_one (ps_ret pe_bl)) pss_nil)
      (pss_one (ps_ret (pe_and (pe_fn GB hr pass0 (pa_cons (pe_ix ix_tup (pv 1) pe_int (fun _ _ => rfl)) (pa_cons pe_int (pa_cons (pe_op op_sub (pv 0) pe_int) pa_nil))))
        (pe_and (pe_fn GB hr pass0 (pa_cons (pe_ix ix_tup (pv 1) pe_int (fun _ _ => rfl)) (pa_cons pe_int (pa_cons (pe_op op_sub (pv 0) pe_int) pa_nil))))
        (pe_one (pe_cmpR op_in_seq (pe_ix ix_tup (pv 1) pe_int (fun _ _ => rfl)) (pe_tup (pa_cons pe_int (pa_cons (pe_un un_neg pe_int) pa_nil))) (by with_unfolding_all rfl))))))), ?_⟩
    obtain ⟨a1, a2, a3⟩ := a
    obtain ⟨o1, o2, o3, o4, o5⟩ := ok
    simp only at o1 o2 o3 o4 o5
    -- the test
    refine ⟨_, rfl, .ref p, .ty "tuple", _, _, true, rfl, .ty _, .base (.tup hp), by with_unfolding_all rfl, _, rfl, ?_⟩
    refine iteF ?_
    refine ⟨_, rfl, p, _, rfl, .inr (SqT.of hp), rfl, _, rfl, ?_⟩
    refine iteF ?_
    refine ⟨_, rfl, _, rfl, ⟨_, SqT.of hp⟩, fun D hD => lc_tup (K := K) (a := p) (xs := (arL (a1, a2, a3)).map V.int) (fun i H2 => Same H H2 ∧ ∃ bs : List Bool, H2 D = some (.lst (bs.map V.bl)) ∧ bs.length ≤ i ∧ bs.all id = true) ⟨Same.upd hD, [], upd_same, Nat.le_refl _, rfl⟩ (fun i H2 _ h => SqT.of (h.1 _ _ hp)) ?_ ?_⟩
    · rintro i x H2 hx ⟨s2, bs, hz, hl, hb⟩
      obtain ⟨z, hz1, rfl⟩ := map_get hx
      have hi := (List.getElem?_eq_some_iff.mp hz1).1
      have hi3 : i < 3 := hi
      refine ⟨rfl, ?_⟩
      refine ⟨_, rfl, z, rfl, _, hz, small1000 (by rw [List.length_map]; omega), s2.put hD, bs ++ [true], ?_, by rw [List.length_append, List.length_singleton]; omega, by rw [List.all_append, hb]; rfl⟩
      rw [upd_same, ← map_snoc]
    · rintro H2 ⟨s2, bs, hz, hl, hb⟩
      refine ⟨D, bs, rfl, SqL.of hz, _, rfl, ?_⟩
      rw [hb]
      refine iteF ?_
      have hp2 : H2 p = some (.tup ((arL (a1, a2, a3)).map V.int)) := s2 _ _ hp
      -- the answer
      refine ⟨_, rfl, _, _, (0 : Int), V.int a1, rfl, rfl, SqT.of hp2, rfl, _, rfl, _, _, rfl, rfl, a1, 0, n - 1, rfl, true, ?_, iteT ?_⟩
      · rw [decide_eq_true o1, decide_eq_true (show a1 ≤ n - 1 by omega)]; rfl
      refine ⟨_, rfl, _, _, (1 : Int), V.int a2, rfl, rfl, SqT.of hp2, rfl, _, rfl, _, _, rfl, rfl, a2, 0, n - 1, rfl, true, ?_, iteT ?_⟩
      · rw [decide_eq_true o3, decide_eq_true (show a2 ≤ n - 1 by omega)]; rfl
      refine ⟨_, rfl, _, _, (2 : Int), V.int a3, rfl, rfl, SqT.of hp2, rfl, 1, rfl, by decide, fun q hq => ?_⟩
      refine ⟨q, _, rfl, .inr (SqT.of upd_same), rfl, rfl, ?_⟩
      have e : inV (.int a3) [.int 1, .int (-1)] = true := by
        rcases o5 with rfl | rfl <;> decide
      show Q (.bl (inV (.int a3) [.int 1, .int (-1)])) _
      rw [e]
      exact k _ (s2.trans (Same.upd hq))
end
end K24
set_option maxHeartbeats 4000000
namespace K24
open PySem L2 PySem.EX PyProof.Rows
section
variable {P : Program} {w : World} {K : PySem.W.Frag} {mg : Str → Option Value} {base : Heap}
def arKey (a : Ar) : List Key := (arL a).map Sum.inl
theorem arKey_V (a : Ar) : (arKey a).map kV = (arL a).map V.int := by
  unfold arKey
  rw [List.map_map]
  rfl
theorem arKey_inj {a b : Ar} (h : arKey a = arKey b) : a = b := arL_inj ((List.map_inj_right (fun _ _ e => Sum.inl.inj e)).mp h)
def known (as : List Ar) : List (List Key × V) := as.map fun a => (arKey a, V.non)
theorem known_none {as : List Ar} {a : Ar} (h : a ∉ as) : valV (known as) (arKey a) = none := by
  unfold valV known
  rw [Option.map_eq_none_iff, List.find?_eq_none]
  intro x hx
  obtain ⟨b, hb, rfl⟩ := List.mem_map.mp hx
  intro q
  exact h (by rw [← arKey_inj (of_decide_eq_true q)]; exact hb)
theorem known_put {as : List Ar} {a : Ar} (h : a ∉ as) : putK (known as) (arKey a) .non = known (as ++ [a]) := by
  have e : ((known as).any fun kv => decide (kv.1 = arKey a)) = false := by
    rw [List.any_eq_false]
    intro x hx
    unfold known at hx
    obtain ⟨b, hb, rfl⟩ := List.mem_map.mp hx
    intro q
    exact h (by rw [← arKey_inj (of_decide_eq_true q)]; exact hb)
  unfold putK
  rw [e, if_neg (by decide)]
  unfold known
  rw [List.map_append]
  rfl
theorem arV_tup {H : Hp} {v : V} {a : Ar} (h : ArV H v a) : ∃ p, v = .ref p ∧ H p = some (.tup ((arKey a).map kV)) := by
  obtain ⟨p, e, h⟩ := h
  exact ⟨p, e, by rw [arKey_V]; exact h⟩
def spNeedA (K : PySem.W.Frag) : Sp := fun vs H Q _ => ∃ (n : Int) (a : Addr) (xs : List V) (as : List Ar), vs = [.int n, .ref a] ∧ 1 ≤ n ∧ n ≤ 5 ∧ TyX K H (.ref a) (.type "list") ∧ SqL K H a xs ∧ Ars H xs as ∧ (∀ x ∈ as, okA n x) ∧ as.Nodup ∧ as.length < 1000 ∧ ∀ H', Same H H' → Q .non H'
theorem scNeedA : FnScope ["switches", "arrows", "known", "index", "arrow"] ["switches", "arrows"] (defScope sNeedA) := ⟨rfl, rfl, rfl, by decide +kernel, rfl, by decide +kernel, by decide +kernel⟩
theorem ok_needA (T : TxP P K mg) : Fnc P w K mg base CX0 4 "need_arrows" ["switches", "arrows"] (spNeedA K) := by
  have GB : Fnc P w K mg base CX0 2 "is_between" ["thing", "low", "high"] spBtw := ok_btw T
  have GL : Fnc P w K mg base CX0 1 "is_list" ["thing"] (spLst K) := ok_lst T
  have GA : Fnc P w K mg base CX0 3 "is_arrow" ["switches", "thing"] spIsArrow := ok_isArrow T
  obtain ⟨tm, hm⟩ := T.most
  refine fnc0 T.needA scNeedA (fun vs H Q E h => ?_) (fun _ _ _ _ _ _ us hl => match us, hl with | [_, _], _ => rfl) (fun cdv A outer s H vs Q E hr h => ?_)
  · obtain ⟨n, a, xs, as, rfl, _⟩ := h
    rfl
  · obtain ⟨n, a, xs, as, rfl, n0, n1, ty, hS, hA, ok, nd, hlt, k⟩ := h
    have hu := hu_of hr
    refine ⟨_, pss_cons (ps_if (pt_not (pt_val (pe_fn GB (hr.mono (by decide)) pass0 (pa_cons (pv 0) (pa_cons pe_int (pa_cons (pe_glob (v := .int 5) (by rfl) hm ⟨_, rfl⟩) pa_nil)))))) (pss_one ps_never) pss_nil)
      (pss_cons (ps_if (pt_not (pt_val (pe_fn GL (hr.mono (by decide)) pass0 (pa_cons (pv 1) pa_nil)))) (pss_one ps_never) pss_nil)
      (pss_cons (ps_set (i := 2) scNeedA.nd rfl (Or.inl rfl) pe_dnewT)
      (pss_one (ps_for PassesOwn.never rfl (pi_enum (by rfl) T.enum (pa_cons (pv 1) pa_nil)) (pg_tup rfl (pgs_cons (pg_name (i := 3) scNeedA.nd rfl (Or.inl rfl)) (pgs_cons (pg_name (i := 4) scNeedA.nd rfl (Or.inl rfl)) pgs_nil)))
        (pss_cons (ps_if (PW.pt (pw_or (pt_not (pt_val (pe_fn GA hr pass0 (pa_cons (pv 0) (pa_cons (pv 4) pa_nil))))) (pw_or1 (pt_cmp (pc_din hu (pv 4) (pv 2)))))) (pss_one ps_never) pss_nil)
        (pss_one (ps_dput hu (pv 2) (pv 4) pe_non rfl))))))), ?_⟩
    refine ⟨_, rfl, n, 1, 5, rfl, true, ?_, iteF ?_⟩
    · rw [decide_eq_true n0, decide_eq_true n1]; rfl
    refine ⟨_, rfl, _, _, true, rfl, ty, by with_unfolding_all rfl, fun H1 s1 => ⟨_, rfl, iteF ?_⟩⟩
    refine fun D hD => ?_
    have nD : H D = none := s1.free hD
    have sD : Same H (upd H1 D (.dT [])) := s1.put nD
    refine ⟨_, rfl, a, xs, rfl, sD.seq hS, for_it walk_enum (fun i σ H2 => ∃ u v, σ = [some (.int n), some (.ref a), some (.ref D), u, v] ∧ Same H H2 ∧ H2 D = some (.dT (known (as.take i)))) ⟨none, none, rfl, sD, upd_same⟩ (fun i σ H2 _ ⟨u, v, _, s2, _⟩ => s2.seq hS) ?_ ?_⟩
    · rintro i x σ H2 H3 hi ⟨u, v, rfl, s2, hD2⟩ ⟨p, x1, x2, rfl, hp, rfl, e1, e2⟩
      cases e1
      obtain ⟨b, hb, hv⟩ := Ars.get hA e2
      have hi' : i < as.length := (List.getElem?_eq_some_iff.mp hb).1
      have s3 : Same H2 (upd H2 p (.tup [V.int i, x2])) := Same.upd hp
      have hv3 : ArV (upd H2 p (.tup [V.int i, x2])) x2 b := hv.keep (s2.trans s3).tups
      have hmem : b ∈ as := List.mem_of_getElem? hb
      refine ⟨p, _, rfl, SqT.of upd_same, rfl, ?_⟩
      refine ⟨_, _, rfl, ⟨_, _, rfl, rfl, ?_⟩⟩
      refine ⟨_, rfl, _, rfl, n, x2, b, rfl, hv3, ok b hmem, fun H4 s4 => ⟨_, rfl, iteF ?_⟩⟩
      obtain ⟨q, rfl, hq⟩ := arV_tup (hv3.keep s4.tups)
      have hD4 : H4 D = some (.dT (known (as.take i))) := s4 _ _ (s3 _ _ hD2)
      have hn : b ∉ as.take i := fun z => by
        obtain ⟨j, hj, e⟩ := List.mem_iff_getElem.mp z
        rw [List.length_take] at hj
        rw [List.getElem_take] at e
        have e2 : as[j]? = some b := by rw [List.getElem?_eq_getElem (by omega), e]
        have : j = i := (List.getElem?_inj (by omega) nd).mp (e2.trans hb.symm)
        omega
      refine ⟨_, rfl, _, rfl, D, _, rfl, DGet.t hD4 hq, _, rfl, ?_⟩
      rw [known_none hn]
      refine iteF ?_
      refine ⟨_, rfl, _, rfl, D, _, rfl, DPut.t hD4 hq (by unfold known; rw [List.length_map, List.length_take]; exact Nat.lt_of_le_of_lt (Nat.min_le_left _ _) (Nat.lt_trans (by omega : i < 1000) (by decide))), ?_⟩
      refine ⟨_, _, rfl, ((s2.trans s3).trans s4).put nD, ?_⟩
      rw [upd_same, known_put hn, List.take_succ, hb]
      rfl
    · rintro σ H2 ⟨u, v, rfl, s2, hD2⟩
      exact k _ s2
/-! ### the class Plan -/
def clsBody : Stmt → List Stmt
  | .ClassDef (body := b) .. => b
  | _ => []
abbrev mst (i : Nat) : Stmt := (clsBody (top 37)).getD i (.Pass ⟨0, 0, 0, 0⟩)
abbrev cP (K : PySem.W.Frag) : Addr := He.ga K "Plan"
structure TxC (K : PySem.W.Frag) (mg : Str → Option Value) : Prop where
  glo : mg "Plan" = some (.ref (cP K))
  sorted : mg "sorted" = none
  cls : Cls K (cP K)
  mkr : Mk K (cP K) (He.ma K (cP K) "__init__")
  init : ∃ fd, FunD K "__init__" "Plan.__init__" (defArgs (mst 0)) (defBody (mst 0)) (defScope (mst 0)) [] [] (He.ma K (cP K) "__init__") fd
  noS : NoAttr K (cP K) "own_switches"
  noA : NoAttr K (cP K) "own_arrows"
  sw : ∃ p g fd, PropOf K (cP K) "switches" p g ∧ FunD K "switches" "Plan.switches" (defArgs (mst 1)) (defBody (mst 1)) (defScope (mst 1)) [] [] g fd
  ar : ∃ p g fd, PropOf K (cP K) "arrows" p g ∧ FunD K "arrows" "Plan.arrows" (defArgs (mst 2)) (defBody (mst 2)) (defScope (mst 2)) [] [] g fd
  eqf : PySem.W.findIn K (.ref (cP K)) "__eq__" = some (some (.ref (He.ma K (cP K) "__eq__")))
  eqn : PySem.W.isFn K (.ref (He.ma K (cP K) "__eq__")) = true
  eq : ∃ fd, FunD K "__eq__" "Plan.__eq__" (defArgs (mst 3)) (defBody (mst 3)) (defScope (mst 3)) [] [] (He.ma K (cP K) "__eq__") fd
  ne : PySem.W.findIn K (.ref (cP K)) "__ne__" = some (some (.builtin "object.__ne__"))
  ob : PySem.W.subIn K (.ref (cP K)) (.type "object") = some true
  ha : PySem.W.findIn K (.ref (cP K)) "__class__" = some (some (.builtin "object.__class__"))
  hn : PySem.W.specialIn K (.builtin "object.__class__") "__get__" = some (some (.builtin "getset_descriptor.__get__"))
  htk : PySem.W.takesIn K (.builtin "object.__class__") = some true
  hm : PySem.W.mroIn K (cP K) (.type "object") = some true
  nNone : PySem.W.kitOne K (.type "NoneType") (.ref (cP K)) = some false
  nInt : PySem.W.kitOne K (.type "int") (.ref (cP K)) = some false
  nStr : PySem.W.kitOne K (.type "str") (.ref (cP K)) = some false
def plF (n : Int) (t : Addr) : List (Str × V) := [("own_switches", .int n), ("own_arrows", .ref t)]
/-- a plan stands at x -/
def PlanAt (K : PySem.W.Frag) (H : Hp) (x : Addr) (n : Int) (as : List Ar) : Prop := ∃ dx t ys, H x = some (.ins (cP K) dx (plF n t)) ∧ H t = some (.tup ys) ∧ Ars H ys as
theorem PlanAt.same {H H' : Hp} {x : Addr} {n : Int} {as : List Ar} (h : PlanAt K H x n as) (s : Same H H') : PlanAt K H' x n as := by
  obtain ⟨dx, t, ys, h1, h2, h3⟩ := h
  exact ⟨dx, t, ys, s _ _ h1, s _ _ h2, h3.keep s.tups⟩
theorem PlanAt.but {H H' : Hp} {x t l c : Addr} {n : Int} {as : List Ar} (h : PlanAt K H x n as) (b : But t l H H') (T : Tape H t l c) : PlanAt K H' x n as := by
  obtain ⟨dx, t', ys, h1, h2, h3⟩ := h
  obtain ⟨r, m, lg, cs, e1, e2, _⟩ := T.ex
  exact ⟨dx, t', ys, b _ _ h1 (ne_of h1 e1 (by intro z; cases z)) (ne_of h1 e2 (by intro z; cases z)), b.tups T _ _ h2, h3.keep (b.tups T)⟩
def spInit (K : PySem.W.Frag) : Sp := fun vs H Q _ => ∃ (x dx : Addr) (n : Int) (a : Addr) (xs : List V) (as : List Ar), vs = [.ref x, .int n, .ref a] ∧ H x = some (.ins (cP K) dx []) ∧ 1 ≤ n ∧ n ≤ 5 ∧ TyX K H (.ref a) (.type "list") ∧ SqL K H a xs ∧ Ars H xs as ∧ (∀ y ∈ as, okA n y) ∧ as.Nodup ∧ as.length < 1000 ∧
  ∀ H', (∀ b o, b ≠ x → H b = some o → H' b = some o) → PlanAt K H' x n (as.mergeSort le3) → Q .non H'
theorem scInit : FnScope ["self", "switches", "arrows"] ["self", "switches", "arrows"] (defScope (mst 0)) := ⟨rfl, rfl, rfl, by decide +kernel, rfl, by decide +kernel, by decide +kernel⟩
theorem FnOk_of {CX : CXT} {f : Addr} {fd : FuncData} {x q : Str} {st : Stmt} {N ps : List Str} {k : Nat} {sp : Sp} (F : FunD K x q (defArgs st) (defBody st) (defScope st) [] [] f fd) (S : FnScope N ps (defScope st)) (len : ∀ vs H Q E, sp vs H Q E → vs.length = ps.length)
    (hbody : ∀ (cdv : Value) (A : Around) (outer : List Env) (s : Shared) (H : Hp) (vs : List V) (Q : VK) (E : XK), Room k (A.deeper (envOfC q (defScope st) s.heap.objs.size f cdv)) → sp vs H Q E →
      ∃ t, PSs (cxOf CX P w K mg base N q (defScope st) f cdv A outer s H E).nox (defBody st) t ∧ t { nx := fun _ H' => Q .non H', rt := Q } (start N vs) H) : FnOk P w K mg base CX (k + 1) f fd ps sp :=
  F.ok S len fun cdv A outer s H vs Q E hr h => by
    obtain ⟨t, h1, h2⟩ := hbody cdv A outer s H vs Q E hr h
    exact ⟨t, h1.nox, h2⟩
theorem SqL_updI {H : Hp} {a x C d : Addr} {fs : List (Str × V)} {xs : List V} {o : HO} (h : SqL K H a xs) (hx : H x = some (.ins C d fs)) : SqL K (upd H x o) a xs := by
  rcases h with (h | ⟨o, h⟩) | h
  · exact .inl (.inl (by rw [upd_ne (ne_of h hx (by intro z; cases z))]; exact h))
  · exact .inl (.inr ⟨o, by rw [upd_ne (ne_of h hx (by intro z; cases z))]; exact h⟩)
  · exact .inr h
theorem tups_updI {H : Hp} {x C d : Addr} {fs : List (Str × V)} {o : HO} (hx : H x = some (.ins C d fs)) : ∀ b xs, H b = some (.tup xs) → (upd H x o) b = some (.tup xs) := fun b xs e => by
  rw [upd_ne (ne_of e hx (by intro z; cases z))]; exact e
theorem ok_init (T : TxP P K mg) (C : TxC K mg) : ∃ fd, FnOk P w K mg base CX0 5 (He.ma K (cP K) "__init__") fd ["self", "switches", "arrows"] (spInit K) ∧ Binds K fd ["self", "switches", "arrows"] [] := by
  have GA : Fnc P w K mg base CX0 4 "need_arrows" ["switches", "arrows"] (spNeedA K) := ok_needA T
  obtain ⟨fd, F⟩ := C.init
  refine ⟨fd, FnOk_of (k := 4) F scInit (fun vs H Q E h => ?_) (fun cdv A outer s H vs Q E hr h => ?_), F.bindsN (fun _ _ _ _ _ _ us hl => match us, hl with | [_, _, _], _ => rfl)⟩
  · obtain ⟨x, dx, n, a, xs, as, rfl, _⟩ := h
    rfl
  · obtain ⟨x, dx, n, a, xs, as, rfl, hx, n0, n1, ty, hS, hA, ok, nd, hlt, k⟩ := h
    have hu := hu_of hr
    refine ⟨_, pss_cons (ps_expr (pe_fn GA hr pass0 (pa_cons (pv 1) (pa_cons (pv 2) pa_nil))))
      (pss_cons (ps_fld (pv 0) (pv 1) rfl)
      (pss_one (ps_fld (pv 0) (pe_callTy call_tuple_of (by rfl) T.tuple (by decide +kernel) (pa_cons (pe_callB (cr_sortA hr.units) (by rfl) C.sorted (by decide +kernel) (pa_cons (pv 2) pa_nil)) pa_nil)) rfl))), ?_⟩
    refine ⟨_, rfl, _, rfl, n, a, xs, as, rfl, n0, n1, ty, hS, hA, ok, nd, hlt, fun H1 s1 => ?_⟩
    have hx1 := s1 _ _ hx
    refine ⟨_, rfl, _, rfl, x, _, dx, _, rfl, hx1, C.cls, C.noS, by decide, ?_⟩
    refine ⟨_, rfl, a, xs, as, rfl, SqL_updI (s1.seq hS) hx1, (hA.keep s1.tups).keep (tups_updI hx1), fun p ys hp hys => ?_⟩
    refine ⟨p, ys, rfl, .inl ⟨SqL.of upd_same, fun t ht => ?_⟩⟩
    have px : x ≠ p := ne_of_none (upd_same (H := H1)) hp
    have tp : p ≠ t := ne_of_none upd_same ht
    have ht1 := (Same.upd hp).free ht
    have tx : x ≠ t := ne_of_none (upd_same (H := H1)) ht1
    have e : (upd (upd (upd H1 x (.ins (cP K) dx (putF "own_switches" (.int n) []))) p (.lst ys)) t (.tup ys)) x = some (.ins (cP K) dx (putF "own_switches" (.int n) [])) := by
      rw [upd_ne tx, upd_ne px, upd_same]
    refine ⟨_, rfl, x, _, dx, _, rfl, e, C.cls, C.noA, Nat.lt_of_le_of_lt (show _ ≤ 1 from Nat.le_refl _) (by decide), ?_⟩
    have hp1 : H1 p = none := by rw [← hp, upd_ne (Ne.symm px)]
    have ht0 : H1 t = none := by rw [← ht1, upd_ne (Ne.symm tx)]
    refine k _ (fun b o hb e => ?_) ⟨dx, t, ys, ?_, ?_, ?_⟩
    · have e1 := s1 _ _ e
      rw [upd_ne hb, upd_ne (ne_of_none e1 ht0), upd_ne (ne_of_none e1 hp1), upd_ne hb]
      exact e1
    · rw [upd_same]
      rfl
    · rw [upd_ne (Ne.symm tx), upd_same]
    · exact ((hys.keep (Same.upd hp).tups).keep (Same.upd ht).tups).keep (tups_updI e)
end
end K24
set_option maxHeartbeats 4000000
namespace K24
open PySem L2 PySem.EX PyProof.Rows
section
variable {P : Program} {w : World} {K : PySem.W.Frag} {mg : Str → Option Value} {base : Heap}
/-! ### the properties -/
structure Prp (P : Program) (w : World) (K : PySem.W.Frag) (mg : Str → Option Value) (base : Heap) (f q : Str) : Prop where
  ex : ∃ p g fd, PropOf K (cP K) f p g ∧ FnOk P w K mg base CX0 1 g fd ["self"] (getSp (cP K) q) ∧ Binds K fd ["self"] []
theorem scSelf1 : FnScope ["self"] ["self"] (defScope (mst 1)) := ⟨rfl, rfl, rfl, by decide +kernel, rfl, by decide +kernel, by decide +kernel⟩
theorem scSelf2 : FnScope ["self"] ["self"] (defScope (mst 2)) := ⟨rfl, rfl, rfl, by decide +kernel, rfl, by decide +kernel, by decide +kernel⟩
theorem prp_sw (C : TxC K mg) : Prp P w K mg base "switches" "own_switches" := by
  obtain ⟨p, g, fd, hp, F⟩ := C.sw
  refine ⟨p, g, fd, hp, ?_, F.bindsN (fun _ _ _ _ _ _ us hl => match us, hl with | [_], _ => rfl)⟩
  obtain ⟨oc, od, dV, kV, doc, pm, an, cdv, ct, osl, rfl, lk, hcd, _, _⟩ := F.ex
  exact fn_getter lk hcd scSelf1 rfl rfl C.cls C.noS
theorem prp_ar (C : TxC K mg) : Prp P w K mg base "arrows" "own_arrows" := by
  obtain ⟨p, g, fd, hp, F⟩ := C.ar
  refine ⟨p, g, fd, hp, ?_, F.bindsN (fun _ _ _ _ _ _ us hl => match us, hl with | [_], _ => rfl)⟩
  obtain ⟨oc, od, dV, kV, doc, pm, an, cdv, ct, osl, rfl, lk, hcd, _, _⟩ := F.ex
  exact fn_getter lk hcd scSelf2 rfl rfl C.cls C.noA
theorem pe_prp {X : Cx} {e : Expr} {ta : TE} {f q : Str} {pos : Pos} (he : PE X e ta) (C : TxC X.K X.mg) (R : Prp X.prog X.w X.K X.mg X.base f q) (hr : Room 2 X.A) (hab : attributeBase e f X.env (eval e X.env) = eval e X.env := by rfl) :
    PE X (.Attribute e f pos) (tProp (cP X.K) (getSp (cP X.K) q) [] E0 ta) := by
  obtain ⟨p, g, fd, hp, F, b⟩ := R.ex
  exact pe_prop he C.cls hp F hr b .nil pass0 hab
/-! ### == of plans -/
def plD (n : Int) (as : List Ar) : PyData := .tuple [.int n, .tuple (as.map arD)]
theorem shaped_pl (n : Int) (as : List Ar) : SeqAt.shaped (plD n as) = true := by
  refine shaped_of ?_ ?_
  · unfold plD
    rw [PyData.canLay0]
    show (true && PyData.canLayAll0 [.tuple (as.map arD)]) = true
    rw [Bool.true_and, PyData.canLayAll0, PyData.canLay0, lay_map lay_ar as]
    rfl
  · unfold plD
    rw [PyData.depth, PyData.depthAll, PyData.depthAll, PyData.depthAll, PyData.depth, PyData.depth]
    have := dep_map dep_ar as
    omega
theorem eqv_pl (n m : Int) (as bs : List Ar) : (plD n as).eqv (plD m bs) = (decide (n = m) && decide (as = bs)) := by
  unfold plD
  rw [PyData.eqv, PyData.eqvAll, PyData.eqvAll, PyData.eqvAll, eqv_int, eqv_ars, Bool.and_true]
def spEqP (K : PySem.W.Frag) : Sp := fun vs H Q _ => ∃ (x y : Addr) (n m : Int) (as bs : List Ar), vs = [.ref x, .ref y] ∧ PlanAt K H x n as ∧ PlanAt K H y m bs ∧ ∀ H', Same H H' → Q (.bl (decide (n = m) && decide (as = bs))) H'
theorem scEq : FnScope ["self", "other"] ["self", "other"] (defScope (mst 3)) := ⟨rfl, rfl, rfl, by decide +kernel, rfl, by decide +kernel, by decide +kernel⟩
theorem ty_plan (C : TxC K mg) {H : Hp} {x : Addr} {n : Int} {as : List Ar} (h : PlanAt K H x n as) : TyX K H (.ref x) (.ref (cP K)) := by
  obtain ⟨dx, t, ys, h1, _⟩ := h
  exact .base (.ins h1 C.cls C.ha C.hn C.htk C.hm)
theorem kit_same {t : Value} : PySem.W.kitOne K t t = some true := by unfold PySem.W.kitOne; rw [if_pos (by simp)]
theorem ok_eqP (T : TxP P K mg) (C : TxC K mg) : ∃ fd, FnOk P w K mg base CX0 1 (He.ma K (cP K) "__eq__") fd ["self", "other"] (spEqP K) ∧ Binds K fd ["self", "other"] [] := by
  obtain ⟨fd, F⟩ := C.eq
  refine ⟨fd, FnOk_of (k := 0) F scEq (fun vs H Q E h => ?_) (fun cdv A outer s H vs Q E hr h => ?_), F.bindsN (fun _ _ _ _ _ _ us hl => match us, hl with | [_, _], _ => rfl)⟩
  · obtain ⟨x, y, n, m, as, bs, rfl, _⟩ := h
    rfl
  · obtain ⟨x, y, n, m, as, bs, rfl, hx, hy, k⟩ := h
    refine ⟨_, pss_cons (ps_if (pt_not (pt_val (pe_callB call_isi (by rfl) T.isinst (by decide +kernel) (pa_cons (pv 1) (pa_cons (pe_glob (v := .ref (cP K)) (by rfl) C.glo rfl) pa_nil))))) (pss_one (ps_ret pe_bl)) pss_nil)
      (pss_one (ps_ret (pe_cmpR (op_eqD hr.units) (pe_tup (pa_cons (pe_fld (pv 0) rfl) (pa_cons (pe_fld (pv 0) rfl) pa_nil))) (pe_tup (pa_cons (pe_fld (pv 1) rfl) (pa_cons (pe_fld (pv 1) rfl) pa_nil))) (nomark _)))), ?_⟩
    refine ⟨_, rfl, .ref y, .ref (cP K), _, _, true, rfl, .own _, ty_plan C hy, kit_same, _, rfl, iteF ?_⟩
    obtain ⟨dx, t, ys, h1, h2, h3⟩ := id hx
    obtain ⟨dy, u, zs, j1, j2, j3⟩ := id hy
    refine ⟨_, rfl, x, _, _, _, _, rfl, h1, C.cls, C.noS, rfl, _, rfl, x, _, _, _, _, rfl, h1, C.cls, C.noA, rfl, (by show 2 ≤ sizeLine; decide), fun p hp => ?_⟩
    have s1 : Same H (upd H p (.tup [V.int n, V.ref t])) := Same.upd hp
    refine ⟨_, rfl, y, _, _, _, _, rfl, s1 _ _ j1, C.cls, C.noS, rfl, _, rfl, y, _, _, _, _, rfl, s1 _ _ j1, C.cls, C.noA, rfl, (by show 2 ≤ sizeLine; decide), fun q hq => ?_⟩
    have s2 : Same (upd H p (.tup [V.int n, V.ref t])) (upd (upd H p (.tup [V.int n, V.ref t])) q (.tup [V.int m, V.ref u])) := Same.upd hq
    have s3 := s1.trans s2
    refine ⟨plD n as, plD m bs, .tup (SqT.of (s2 _ _ upd_same)) (.cons (.int _) (.cons (.tup (SqT.of (s3 _ _ h2)) (h3.keep s3.tups).dp) .nil)), .tup (SqT.of upd_same) (.cons (.int _) (.cons (.tup (SqT.of (s3 _ _ j2)) (j3.keep s3.tups).dp) .nil)), shaped_pl _ _, shaped_pl _ _, ?_⟩
    rw [eqv_pl]
    exact k _ s3
/-! ### need_plan -/
abbrev sNeedP : Stmt := top 38
structure TxQ (K : PySem.W.Frag) (mg : Str → Option Value) : Prop where
  needP : (∃ fd, FunD K "need_plan" "need_plan" (defArgs sNeedP) (defBody sNeedP) (defScope sNeedP) [.non] [] (He.ga K "need_plan") fd) ∧ mg "need_plan" = some (.ref (He.ga K "need_plan"))
  line : Def K mg "plan_line" (top 62)
  text : Def K mg "plan_text" (top 63)
def spNeedP (K : PySem.W.Frag) : Sp := fun vs H Q E => ∃ v u, vs = [v, u] ∧ ((∃ x n as, v = .ref x ∧ PlanAt K H x n as ∧ Q .non H) ∨ ∃ ty, TyX K H v ty ∧ PySem.W.kitOne K ty (.ref (cP K)) = some false ∧ XOut (He.ga K "NoPlan") .part u H E)
theorem scNeedP : FnScope ["plan", "part"] ["plan", "part"] (defScope sNeedP) := ⟨rfl, rfl, rfl, by decide +kernel, rfl, by decide +kernel, by decide +kernel⟩
theorem ok_needP (T : TxP P K mg) (C : TxC K mg) (U : TxQ K mg) : ∃ fd, FnOk P w K mg base (L2.CX P w) 1 (He.ga K "need_plan") fd ["plan", "part"] (spNeedP K) ∧ ∃ ds, Vals [.non] ds ∧ Binds K fd ["plan", "part"] ds := by
  obtain ⟨⟨fd, F⟩, g⟩ := U.needP
  obtain ⟨gN, D, fI, cc, cda, XN⟩ := T.noPlan
  refine ⟨fd, F.ok (k := 0) scNeedP (fun vs H Q E h => ?_) (fun cdv A outer s H vs Q E hr h => ?_), F.binds1 1 0 (by simp) rfl (fun T kV doc pm an cdv ct us its h1 h2 => match us, its, h1, h2 with | [u], [i], _, _ => ⟨_, rfl, rfl⟩)⟩
  · obtain ⟨v, u, rfl, _⟩ := h
    rfl
  · obtain ⟨v, u, rfl, h⟩ := h
    refine ⟨_, pss_one (ps_if (pt_not (pt_val (pe_callB call_isi (by rfl) T.isinst (by decide +kernel) (pa_cons (pv 0) (pa_cons (pe_glob (v := .ref (cP K)) (by rfl) C.glo rfl) pa_nil)))))
      (pss_one (ps_raiseP rfl XN gN hr (takes_of rfl rfl rfl rfl) (pa_cons (pv 1) pa_nil))) pss_nil), ?_⟩
    rcases h with ⟨x, n, as, rfl, hx, k⟩ | ⟨ty, h1, h2, h3⟩
    · exact ⟨_, rfl, .ref x, .ref (cP K), _, _, true, rfl, .own _, ty_plan C hx, kit_same, _, rfl, iteF k⟩
    · refine ⟨_, rfl, v, .ref (cP K), _, _, false, rfl, .own _, h1, h2, _, rfl, iteT ?_⟩
      exact ⟨_, rfl, _, rfl, fun d hd => h3.go (fun _ _ h => h) hd⟩
/-! ### the text of a plan -/
def signS (s : Int) : Str := if s = 1 then Str.ofString " helps " else Str.ofString " hinders "
def lineS (a : Ar) : Str := nS a.1 ++ signS a.2.2 ++ nS a.2.1
def linesS (n : Int) (as : List Ar) : List Str := headS n :: as.map lineS
def textS (n : Int) (as : List Ar) : Str := Txt.join nl (linesS n as)
theorem nS_len {i : Int} (h0 : 0 ≤ i) (h1 : i < 10) : (nS i).length = 1 := by
  obtain ⟨n, rfl⟩ := Int.eq_ofNat_of_zero_le h0
  unfold nS
  rw [TL.len_tl, TL.tl_num, TL.numL_lt (by omega)]
  rfl
theorem signS_len (s : Int) : (signS s).length ≤ 9 := by
  unfold signS
  split <;> decide +kernel
theorem app_len (x y : Str) : (x ++ y).length = x.length + y.length := PySem.Str.length_append ..
theorem lineS_len {n : Int} {a : Ar} (h : okA n a) (hn : n ≤ 5) : (lineS a).length ≤ 11 := by
  obtain ⟨h1, h2, h3, h4, _⟩ := h
  unfold lineS
  rw [app_len, app_len, nS_len h1 (by omega), nS_len h3 (by omega)]
  have := signS_len a.2.2
  omega
theorem log_small {i : Int} (h : i.natAbs < 1000) : i.natAbs.log2 < 1920 := Nat.lt_of_le_of_lt (Nat.log2_le_self _) (by omega)
theorem line_small {n : Nat} (h : n ≤ 1000) : n ≤ sizeLine := line1000 h
def spLine : Sp := fun vs H Q _ => ∃ (n : Int) (v : V) (a : Ar), vs = [v] ∧ ArV H v a ∧ okA n a ∧ n ≤ 5 ∧ Q (.str (lineS a)) H
theorem scLine : FnScope ["arrow"] ["arrow"] (defScope (top 62)) := ⟨rfl, rfl, rfl, by decide +kernel, rfl, by decide +kernel, by decide +kernel⟩
theorem ok_line (T : TxP P K mg) (U : TxQ K mg) : Fnc P w K mg base CX0 1 "plan_line" ["arrow"] spLine := by
  refine fnc0 U.line scLine (fun vs H Q E h => ?_) (fun _ _ _ _ _ _ us hl => match us, hl with | [_], _ => rfl) (fun cdv A outer s H vs Q E hr h => ?_)
  · obtain ⟨n, v, a, rfl, _⟩ := h
    rfl
  · obtain ⟨n, v, a, rfl, ⟨p, rfl, hp⟩, ok, hn, k⟩ := h
    refine ⟨_, pss_one (ps_ret (pe_op op_add_str (pe_op op_add_str (pe_callTy call_str_int (by rfl) T.str (by decide +kernel) (pa_cons (pe_ix ix_tup (pv 0) pe_int (fun _ _ => rfl)) pa_nil))
      (pe_ifExp (pt_cmpR op_eq (pe_ix ix_tup (pv 0) pe_int (fun _ _ => rfl)) pe_int (nomark _)) pe_str pe_str)) (pe_callTy call_str_int (by rfl) T.str (by decide +kernel) (pa_cons (pe_ix ix_tup (pv 0) pe_int (fun _ _ => rfl)) pa_nil)))), ?_⟩
    obtain ⟨a1, a2, a3⟩ := a
    have hl := lineS_len ok hn
    obtain ⟨o1, o2, o3, o4, o5⟩ := ok
    simp only at o1 o2 o3 o4 o5
    have l1 := nS_len o1 (by omega)
    have l2 := nS_len o3 (by omega)
    have l3 := signS_len a3
    have hT : SqT K H p ((arL (a1, a2, a3)).map V.int) := SqT.of hp
    refine ⟨_, rfl, p, _, (0 : Int), V.int a1, rfl, rfl, hT, rfl, a1, rfl, log_small (by omega), ?_⟩
    refine ⟨_, rfl, p, _, (2 : Int), V.int a3, rfl, rfl, hT, rfl, rfl, _, rfl, ?_⟩
    have go : ∀ z : Str, z = signS a3 → tOp (fun x y H Q => ∃ i j, x = .str i ∧ y = .str j ∧ i.length + j.length ≤ sizeLine ∧ Q (.str (i ++ j)) H) (tC (.str (nS a1))) (tC (.str z)) [some (.ref p)] H fun x H1 => tCB (fun xs H Q => ∃ i, xs = [.int i] ∧ i.natAbs.log2 < 1920 ∧ Q (.str (toString i)) H) (tCons (tOp (rIxT K) (tVar 0) (tC (.int 1))) tNil) [some (.ref p)] H1 fun y H2 =>
        ∃ i j, x = .str i ∧ y = .str j ∧ i.length + j.length ≤ sizeLine ∧ Q (.str (i ++ j)) H2 := by
      rintro z rfl
      refine ⟨_, _, rfl, rfl, line_small (by rw [l1]; omega), ?_⟩
      refine ⟨_, rfl, p, _, (1 : Int), V.int a2, rfl, rfl, hT, rfl, a2, rfl, log_small (by omega), _, _, rfl, rfl, line_small ?_, k⟩
      rw [app_len, l1]
      show 1 + (signS a3).length + (nS a2).length ≤ 1000
      omega
    by_cases h3 : a3 = 1
    · have e : decide (V.int a3 = V.int 1) = true := by simp [h3]
      rw [e]
      exact iteT (go _ (by unfold signS; rw [if_pos h3]))
    · have e : decide (V.int a3 = V.int 1) = false := by simp [h3]
      rw [e]
      exact iteF (go _ (by unfold signS; rw [if_neg h3]))
end
end K24
set_option maxHeartbeats 4000000
namespace K24
open PySem L2 PySem.EX PyProof.Rows
section
variable {P : Program} {w : World} {K : PySem.W.Frag} {mg : Str → Option Value} {base : Heap}
theorem sum_le {α : Type} {f : α → Nat} {m : Nat} : ∀ {l : List α}, (∀ a ∈ l, f a ≤ m) → (l.map f).sum ≤ l.length * m
  | [], _ => by simp
  | a :: l, h => by
    rw [List.map_cons, List.sum_cons, List.length_cons]
    have h1 := h a List.mem_cons_self
    have h2 := sum_le (l := l) fun b hb => h b (List.mem_cons_of_mem _ hb)
    have : (l.length + 1) * m = l.length * m + m := by rw [Nat.add_mul, Nat.one_mul]
    omega
theorem join_small {n : Int} {as : List Ar} (n0 : 1 ≤ n) (n1 : n ≤ 5) (ok : ∀ a ∈ as, okA n a) (hl : as.length ≤ 1000) : ((linesS n as).map (·.length)).sum + (linesS n as).length * nl.length ≤ 16777216 := by
  unfold linesS
  rw [List.map_cons, List.sum_cons, List.map_map, List.length_cons, List.length_map, headS_len n0 n1]
  have h := sum_le (f := (fun x : Str => x.length) ∘ lineS) (m := 11) (l := as) fun a ha => lineS_len (ok a ha) n1
  have e : nl.length = 1 := by decide +kernel
  rw [e]
  omega
def spText (K : PySem.W.Frag) : Sp := fun vs H Q E => ∃ v, vs = [v] ∧ ((∃ x n as, v = .ref x ∧ PlanAt K H x n as ∧ 1 ≤ n ∧ n ≤ 5 ∧ (∀ a ∈ as, okA n a) ∧ as.length ≤ 1000 ∧ ∀ H', Same H H' → Q (.str (textS n as)) H') ∨
  ∃ ty, TyX K H v ty ∧ PySem.W.kitOne K ty (.ref (cP K)) = some false ∧ XOut (He.ga K "NoPlan") .part .non H E)
theorem scText : FnScope ["plan", "arrow"] ["plan"] (defScope (top 63)) := ⟨rfl, rfl, rfl, by decide +kernel, rfl, by decide +kernel, by decide +kernel⟩
theorem ok_textX (T : TxP P K mg) (C : TxC K mg) (U : TxQ K mg) : FncX P w K mg base (L2.CX P w) 3 "plan_text" (top 63) ["plan"] (spText K) := by
  obtain ⟨fd, F, ds, hds, hb⟩ := ok_needP (P := P) (w := w) (base := base) T C U
  have GL : Fnc P w K mg base CX0 1 "plan_line" ["arrow"] spLine := ok_line T U
  have kp : PySem.W.keepIn K (.ref (He.ga K "need_plan")) = true := by obtain ⟨⟨fd, F⟩, _⟩ := U.needP; exact F.kp
  refine fncX U.text scText (fun vs H Q E h => ?_) (fun _ _ _ _ _ _ us hl => match us, hl with | [_], _ => rfl) (fun cdv A outer s H vs Q E hr h => ?_)
  · obtain ⟨v, rfl, _⟩ := h
    rfl
  · obtain ⟨v, rfl, h⟩ := h
    refine ⟨_, pss_cons (ps_expr (pe_call F (hr.mono (by decide)) (by rfl) U.needP.2 kp hb hds (passes_call (takes_of rfl rfl rfl rfl) (fun _ _ _ _ h => h)) (pa_cons (pv 0) pa_nil)))
      (pss_one (ps_ret (pe_join pe_str (pe_lst (pa_cons (pe_op op_add_str pe_str (pe_callTy call_str_int (by rfl) T.str (by decide +kernel) (pa_cons (pe_prp (pv 0) C (prp_sw C) hr) pa_nil)))
        (StX.pa_star (pe_lc (own := [("arrow", 1)]) (g := gName 1) (tt := tYes) rfl scText.nd (pi_tup (pe_prp (pv 0) C (prp_ar C) hr)) (blkOk_by (N := ["plan", "arrow"]) (sc := defScope (top 63)) (by decide +kernel))
            (fun _ _ _ _ _ => pg_name (i := 1) scText.nd rfl (Or.inl rfl)) (fun _ _ _ _ _ => pts_nil) (fun _ _ _ _ _ => pe_fn GL (hr.mono (by decide)) pass0 (pa_cons (pv 1) pa_nil))) pa_nil)))))), ?_⟩
    rcases h with ⟨x, n, as, rfl, hx, n0, n1, ok, hl, k⟩ | ⟨ty, h1, h2, h3⟩
    · refine ⟨_, rfl, .ref x, .non, rfl, .inl ⟨x, n, as, rfl, hx, ?_⟩⟩
      obtain ⟨dx, t, ys, p1, p2, p3⟩ := id hx
      refine ⟨⟨_, rfl⟩, ?_⟩
      refine ⟨_, rfl, x, dx, _, rfl, p1, x, dx, _, .int n, rfl, p1, rfl, n, rfl, log_small (by omega), _, _, rfl, rfl, line_small ?_, ?_⟩
      · rw [show (Str.ofString (toString n)).length = 1 from nS_len (by omega) (by omega)]
        decide +kernel
      refine ⟨_, rfl, x, dx, _, rfl, p1, x, dx, _, .ref t, rfl, p1, rfl, t, rfl, ⟨_, SqT.of p2⟩, fun D hD => lc_tup (K := K) (a := t) (xs := ys) (fun i H2 => Same H H2 ∧ H2 D = some (.lst (((as.take i).map lineS).map V.str))) ⟨Same.upd hD, upd_same⟩ (fun i H2 _ h => SqT.of (h.1 _ _ p2)) ?_ ?_⟩
      · rintro i x2 H2 hx2 ⟨s2, hz⟩
        obtain ⟨b, hb, hv⟩ := Ars.get p3 hx2
        have hi : i < as.length := (List.getElem?_eq_some_iff.mp hb).1
        refine ⟨rfl, ?_⟩
        refine ⟨_, rfl, n, x2, b, rfl, hv.keep s2.tups, ok b (List.mem_of_getElem? hb), n1, _, hz, ?_, s2.put hD, ?_⟩
        · refine small1000 ?_
          rw [List.length_map, List.length_map, List.length_take]
          omega
        · rw [upd_same, List.take_succ, hb, List.map_append, List.map_append]
          rfl
      · rintro H2 ⟨s2, hz⟩
        have hlen : ys.length = as.length := p3.length
        rw [hlen, List.take_of_length_le (Nat.le_refl _)] at hz
        have ec : V.str (headS n) :: ((as.map lineS).map V.str ++ []) = (linesS n as).map V.str := by rw [List.append_nil]; rfl
        refine ⟨D, _, rfl, .inr (SqL.of hz), ?_, fun q hq => ?_⟩
        · show (V.str (headS n) :: ((as.map lineS).map V.str ++ [])).length ≤ sizeLine
          rw [ec, List.length_map]
          unfold linesS
          rw [List.length_cons, List.length_map]
          exact Nat.le_trans (show as.length + 1 ≤ 1001 by omega) (by decide)
        · refine ⟨_, q, linesS n as, rfl, rfl, .inl (SqL.of ?_), join_small n0 n1 ok hl, k _ (s2.trans (Same.upd hq))⟩
          rw [upd_same, ← ec]
          rfl
    · exact ⟨_, rfl, v, .non, rfl, .inr ⟨ty, h1, h2, h3⟩⟩
theorem ok_text (T : TxP P K mg) (C : TxC K mg) (U : TxQ K mg) : Fnc P w K mg base (L2.CX P w) 3 "plan_text" ["plan"] (spText K) := (ok_textX T C U).fnc
end
end K24
set_option maxHeartbeats 4000000
namespace K24
open PySem L2 PySem.EX PyProof.Rows
abbrev cS (K : PySem.W.Frag) : Addr := He.ga K "PLAN_SIGNS"
structure TxS (K : PySem.W.Frag) (w : World) (mg : Str → Option Value) : Prop where
  glo : mg "PLAN_SIGNS" = some (.ref (cS K))
  kd : ∃ es n, KDict K w (cS K) es n
  miss : ∀ z : Str, z ≠ "helps" → z ≠ "hinders" → PySem.W.nsIn K (cS K) z = some none
  yes : ∃ u, PySem.W.nsIn K (cS K) "helps" = some (some u) ∧ RelV (.int 1) u
  no : ∃ u, PySem.W.nsIn K (cS K) "hinders" = some (some u) ∧ RelV (.int (-1)) u
  ain : Def K mg "plan_arrow_in" (top 64)
  read : Def K mg "read_plan" (top 65)
def wordS (s : Int) : Str := if s = 1 then "helps" else "hinders"
def wordsA (a : Ar) : List Str := [nS a.1, wordS a.2.2, nS a.2.1]
def figs (n : Int) : List Str := (List.range n.toNat).map fun i : Nat => nS (i : Int)
abbrev sp : Str := Str.ofString " "
theorem mem_figs {n : Int} {u : Str} : u ∈ figs n ↔ ∃ i : Int, 0 ≤ i ∧ i < n ∧ u = nS i := by
  unfold figs
  rw [List.mem_map]
  constructor
  · rintro ⟨i, hi, rfl⟩
    rw [List.mem_range] at hi
    exact ⟨i, by omega, by omega, rfl⟩
  · rintro ⟨i, h0, h1, rfl⟩
    exact ⟨i.toNat, by rw [List.mem_range]; omega, by rw [Int.toNat_of_nonneg h0]⟩
theorem inV_strs (u : Str) (l : List Str) : inV (.str u) (l.map V.str) = decide (u ∈ l) := by
  unfold inV
  rw [List.any_map]
  induction l with
  | nil => simp
  | cons a l ih =>
    rw [List.any_cons, ih]
    by_cases h : u = a
    · subst h
      simp [eqV]
    · have h' : ¬ a = u := fun e => h e.symm
      simp [eqV, h, h']
theorem intS {i : Int} (h0 : 0 ≤ i) (h1 : i < 10) : PySem.intText? (nS i) = some i := by
  obtain ⟨n, rfl⟩ := Int.eq_ofNat_of_zero_le h0
  exact TL.int_num (by rw [TL.numL_lt (by omega)]; show 1 ≤ 4300; decide)
section
variable {P : Program} {w : World} {K : PySem.W.Frag} {mg : Str → Option Value} {base : Heap}
def spAin : Sp := fun vs H Q _ => ∃ (l : Str) (n : Int), vs = [.str l, .int n] ∧ 0 ≤ n ∧ n ≤ 5 ∧ l.length + 2 ≤ sizeLine ∧ (Txt.split l sp).length ≤ 1000 ∧
  ((∃ a, okA n a ∧ Txt.split l sp = wordsA a ∧ ∀ v H', Same H H' → ArV H' v a → Q v H') ∨ ((∀ a, okA n a → Txt.split l sp ≠ wordsA a) ∧ ∀ H', Same H H' → Q .non H'))
theorem scAin : FnScope ["line", "switches", "words", "figures", "switch"] ["line", "switches"] (defScope (top 64)) := ⟨rfl, rfl, rfl, by decide +kernel, rfl, by decide +kernel, by decide +kernel⟩
theorem ok_ain (T : TxP P K mg) (S : TxS K w mg) : Fnc P w K mg base CX0 1 "plan_arrow_in" ["line", "switches"] spAin := by
  obtain ⟨es, en, D⟩ := S.kd
  refine fnc0 S.ain scAin (fun vs H Q E h => ?_) (fun _ _ _ _ _ _ us hl => match us, hl with | [_, _], _ => rfl) (fun cdv A outer s H vs Q E hr h => ?_)
  · obtain ⟨l, n, rfl, _⟩ := h
    rfl
  · obtain ⟨l, n, rfl, n0, n1, hl, hw, k⟩ := h
    refine ⟨_, pss_cons (ps_set (i := 2) scAin.nd rfl (Or.inl rfl) (pe_split (pv 0) pe_str))
      (pss_cons (ps_setLc (i := 3) (own := [("switch", 4)]) (g := gName 4) rfl scAin.nd rfl rfl (sw_true rfl rfl rfl (by decide +kernel)) (pi_range1 (by rfl) T.range (pa_cons (pv 1) pa_nil)) (blkOk_by (N := ["line", "switches", "words", "figures", "switch"]) (sc := defScope (top 64)) (by decide +kernel))
          (fun _ _ _ _ _ => pg_name (i := 4) scAin.nd rfl (Or.inl rfl)) (fun _ _ _ _ _ => pts_nil) (fun _ _ _ _ _ => pe_callTy call_str_int (by rfl) T.str (by decide +kernel) (pa_cons (pv 4) pa_nil)))
      (pss_cons (ps_if (PW.pt (pw_or (pt_cmpR op_ne (pe_callB call_len_seq (by rfl) T.len PySem.boot_len (pa_cons (pv 2) pa_nil)) pe_int (nomark _))
          (pw_or (pt_cmpR op_notIn_seq (pe_ix ix_list (pv 2) pe_int (fun _ _ => rfl)) (pv 3) (by with_unfolding_all rfl))
          (pw_or (pt_cmpR (op_notIn_kd D) (pe_ix ix_list (pv 2) pe_int (fun _ _ => rfl)) (pe_glob (v := .ref (cS K)) (by rfl) S.glo rfl) (by with_unfolding_all rfl))
          (pw_or1 (pt_cmpR op_notIn_seq (pe_ix ix_list (pv 2) pe_int (fun _ _ => rfl)) (pv 3) (by with_unfolding_all rfl)))))))
        (pss_one (ps_ret pe_non)) pss_nil)
      (pss_one (ps_ret (pe_tup (pa_cons (pe_callTy call_int_str (by rfl) T.int (by decide +kernel) (pa_cons (pe_ix ix_list (pv 2) pe_int (fun _ _ => rfl)) pa_nil))
        (pa_cons (pe_callTy call_int_str (by rfl) T.int (by decide +kernel) (pa_cons (pe_ix ix_list (pv 2) pe_int (fun _ _ => rfl)) pa_nil))
        (pa_cons (pe_ix ix_kdict (pe_glob (v := .ref (cS K)) (by rfl) S.glo rfl) (pe_ix ix_list (pv 2) pe_int (fun _ _ => rfl)) (fun _ _ => rfl)) pa_nil)))))))), ?_⟩
    refine ⟨_, rfl, ⟨l, rfl⟩, l, _, rfl, rfl, by decide, hl, fun p hp => ?_⟩
    have s1 : Same H (upd H p (.lst ((Txt.split l sp).map V.str))) := Same.upd hp
    refine ⟨_, rfl, n, rfl, by omega, by omega, fun F hF => lc_range (lo := 0) (n := n.toNat) (fun i H2 => Same (upd H p (.lst ((Txt.split l sp).map V.str))) H2 ∧ H2 F = some (.lst (((List.range i).map fun i : Nat => nS (i : Int)).map V.str))) ⟨Same.upd hF, upd_same⟩ ?_ ?_⟩
    · rintro i H2 hi ⟨s2, hz⟩
      refine ⟨rfl, ?_⟩
      refine ⟨_, rfl, _, rfl, log_small (by omega), _, hz, small1000 (by rw [List.length_map, List.length_map, List.length_range]; omega), s2.put hF, ?_⟩
      rw [upd_same, List.range_succ, List.map_append, List.map_append]
      have e : (0 : Int) + i = i := by omega
      rw [e]
      rfl
    · rintro H2 ⟨s2, hz⟩
      have hF2 : H2 F = some (.lst ((figs n).map V.str)) := hz
      have hp2 : H2 p = some (.lst ((Txt.split l sp).map V.str)) := s2 _ _ upd_same
      have sH : Same H H2 := s1.trans s2
      have fl : ∀ us : List Str, (us.map V.str).all flatV = true := fun us => by
        rw [List.all_map, List.all_eq_true]
        intro x _
        rfl
      generalize hws : Txt.split l sp = ws at k hp2
      rcases k with ⟨⟨a1, a2, a3⟩, ⟨o1, o2, o3, o4, o5⟩, hw, k⟩ | ⟨hno, k⟩
      · simp only at o1 o2 o3 o4 o5
        subst hw
        refine ⟨_, rfl, p, _, rfl, .inl (SqL.of hp2), rfl, _, rfl, iteF ?_⟩
        refine ⟨_, rfl, p, _, (0 : Int), V.str (nS a1), rfl, rfl, SqL.of hp2, rfl, _, rfl, F, _, rfl, .inl (SqL.of hF2), rfl, fl _, _, rfl, ?_⟩
        rw [inV_strs, decide_eq_true (mem_figs.mpr ⟨a1, o1, o2, rfl⟩)]
        refine iteF ?_
        obtain ⟨v3, e3, r3⟩ : ∃ u, PySem.W.nsIn K (cS K) (wordS a3) = some (some u) ∧ RelV (.int a3) u := by
          rcases o5 with rfl | rfl
          · exact S.yes
          · exact S.no
        refine ⟨_, rfl, p, _, (1 : Int), V.str (wordS a3), rfl, rfl, SqL.of hp2, rfl, _, _, rfl, rfl, e3, false, rfl, iteF ?_⟩
        refine ⟨_, rfl, p, _, (2 : Int), V.str (nS a2), rfl, rfl, SqL.of hp2, rfl, _, rfl, F, _, rfl, .inl (SqL.of hF2), rfl, fl _, _, rfl, ?_⟩
        rw [inV_strs, decide_eq_true (mem_figs.mpr ⟨a2, o3, o4, rfl⟩)]
        refine iteF ?_
        have i1 : (nS a1).length = 1 := nS_len o1 (by omega)
        have i2 : (nS a2).length = 1 := nS_len o3 (by omega)
        refine ⟨_, rfl, p, _, (0 : Int), V.str (nS a1), rfl, rfl, SqL.of hp2, rfl, _, a1, rfl, intS o1 (by omega), by rw [i1]; decide, ?_⟩
        refine ⟨_, rfl, p, _, (2 : Int), V.str (nS a2), rfl, rfl, SqL.of hp2, rfl, _, a2, rfl, intS o3 (by omega), by rw [i2]; decide, ?_⟩
        obtain ⟨es', en', D'⟩ := S.kd
        refine ⟨_, rfl, p, _, (1 : Int), V.str (wordS a3), rfl, rfl, SqL.of hp2, rfl, cS K, _, V.int a3, rfl, rfl, ⟨_, _, v3, D'.at_, D'.lit, e3, r3⟩, ?_⟩
        refine ⟨(by show 3 ≤ sizeLine; decide), fun q hq => k _ _ (sH.trans (Same.upd hq)) ⟨q, rfl, upd_same⟩⟩
      · have kn := k _ sH
        by_cases h3 : ws.length = 3
        · obtain ⟨u, v, x, rfl⟩ : ∃ u v x, ws = [u, v, x] := match ws, h3 with
            | [u, v, x], _ => ⟨u, v, x, rfl⟩
          refine ⟨_, rfl, p, _, rfl, .inl (SqL.of hp2), rfl, _, rfl, iteF ?_⟩
          refine ⟨_, rfl, p, _, (0 : Int), V.str u, rfl, rfl, SqL.of hp2, rfl, _, rfl, F, _, rfl, .inl (SqL.of hF2), rfl, fl _, _, rfl, ?_⟩
          rw [inV_strs]
          by_cases hu : u ∈ figs n
          case neg =>
            rw [decide_eq_false hu]
            exact iteT (iteT kn)
          rw [decide_eq_true hu]
          refine iteF ?_
          have hsg : (∃ u', PySem.W.nsIn K (cS K) v = some (some u')) ∧ (∃ s : Int, (s = 1 ∨ s = -1) ∧ v = wordS s) ∨ PySem.W.nsIn K (cS K) v = some none := by
            by_cases e1 : v = "helps"
            · subst e1
              obtain ⟨u', q, _⟩ := S.yes
              exact .inl ⟨⟨u', q⟩, 1, .inl rfl, rfl⟩
            · by_cases e2 : v = "hinders"
              · subst e2
                obtain ⟨u', q, _⟩ := S.no
                exact .inl ⟨⟨u', q⟩, -1, .inr rfl, rfl⟩
              · exact .inr (S.miss _ e1 e2)
          rcases hsg with ⟨⟨u', e3⟩, s, hs, hv⟩ | e3
          case inr => exact ⟨_, rfl, p, _, (1 : Int), V.str v, rfl, rfl, SqL.of hp2, rfl, _, _, rfl, rfl, e3, true, rfl, iteT (iteT kn)⟩
          refine ⟨_, rfl, p, _, (1 : Int), V.str v, rfl, rfl, SqL.of hp2, rfl, _, _, rfl, rfl, e3, false, rfl, iteF ?_⟩
          refine ⟨_, rfl, p, _, (2 : Int), V.str x, rfl, rfl, SqL.of hp2, rfl, _, rfl, F, _, rfl, .inl (SqL.of hF2), rfl, fl _, _, rfl, ?_⟩
          rw [inV_strs]
          by_cases hx : x ∈ figs n
          · obtain ⟨i, i0, i1, rfl⟩ := mem_figs.mp hu
            obtain ⟨j, j0, j1, rfl⟩ := mem_figs.mp hx
            exact absurd (by rw [hv]; rfl) (hno (i, j, s) ⟨i0, i1, j0, j1, hs⟩)
          · rw [decide_eq_false hx]
            exact iteT kn
        · refine ⟨_, rfl, p, _, rfl, .inl (SqL.of hp2), rfl, true, ?_, iteT (iteT kn)⟩
          rw [List.length_map]
          have e : decide (V.int (ws.length : Int) = V.int 3) = false := by
            refine decide_eq_false fun z => h3 ?_
            have := V.int.inj z
            omega
          rw [e]
          rfl
end
end K24
set_option maxHeartbeats 4000000
namespace K24
open PySem L2 PySem.EX PyProof.Rows
open TL (tl)
/-! ### the plain law of the texts -/
theorem nS_tl {i : Int} (h0 : 0 ≤ i) (h1 : i < 10) : tl (nS i) = [48 + i.toNat] := by
  obtain ⟨n, rfl⟩ := Int.eq_ofNat_of_zero_le h0
  unfold nS
  rw [TL.tl_num, TL.numL_lt (by omega)]
  rfl
theorem nS_inj {i j : Int} (h0 : 0 ≤ i) (h1 : i < 10) (j0 : 0 ≤ j) (j1 : j < 10) (h : nS i = nS j) : i = j := by
  have e := congrArg tl h
  rw [nS_tl h0 h1, nS_tl j0 j1] at e
  simp at e
  omega
theorem nS_free {i : Int} (h0 : 0 ≤ i) (h1 : i < 10) {s : Nat} (hs : s < 48) : s ∉ tl (nS i) := by
  rw [nS_tl h0 h1]
  simp
  omega
theorem tl_sp : tl sp = [32] := by decide +kernel
theorem tl_nl : tl nl = [10] := by decide +kernel
theorem split_sp {parts : List Str} (hne : parts ≠ []) (hp : ∀ p ∈ parts, 32 ∉ tl p) : Txt.split (Str.join sp parts) sp = parts := by
  rw [← TL.join_eq]
  exact TL.split_join tl_sp (by decide +kernel) hne hp
theorem split_nl {parts : List Str} (hne : parts ≠ []) (hp : ∀ p ∈ parts, 10 ∉ tl p) : Txt.split (Txt.join nl parts) nl = parts := TL.split_join tl_nl (by decide +kernel) hne hp
theorem wordS_free (s : Int) : 32 ∉ tl (wordS s) ∧ 10 ∉ tl (wordS s) := by
  unfold wordS
  split <;> decide +kernel
theorem signS_eq (s : Int) : signS s = sp ++ wordS s ++ sp := by
  unfold signS wordS
  split <;> decide +kernel
theorem line_join {a : Ar} : lineS a = Str.join sp (wordsA a) := by
  unfold lineS wordsA
  rw [signS_eq]
  refine TL.ext_tl ?_
  rw [TL.tl_join]
  simp only [TL.tl_append, List.map_cons, List.map_nil, TL.joinL, List.append_assoc]
theorem okA.b {n : Int} {a : Ar} (h : okA n a) (hn : n ≤ 5) : 0 ≤ a.1 ∧ a.1 < 10 ∧ 0 ≤ a.2.1 ∧ a.2.1 < 10 := by
  obtain ⟨h1, h2, h3, h4, _⟩ := h
  omega
theorem words_free {n : Int} {a : Ar} (h : okA n a) (hn : n ≤ 5) : ∀ p ∈ wordsA a, 32 ∉ tl p ∧ 10 ∉ tl p := by
  obtain ⟨h1, h2, h3, h4⟩ := h.b hn
  intro p hp
  unfold wordsA at hp
  rcases List.mem_cons.mp hp with rfl | hp
  · exact ⟨nS_free h1 h2 (by decide), nS_free h1 h2 (by decide)⟩
  rcases List.mem_cons.mp hp with rfl | hp
  · exact wordS_free _
  rcases List.mem_cons.mp hp with rfl | hp
  · exact ⟨nS_free h3 h4 (by decide), nS_free h3 h4 (by decide)⟩
  · exact absurd hp (List.not_mem_nil)
theorem split_line {n : Int} {a : Ar} (h : okA n a) (hn : n ≤ 5) : Txt.split (lineS a) sp = wordsA a := by
  rw [line_join]
  exact split_sp (by unfold wordsA; simp) fun p hp => (words_free h hn p hp).1
theorem line_free {n : Int} {a : Ar} (h : okA n a) (hn : n ≤ 5) : 10 ∉ tl (lineS a) := by
  unfold lineS
  obtain ⟨h1, h2, h3, h4⟩ := h.b hn
  rw [signS_eq, TL.tl_append, TL.tl_append, TL.tl_append, TL.tl_append]
  simp only [List.mem_append, not_or]
  exact ⟨⟨nS_free h1 h2 (by decide), ⟨by decide +kernel, (wordS_free _).2⟩, by decide +kernel⟩, nS_free h3 h4 (by decide)⟩
theorem head_free {n : Int} (n0 : 1 ≤ n) (n1 : n ≤ 5) : 10 ∉ tl (headS n) := by
  unfold headS
  rw [TL.tl_append]
  simp only [List.mem_append, not_or]
  exact ⟨by decide +kernel, nS_free (by omega) (by omega) (by decide)⟩
theorem lines_free {n : Int} {as : List Ar} (n0 : 1 ≤ n) (n1 : n ≤ 5) (ok : ∀ a ∈ as, okA n a) : ∀ p ∈ linesS n as, 10 ∉ tl p := by
  intro p hp
  unfold linesS at hp
  rcases List.mem_cons.mp hp with rfl | hp
  · exact head_free n0 n1
  · obtain ⟨a, ha, rfl⟩ := List.mem_map.mp hp
    exact line_free (ok a ha) n1
theorem wordsA_inj {n : Int} {a b : Ar} (ha : okA n a) (hb : okA n b) (hn : n ≤ 5) (h : wordsA a = wordsA b) : a = b := by
  obtain ⟨a1, a2, a3⟩ := a
  obtain ⟨b1, b2, b3⟩ := b
  have h1 := ha.b hn
  have h2 := hb.b hn
  obtain ⟨_, _, _, _, ea⟩ := ha
  obtain ⟨_, _, _, _, eb⟩ := hb
  simp only [wordsA, List.cons.injEq, and_true] at h
  simp only at h1 h2 ea eb
  obtain ⟨e1, e2, e3⟩ := h
  have e4 := nS_inj h1.1 h1.2.1 h2.1 h2.2.1 e1
  have e5 := nS_inj h1.2.2.1 h1.2.2.2 h2.2.2.1 h2.2.2.2 e3
  have e6 : a3 = b3 := by
    rcases ea with rfl | rfl <;> rcases eb with rfl | rfl <;> first | rfl | exact absurd e2 (by decide +kernel)
  rw [e4, e5, e6]
/-- the line says no arrow -/
def NoA (n : Int) (l : Str) : Prop := ∀ a, okA n a → Txt.split l sp ≠ wordsA a
theorem head_noA {n : Int} (n0 : 1 ≤ n) (n1 : n ≤ 5) : NoA n (headS n) := by
  intro a ha e
  have j : headS n = Str.join sp [Str.ofString "switches", nS n] := by
    unfold headS
    refine TL.ext_tl ?_
    rw [TL.tl_join]
    simp only [TL.tl_append, List.map_cons, List.map_nil, TL.joinL]
    rw [show tl (Str.ofString "switches ") = tl (Str.ofString "switches") ++ tl sp from by decide +kernel, List.append_assoc]
  rw [j, split_sp (by simp) (fun p hp => ?_)] at e
  · have := congrArg List.length e
    simp [wordsA] at this
  · rcases List.mem_cons.mp hp with rfl | hp
    · decide +kernel
    rcases List.mem_cons.mp hp with rfl | hp
    · exact nS_free (by omega) (by omega) (by decide)
    · exact absurd hp (List.not_mem_nil)
theorem noA_of {n : Int} {l : Str} {parts : List Str} (j : l = Str.join sp parts) (hne : parts ≠ []) (hp : ∀ p ∈ parts, 32 ∉ tl p) (h : ∀ a, okA n a → parts ≠ wordsA a) : NoA n l := by
  intro a ha
  rw [j, split_sp hne hp]
  exact h a ha
/-- the odd lines -/
def odds (n : Int) (l : Str) : List Str := ["x", "", Str.ofString " " ++ l, l ++ Str.ofString " ", "0 help 0", nS n ++ Str.ofString " helps 0", "0 helps", "0 hinders 00", "switches"]
/-- short, and of one line -/
def Fine (l : Str) : Prop := 10 ∉ tl l ∧ l.length ≤ 20 ∧ (Txt.split l sp).length ≤ 1000
theorem fine_of {l : Str} {parts : List Str} (j : l = Str.join sp parts) (hne : parts ≠ []) (hp : ∀ p ∈ parts, 32 ∉ tl p) (h1 : 10 ∉ tl l) (h2 : l.length ≤ 20) (h3 : parts.length ≤ 1000) : Fine l := by
  refine ⟨h1, h2, ?_⟩
  rw [j, split_sp hne hp]
  exact h3
theorem line_fine {n : Int} {a : Ar} (h : okA n a) (hn : n ≤ 5) : Fine (lineS a) := ⟨line_free h hn, Nat.le_trans (lineS_len h hn) (by decide), by rw [split_line h hn]; show 3 ≤ 1000; decide⟩
theorem len_ne {parts : List Str} {a : Ar} (h : parts.length ≠ 3) : parts ≠ wordsA a := fun e => h (by rw [e]; rfl)
theorem both_of {n : Int} {l : Str} (parts : List Str) (j : l = Str.join sp parts) (hne : parts ≠ []) (hp : ∀ p ∈ parts, 32 ∉ tl p) (h1 : 10 ∉ tl l) (h2 : l.length ≤ 20) (h3 : parts.length ≤ 1000) (h : ∀ a, okA n a → parts ≠ wordsA a) : NoA n l ∧ Fine l :=
  ⟨noA_of j hne hp h, fine_of j hne hp h1 h2 h3⟩
theorem odd_line {n : Int} {a : Ar} (n0 : 1 ≤ n) (n1 : n ≤ 5) (ok : okA n a) : ∀ o ∈ odds n (lineS a), NoA n o ∧ Fine o := by
  intro o ho
  have wf := words_free ok n1
  have hl := lineS_len ok n1
  have hf := line_free ok n1
  have hq : ∀ p ∈ [Str.ofString "", nS a.1, wordS a.2.2, nS a.2.1], 32 ∉ tl p := fun p hp => by
    rcases List.mem_cons.mp hp with rfl | hp
    · decide +kernel
    · exact (wf p hp).1
  have hq2 : ∀ p ∈ [nS a.1, wordS a.2.2, nS a.2.1, Str.ofString ""], 32 ∉ tl p := fun p hp => by
    have : p ∈ [nS a.1, wordS a.2.2, nS a.2.1] ++ [Str.ofString ""] := hp
    rcases List.mem_append.mp this with hp | hp
    · exact (wf p hp).1
    · rw [List.mem_singleton.mp hp]
      decide +kernel
  simp only [odds, List.mem_cons, List.not_mem_nil, or_false] at ho
  rcases ho with rfl | rfl | rfl | rfl | rfl | rfl | rfl | rfl | rfl
  · exact both_of ["x"] (by decide +kernel) (by simp) (by decide +kernel) (by decide +kernel) (by decide +kernel) (by decide) fun a _ => len_ne (by decide)
  · exact both_of [""] (by decide +kernel) (by simp) (by decide +kernel) (by decide +kernel) (by decide +kernel) (by decide) fun a _ => len_ne (by decide)
  · refine both_of [Str.ofString "", nS a.1, wordS a.2.2, nS a.2.1] ?_ (by simp) hq ?_ ?_ (by show 4 ≤ 1000; decide) fun a _ => len_ne (by show 4 ≠ 3; decide)
    · rw [line_join]
      refine TL.ext_tl ?_
      rw [TL.tl_join, TL.tl_append, TL.tl_join]
      simp only [wordsA, List.map_cons, List.map_nil, TL.joinL]
      rw [show tl (Str.ofString "") = [] from by decide +kernel, List.nil_append]
    · rw [TL.tl_append, List.mem_append, not_or]
      exact ⟨by decide +kernel, hf⟩
    · rw [app_len, show (Str.ofString " ").length = 1 from by decide +kernel]
      omega
  · refine both_of [nS a.1, wordS a.2.2, nS a.2.1, Str.ofString ""] ?_ (by simp) hq2 ?_ ?_ (by show 4 ≤ 1000; decide) fun a _ => len_ne (by show 4 ≠ 3; decide)
    · rw [line_join]
      refine TL.ext_tl ?_
      rw [TL.tl_join, TL.tl_append, TL.tl_join]
      simp only [wordsA, List.map_cons, List.map_nil, TL.joinL, List.append_assoc]
      rw [show tl (Str.ofString "") = [] from by decide +kernel, List.append_nil]
    · rw [TL.tl_append, List.mem_append, not_or]
      exact ⟨hf, by decide +kernel⟩
    · rw [app_len, show (Str.ofString " ").length = 1 from by decide +kernel]
      omega
  · refine both_of ["0", "help", "0"] (by decide +kernel) (by simp) (by decide +kernel) (by decide +kernel) (by decide +kernel) (by decide) fun b _ e => ?_
    have e2 : Str.ofString "help" = wordS b.2.2 := by
      have := congrArg (fun z : List Str => z[1]?) e
      exact Option.some.inj this
    unfold wordS at e2
    split at e2 <;> exact absurd e2 (by decide +kernel)
  · have hn : nS n ++ Str.ofString " helps 0" = Str.join sp [nS n, Str.ofString "helps", Str.ofString "0"] := by
      refine TL.ext_tl ?_
      rw [TL.tl_join, TL.tl_append]
      simp only [List.map_cons, List.map_nil, TL.joinL]
      rw [show tl (Str.ofString " helps 0") = tl sp ++ (tl (Str.ofString "helps") ++ (tl sp ++ tl (Str.ofString "0"))) from by decide +kernel]
    refine both_of _ hn (by simp) ?_ ?_ ?_ (by show 3 ≤ 1000; decide) fun b hb e => ?_
    · intro p hp
      rcases List.mem_cons.mp hp with rfl | hp
      · exact nS_free (by omega) (by omega) (by decide)
      · exact (show ∀ p ∈ [Str.ofString "helps", Str.ofString "0"], 32 ∉ tl p by decide +kernel) p hp
    · rw [TL.tl_append, List.mem_append, not_or]
      exact ⟨nS_free (by omega) (by omega) (by decide), by decide +kernel⟩
    · rw [app_len, nS_len (by omega) (by omega)]
      decide +kernel
    · have e2 : nS n = nS b.1 := by
        have := congrArg (fun z : List Str => z[0]?) e
        exact Option.some.inj this
      have := nS_inj (by omega) (by omega) (hb.b n1).1 (hb.b n1).2.1 e2
      have := hb.2.1
      omega
  · exact both_of ["0", "helps"] (by decide +kernel) (by simp) (by decide +kernel) (by decide +kernel) (by decide +kernel) (by decide) fun a _ => len_ne (by decide)
  · refine both_of ["0", "hinders", "00"] (by decide +kernel) (by simp) (by decide +kernel) (by decide +kernel) (by decide +kernel) (by decide) fun b hb e => ?_
    have e2 : Str.ofString "00" = nS b.2.1 := by
      have := congrArg (fun z : List Str => z[2]?) e
      exact Option.some.inj this
    have e3 := congrArg (fun z : Str => z.length) e2
    have e4 : (nS b.2.1).length = 1 := nS_len (hb.b n1).2.2.1 (hb.b n1).2.2.2
    have e5 : (Str.ofString "00").length = 2 := by decide +kernel
    have e6 : (Str.ofString "00").length = (nS b.2.1).length := e3
    omega
  · exact both_of ["switches"] (by decide +kernel) (by simp) (by decide +kernel) (by decide +kernel) (by decide +kernel) (by decide) fun a _ => len_ne (by decide)
theorem odd_head {n : Int} (n0 : 1 ≤ n) (n1 : n ≤ 5) : ∀ o ∈ odds n (headS n), o.length ≠ 10 ∧ 10 ∉ tl o ∧ o.length ≤ 20 := by
  intro o ho
  have hl := headS_len n0 n1
  have hf := head_free n0 n1
  simp only [odds, List.mem_cons, List.not_mem_nil, or_false] at ho
  rcases ho with rfl | rfl | rfl | rfl | rfl | rfl | rfl | rfl | rfl
  · decide +kernel
  · decide +kernel
  · rw [app_len, hl, show (Str.ofString " ").length = 1 from by decide +kernel, TL.tl_append, List.mem_append, not_or]
    exact ⟨by decide, ⟨by decide +kernel, hf⟩, by decide⟩
  · rw [app_len, hl, show (Str.ofString " ").length = 1 from by decide +kernel, TL.tl_append, List.mem_append, not_or]
    exact ⟨by decide, ⟨hf, by decide +kernel⟩, by decide⟩
  · decide +kernel
  · rw [app_len, nS_len (by omega) (by omega), show (Str.ofString " helps 0").length = 8 from by decide +kernel, TL.tl_append, List.mem_append, not_or]
    exact ⟨by decide, ⟨nS_free (by omega) (by omega) (by decide), by decide +kernel⟩, by decide⟩
  · decide +kernel
  · decide +kernel
  · decide +kernel
theorem join_len (y : Str) : ∀ ls : List Str, (Str.join y ls).length ≤ (ls.map (·.length)).sum + ls.length * y.length
  | [] => by show (Str.ofString "").length ≤ _; rw [show (Str.ofString "").length = 0 from by decide +kernel]; exact Nat.zero_le _
  | [p] => by
    show p.length ≤ _
    simp
  | p :: q :: r => by
    show ((p ++ y) ++ Str.join y (q :: r)).length ≤ _
    have h := join_len y (q :: r)
    rw [app_len, app_len]
    simp only [List.map_cons, List.sum_cons, List.length_cons, Nat.add_mul, Nat.one_mul] at h ⊢
    omega
/-- lines that are joined by new lines: short enough -/
theorem lines_small {ls : List Str} (h : ∀ l ∈ ls, l.length ≤ 20) (hl : ls.length ≤ 1000) : (ls.map (·.length)).sum + ls.length * nl.length ≤ 16777216 ∧ (Txt.join nl ls).length + 2 ≤ sizeLine := by
  have h1 := sum_le (f := fun x : Str => x.length) h
  have e : nl.length = 1 := by decide +kernel
  have h2 := join_len nl ls
  rw [TL.join_eq]
  rw [sizeLine_eq]
  rw [e] at h2 ⊢
  omega
end K24
set_option maxHeartbeats 4000000
namespace K24
open PySem L2 PySem.EX PyProof.Rows
section
variable {P : Program} {w : World} {K : PySem.W.Frag} {mg : Str → Option Value} {base : Heap}
/-- the line b stops the reading behind the arrows pre -/
def Stops (n : Int) (pre : List Ar) (b : Str) : Prop := NoA n b ∨ ∃ a la, okA n a ∧ b = lineS a ∧ pre.getLast? = some la ∧ ¬ lt3 la a
def spRead (K : PySem.W.Frag) : Sp := fun vs H Q E => ∃ v, vs = [v] ∧ ((∃ ty, TyX K H v ty ∧ PySem.W.kitOne K ty (.type "str") = some false ∧ XOut (He.ga K "BadText") .index .non H E) ∨
  ∃ t : Str, v = .str t ∧ t.length + 2 ≤ sizeLine ∧ ((∃ l0 r, Txt.split t nl = l0 :: r ∧ (∀ m : Int, 1 ≤ m → m ≤ 5 → l0 ≠ headS m) ∧ XOut (He.ga K "BadText") .index (.int 0) H E) ∨
    ∃ (n : Int) (pre : List Ar) (rest : List Str), 1 ≤ n ∧ n ≤ 5 ∧ Txt.split t nl = headS n :: (pre.map lineS ++ rest) ∧ (pre.length + rest.length) < 1000 ∧ (∀ a ∈ pre, okA n a) ∧ Asc pre ∧ (∀ l ∈ rest, Fine l) ∧
      ((rest = [] ∧ ∀ x H', Same H H' → PlanAt K H' x n pre → Q (.ref x) H') ∨ ∃ b post, rest = b :: post ∧ Stops n pre b ∧ XOut (He.ga K "BadText") .index (.int (1 + pre.length)) H E)))
theorem scRead : FnScope ["text", "lines", "switches", "arrows", "index", "arrow"] ["text"] (defScope (top 65)) := ⟨rfl, rfl, rfl, by decide +kernel, rfl, by decide +kernel, by decide +kernel⟩
theorem lex_le (a b : Ar) : Ob.lexAt (fun j => decide ((arL a).getD j 0 = (arL b).getD j 0)) (fun j => decide ((arL a).getD j 0 ≤ (arL b).getD j 0)) (decide ((arL a).length ≤ (arL b).length)) 0 (min (arL a).length (arL b).length) = !decide (lt3 b a) := by
  obtain ⟨a1, a2, a3⟩ := a
  obtain ⟨b1, b2, b3⟩ := b
  show Ob.lexAt _ _ (decide (3 ≤ 3)) 0 3 = _
  rw [Ob.lexAt_succ, Ob.lexAt_succ, Ob.lexAt_succ, Ob.lexAt_zero]
  show (if decide (a1 = b1) = true then if decide (a2 = b2) = true then if decide (a3 = b3) = true then decide (3 ≤ 3) else decide (a3 ≤ b3) else decide (a2 ≤ b2) else decide (a1 ≤ b1)) = _
  unfold lt3
  by_cases h1 : a1 = b1
  · by_cases h2 : a2 = b2
    · by_cases h3 : a3 = b3
      · simp [h1, h2, h3]
      · simp [h1, h2, h3]
        by_cases h : a3 ≤ b3
        · have : ¬ b3 < a3 := by omega
          simp [h]
        · have : b3 < a3 := by omega
          simp [this]
    · simp [h1, h2]
      have hn : ¬ b2 = a2 := fun e => h2 e.symm
      by_cases h : a2 ≤ b2
      · have : ¬ b2 < a2 := by omega
        simp [h, hn]
      · have : b2 < a2 := by omega
        simp [this]
  · have hn : ¬ b1 = a1 := fun e => h1 e.symm
    simp [h1, hn]
    by_cases h : a1 ≤ b1
    · have : ¬ b1 < a1 := by omega
      simp [h]
    · have : b1 < a1 := by omega
      simp [this]
theorem atI_last {α : Type} {xs : List α} {v : α} (h : xs.getLast? = some v) : atI xs (-1) = some v := by
  have hne : 0 < xs.length := by
    cases xs with
    | nil => cases h
    | cons a l => simp
  unfold atI ixN
  rw [List.getLast?_eq_getElem?] at h
  have e : ((-1 : Int) + xs.length).toNat = xs.length - 1 := by omega
  have h0 : ¬ (0 : Int) ≤ -1 := by decide
  rw [if_neg h0]
  first
    | (rw [if_pos (by omega)]; simpa [e] using h)
    | (simp [e]; omega)
theorem asc_nodup {as : List Ar} (h : Asc as) : as.Nodup := by
  refine List.Pairwise.imp (R := lt3) ?_ h
  intro a b hab e
  subst e
  exact lt3_irr _ hab
theorem ok_readX (T : TxP P K mg) (C : TxC K mg) (S : TxS K w mg) : FncX P w K mg base (L2.CX P w) 7 "read_plan" (top 65) ["text"] (spRead K) := by
  have GL : Fnc P w K mg base (L2.CX P w) 1 "lines_of" ["text"] (spLines K) := ok_lines T
  have GS : Fnc P w K mg base CX0 1 "switches_in" ["line"] spSw := ok_sw T
  have GA : Fnc P w K mg base CX0 1 "plan_arrow_in" ["line", "switches"] spAin := ok_ain T S
  obtain ⟨fd, F, hb⟩ := ok_init (P := P) (w := w) (base := base) T C
  obtain ⟨gB, D, fI, cc, cda, XB⟩ := T.badText
  refine fncX S.read scRead (fun vs H Q E h => ?_) (fun _ _ _ _ _ _ us hl => match us, hl with | [_], _ => rfl) (fun cdv A outer s H vs Q E hr h => ?_)
  · obtain ⟨v, rfl, _⟩ := h
    rfl
  · obtain ⟨v, rfl, h⟩ := h
    refine ⟨_, pss_cons (ps_set (i := 1) scRead.nd rfl (Or.inl rfl) (pe_fn GL (hr.mono (by decide)) (passes_call (takes_of rfl rfl rfl rfl) (fun _ _ _ _ h => h)) (pa_cons (pv 0) pa_nil)))
      (pss_cons (ps_set (i := 2) scRead.nd rfl (Or.inl rfl) (pe_fn GS (hr.mono (by decide)) pass0 (pa_cons (pe_ix ix_list (pv 1) pe_int (fun _ _ => rfl)) pa_nil)))
      (pss_cons (ps_if (pt_cmpR op_isN (pv 2) pe_non (nomark _)) (pss_one (ps_raiseP rfl XB gB hr (takes_of rfl rfl rfl rfl) (pa_cons pe_int pa_nil))) pss_nil)
      (pss_cons (ps_set (i := 3) scRead.nd rfl (Or.inl rfl) (pe_lst pa_nil))
      (pss_cons (ps_for (passes_of rfl) rfl (pi_range2 (by rfl) T.range (pa_cons pe_int (pa_cons (pe_callB call_len_seq (by rfl) T.len PySem.boot_len (pa_cons (pv 1) pa_nil)) pa_nil))) (pg_name (i := 4) scRead.nd rfl (Or.inl rfl))
        (pss_cons (ps_set (i := 5) scRead.nd rfl (Or.inl rfl) (pe_fn GA (hr.mono (by decide)) pass0 (pa_cons (pe_ix ix_list (pv 1) (pv 4) (fun _ _ => rfl)) (pa_cons (pv 2) pa_nil))))
        (pss_cons (ps_if (PW.pt (pw_or (pt_cmpR op_isN (pv 5) pe_non (nomark _)) (pw_or1 (PW.pt (pw_and (pt_cmpR (op_neD hr.units) (pv 3) (pe_lst pa_nil) (nomark _)) (pw_and1 (pt_cmpR (op_leT hr.units0) (pv 5) (pe_ix ix_list (pv 3) (pe_un un_neg pe_int) (fun _ _ => rfl)) (nomark _))))))))
          (pss_one (ps_raiseP rfl XB gB hr (takes_of rfl rfl rfl rfl) (pa_cons (pv 4) pa_nil))) pss_nil)
        (pss_one (ps_expr (pe_bm PySem.F.plainAttrs_list PySem.F.slot_list_append PySem.F.type_list_append mt_append (pv 3) (pa_cons (pv 5) pa_nil)))))))
      (pss_one (ps_ret (pe_make (E := E0) C.mkr F hr (by rfl) C.glo hb .nil pass0 (pa_cons (pv 2) (pa_cons (pv 3) pa_nil))))))))), ?_⟩
    rcases h with ⟨ty, h1, h2, h3⟩ | ⟨t, rfl, hz, h⟩
    · exact ⟨_, rfl, v, rfl, .inr ⟨ty, h1, h2, h3⟩⟩
    refine ⟨_, rfl, .str t, rfl, .inl ⟨t, rfl, hz, fun p hp => ?_⟩⟩
    have sp1 : Same H (upd H p (.lst ((Txt.split t nl).map V.str))) := Same.upd hp
    have h : (∃ l0 r, Txt.split t nl = l0 :: r ∧ (∀ m : Int, 1 ≤ m → m ≤ 5 → l0 ≠ headS m) ∧ XOut (He.ga K "BadText") .index (.int 0) H E) ∨ _ := h
    rcases h with ⟨l0, r, e, hno, hx⟩ | ⟨n, pre, rest, n0, n1, e, hlen, ok, asc, hfine, h⟩
    · rw [e] at sp1 ⊢
      refine ⟨_, rfl, p, _, (0 : Int), V.str l0, rfl, rfl, SqL.of upd_same, atI_int (by decide) rfl, l0, rfl, .inr ⟨hno, ?_⟩⟩
      refine ⟨_, rfl, rfl, _, rfl, iteT ?_⟩
      exact ⟨_, rfl, fun d hd => hx.go sp1 hd⟩
    rw [e] at sp1 ⊢
    have hN : ((((headS n :: (pre.map lineS ++ rest)).map V.str).length : Int) - 1).toNat = pre.length + rest.length := by
      rw [List.length_map, List.length_cons, List.length_append, List.length_map]
      omega
    refine ⟨_, rfl, p, _, (0 : Int), V.str (headS n), rfl, rfl, SqL.of upd_same, atI_int (by decide) rfl, headS n, rfl, .inl ⟨n, n0, n1, rfl, ?_⟩⟩
    refine ⟨_, rfl, rfl, _, rfl, iteF ?_⟩
    refine ⟨by decide, fun q hq => ?_⟩
    have hq0 : H q = none := sp1.free hq
    have sq : Same (upd H p (.lst ((headS n :: (pre.map lineS ++ rest)).map V.str))) (upd (upd H p (.lst ((headS n :: (pre.map lineS ++ rest)).map V.str))) q (.lst [])) := Same.upd hq
    refine ⟨_, rfl, p, _, rfl, .inl (SqL.of (sq _ _ upd_same)), 1, _, rfl, ⟨by decide, by decide, by omega, ?_⟩, for_range (lo := 1) (n := _) (fun i σ H2 => i ≤ pre.length ∧ ∃ u u' xs, σ = [some (.str t), some (.ref p), some (.int n), some (.ref q), u, u'] ∧ Same (upd H p (.lst ((headS n :: (pre.map lineS ++ rest)).map V.str))) H2 ∧ H2 q = some (.lst xs) ∧ Ars H2 xs (pre.take i)) ⟨Nat.zero_le _, none, none, [], rfl, sq, upd_same, .nil⟩ ?_ ?_⟩
    · rw [List.length_map, List.length_cons, List.length_append, List.length_map]
      omega
    · rintro i σ H2 hi ⟨hle, u, u', xs, rfl, s2, hxq, hA⟩
      rw [hN] at hi
      have hp2 := s2 _ _ upd_same
      have sH := sp1.trans s2
      have hAl : xs.length = i := by rw [hA.length, List.length_take]; omega
      have hS2 : SqL K H2 p ((headS n :: (pre.map lineS ++ rest)).map V.str) := SqL.of hp2
      -- the line
      obtain ⟨ln, hln⟩ : ∃ ln, (pre.map lineS ++ rest)[i]? = some ln := ⟨_, List.getElem?_eq_getElem (by rw [List.length_append, List.length_map]; exact hi)⟩
      have hat : atI ((headS n :: (pre.map lineS ++ rest)).map V.str) (1 + i) = some (.str ln) := by
        refine atI_int (by omega) ?_
        rw [List.getElem?_map, show ((1 : Int) + i).toNat = i + 1 by omega, List.getElem?_cons_succ, hln]
        rfl
      -- the tests behind an arrow: goN where they let it pass
      refine ⟨_, rfl, _, rfl, p, _, 1 + i, .str ln, rfl, rfl, hS2, hat, _, rfl, ?_⟩
      have tests : ∀ (v : V) (H3 : Hp) (a : Ar), Same H2 H3 → ArV H3 v a → ∀ (Yes No : Hp → Prop), (∀ H4, Same H3 H4 → (∃ la, (pre.take i).getLast? = some la ∧ ¬ lt3 la a) → Yes H4) → (∀ H4, Same H3 H4 → (∀ la, (pre.take i).getLast? = some la → lt3 la a) → No H4) →
          tOr (tTest (tOp (fun x y H Q => y = V.non ∧ Q (V.bl (decide (x = V.non))) H) (tVar 5) (tC V.non))) (tAnd (tTest (tOp (rNeD K) (tVar 3) (tLst tNil))) (tTest (tOp (rLeT K) (tVar 5) (tOp (rIxL K) (tVar 3) (tUn (rU fun i => V.int (-i)) (tC (V.int 1)))))))
            [some (.str t), some (.ref p), some (.int n), some (.ref q), some (.int (1 + i)), some v] H3 (fun c H4 => if c = true then Yes H4 else No H4) := by
        intro v H3 a s3 ⟨pa, ev, hv⟩ Yes No hy hn
        subst ev
        refine ⟨_, rfl, rfl, _, rfl, iteF ?_⟩
        have hxq3 := s3 _ _ hxq
        have hA3 := hA.keep s3.tups
        refine ⟨_, rfl, by decide, fun e he => ⟨_, _, .lst (SqL.of ((Same.upd he) _ _ hxq3)) (hA3.keep (Same.upd he).tups).dp, dp_nil (SqL.of upd_same), shaped_arsL _, shaped_nil, _, rfl, ?_⟩⟩
        rw [eqv_nilL]
        have s4 : Same H3 (upd H3 e (.lst [])) := Same.upd he
        cases hl : (pre.take i).getLast? with
        | none =>
          have hnil : pre.take i = [] := List.getLast?_eq_none_iff.mp hl
          rw [hnil]
          refine iteF ?_
          exact iteF (hn _ s4 fun la hla => by rw [hl] at hla; cases hla)
        | some la =>
          have hne : pre.take i ≠ [] := fun z => by rw [z] at hl; cases hl
          have he2 : ((pre.take i).map arD).isEmpty = false := by
            cases z : pre.take i with
            | nil => exact absurd z hne
            | cons _ _ => rfl
          rw [he2]
          refine iteT ?_
          obtain ⟨lv, hlv⟩ : ∃ lv, xs.getLast? = some lv := by
            cases z : xs.getLast? with
            | some lv => exact ⟨lv, rfl⟩
            | none =>
              have z2 := List.getLast?_eq_none_iff.mp z
              have := hA3.length
              rw [z2] at this
              exact absurd (List.length_eq_zero_iff.mp this.symm) hne
          obtain ⟨la', hla', pb, eb, hb⟩ := Ars.get hA3 (by rw [← List.getLast?_eq_getElem?]; exact hlv)
          have ela : la' = la := by
            have h1 : (pre.take i)[(pre.take i).length - 1]? = some la := by rw [← List.getLast?_eq_getElem?]; exact hl
            rw [← hA3.length] at h1
            rw [h1] at hla'
            exact (Option.some.inj hla').symm
          subst ela eb
          refine ⟨_, rfl, _, rfl, _, rfl, q, xs, -1, _, rfl, rfl, SqL.of (s4 _ _ hxq3), atI_last hlv, pa, pb, arL a, arL la', rfl, rfl, SqT.of (s4 _ _ hv), SqT.of (s4 _ _ hb), ?_⟩
          rw [lex_le]
          refine ⟨_, rfl, ?_⟩
          by_cases hlt : lt3 la' a
          · rw [decide_eq_true hlt]
            exact iteF (hn _ s4 fun la hla => by rw [hl] at hla; cases hla; exact hlt)
          · rw [decide_eq_false hlt]
            exact iteT (hy _ s4 ⟨la', hl, hlt⟩)
      have fin : ∀ {l : Str}, Fine l → l.length + 2 ≤ sizeLine ∧ (Txt.split l sp).length ≤ 1000 := fun f => ⟨line1000 (by have := f.2.1; omega), f.2.2⟩
      by_cases hip : i < pre.length
      · -- an arrow more
        obtain ⟨a, ha⟩ : ∃ a, pre[i]? = some a := ⟨_, List.getElem?_eq_getElem hip⟩
        have el : ln = lineS a := by
          rw [List.getElem?_append_left (by rw [List.length_map]; exact hip), List.getElem?_map, ha] at hln
          exact (Option.some.inj hln).symm
        have oka := ok a (List.mem_of_getElem? ha)
        subst el
        obtain ⟨f1, f2⟩ := fin (line_fine oka n1)
        refine ⟨lineS a, n, rfl, by omega, n1, f1, f2, .inl ⟨a, oka, split_line oka n1, fun v H3 s3 hv => ?_⟩⟩
        refine tests v H3 a s3 hv _ _ (fun H4 s4 hbad => ?_) (fun H4 s4 _ => ?_)
        · obtain ⟨la, hla, hno⟩ := hbad
          rw [List.getLast?_eq_getElem?, List.length_take, Nat.min_eq_left (by omega)] at hla
          rw [List.getElem?_take] at hla
          split at hla
          · rename_i hi1
            have hasc := List.pairwise_iff_getElem.mp asc (i - 1) i (by omega) hip (by omega)
            rw [List.getElem?_eq_getElem (by omega)] at hla ha
            rw [Option.some.inj hla, Option.some.inj ha] at hasc
            exact absurd hasc hno
          · cases hla
        · have sx := s3.trans s4
          have hxq4 := sx _ _ hxq
          refine ⟨_, rfl, .inl ⟨rfl, _, SqL.of hxq4⟩, _, rfl, q, xs, v, rfl, rfl, hxq4, small1000 (by omega), ?_⟩
          have hqn : ∀ b o, (upd H p (.lst ((headS n :: (pre.map lineS ++ rest)).map V.str))) b = some o → b ≠ q := fun b o hb => ne_of_none hb hq
          refine ⟨hip, _, _, xs ++ [v], rfl, (s2.trans sx).put hq, upd_same, ?_⟩
          have hv4 : ArV (upd H4 q (.lst (xs ++ [v]))) v a := (hv.keep s4.tups).keep fun b ys e => by rw [upd_ne (ne_of e hxq4 (by intro z; cases z))]; exact e
          have hA4 : Ars (upd H4 q (.lst (xs ++ [v]))) xs (pre.take i) := (hA.keep sx.tups).keep fun b ys e => by rw [upd_ne (ne_of e hxq4 (by intro z; cases z))]; exact e
          rw [List.take_succ, ha]
          exact Paired.snoc hA4 hv4
      · -- the line that stops it
        have hip' : i = pre.length := by omega
        rcases h with ⟨hr0, _⟩ | ⟨b, post, hb', hst, hx⟩
        · rw [hr0] at hi
          simp at hi
          omega
        subst hb'
        have el : ln = b := by
          rw [List.getElem?_append_right (by rw [List.length_map]; omega), List.length_map, hip', Nat.sub_self] at hln
          exact (Option.some.inj hln).symm
        subst el
        obtain ⟨f1, f2⟩ := fin (hfine ln List.mem_cons_self)
        have hx' : XOut (He.ga K "BadText") .index (.int (1 + i)) H E := by rw [hip']; exact hx
        rcases hst with hno | ⟨a, la, oka, hla, hgl, hnl⟩
        · refine ⟨ln, n, rfl, by omega, n1, f1, f2, .inr ⟨hno, fun H3 s3 => ?_⟩⟩
          refine ⟨_, rfl, rfl, _, rfl, iteT (iteT ?_)⟩
          exact ⟨_, rfl, _, rfl, fun d hd => hx'.go (sH.trans s3) hd⟩
        · subst hla
          refine ⟨lineS a, n, rfl, by omega, n1, f1, f2, .inl ⟨a, oka, split_line oka n1, fun v H3 s3 hv => ?_⟩⟩
          refine tests v H3 a s3 hv _ _ (fun H4 s4 _ => ?_) (fun H4 s4 hgood => ?_)
          · exact ⟨_, rfl, _, rfl, fun d hd => hx'.go (sH.trans (s3.trans s4)) hd⟩
          · exact absurd (hgood la (by rw [List.take_of_length_le (by omega)]; exact hgl)) hnl
    · rintro σ H2 ⟨hle, u, u', xs, rfl, s2, hxq, hA⟩
      rw [hN] at hle hA
      have hr0 : rest = [] := List.length_eq_zero_iff.mp (by omega)
      subst hr0
      have sH := sp1.trans s2
      rcases h with ⟨_, k⟩ | ⟨b, post, hb', _⟩
      · rw [List.take_of_length_le (by omega)] at hA
        refine ⟨_, rfl, _, rfl, fun x dx hx hdx hne => ?_⟩
        have e1 : Same H2 (upd (upd H2 dx (.own x)) x (.ins (cP K) dx [])) := (Same.upd hdx).trans (Same.upd (by rw [upd_ne (Ne.symm hne)]; exact hx))
        refine ⟨x, dx, n, q, xs, pre, rfl, upd_same, n0, n1, .base (.lst (e1 _ _ hxq)), SqL.of (e1 _ _ hxq), hA.keep e1.tups, ok, asc_nodup asc, by omega, fun H' hk hpl => ⟨rfl, ?_⟩⟩
        rw [sort_idA asc] at hpl
        refine k x H' (fun b o hb => ?_) hpl
        have hb2 := sH _ _ hb
        exact hk b o (ne_of_none hb2 hx) (e1 _ _ hb2)
      · cases hb'
theorem ok_read (T : TxP P K mg) (C : TxC K mg) (S : TxS K w mg) : Fnc P w K mg base (L2.CX P w) 7 "read_plan" ["text"] (spRead K) := (ok_readX T C S).fnc
end
end K24
set_option maxHeartbeats 4000000
/-! E12: errors that are due. -/
namespace L2
open PySem PySem.Spec PyProof.Rows PySem.EX
/-- statements that are not reached -/
theorem pss_any {X : Cx} {ss : List Stmt} : PSs X ss (fun _ _ _ => False) := ⟨fun _ _ _ _ _ _ h => h.elim⟩
theorem pe_tyN {X : Cx} {x : Str} {n : String} {pos : Pos} (hm : X.mg x = none) (hg : Gl X x) (hv : bootBuiltins x = some (.type n)) (hn : x ≠ "__name__" := by decide) (hd : (x == ("__debug__" : Str)) = false := by decide) : PE X (.Name x pos) (tC (.ty n)) := pe_bltn hg hm hv rfl hn hd
/-- what is wanted of C(v), raised -/
def XO (C : Addr) (k : Fk) (v : V) (H : Hp) (E : XK) : Prop := ∀ (d : Addr) (H' : Hp), Same H H' → H' d = some (.xd [(k.name, v)]) → E (.ref C) (some d) H'
theorem XO.go {C : Addr} {k : Fk} {v : V} {H H1 : Hp} {E : XK} (x : XO C k v H E) (s : Same H H1) {d : Addr} (hd : H1 d = none) : E (.ref C) (some d) (upd H1 d (.xd [(k.name, v)])) := x d _ (s.trans (Same.upd hd)) upd_same
/-- what is wanted of C('..'), raised -/
def XOO (C : Addr) (H : Hp) (E : XK) : Prop := ∀ H' : Hp, Same H H' → E (.ref C) none H'
/-- the errors -/
inductive DueE where
  | num (p : Str) | text (v : V) | kind | states | edit | done | undone | book
def DueE.out (K : PySem.W.Frag) (d : DueE) (H : Hp) (E : XK) : Prop := match d with
  | .num p => XO (He.ga K "BadNumber") .part (.str p) H E
  | .text v => XO (He.ga K "BadText") .index v H E
  | .kind => XOO (He.ga K "BadKind") H E
  | .states => XOO (He.ga K "BadStates") H E
  | .edit => XOO (He.ga K "BadEdit") H E
  | .done => XOO (He.ga K "NothingDone") H E
  | .undone => XOO (He.ga K "NothingUndone") H E
  | .book => XOO (He.ga K "NoPlanbook") H E
theorem DueE.same {K : PySem.W.Frag} {d : DueE} {H H1 : Hp} {E : XK} (x : d.out K H E) (s : Same H H1) : d.out K H1 E := by
  cases d <;> first
    | exact fun dd H' s' h => x dd H' (s.trans s') h
    | exact fun H' s' => x H' (s.trans s')
/-- None, a text, a number out of 0 .. 33 -/
inductive Odd : V → Prop where
  | non : Odd .non
  | str (x : Str) : Odd (.str x)
  | int (i : Int) (h : i < 0 ∨ 33 < i) : Odd (.int i)
theorem same_refl {H : Hp} : Same H H := fun _ _ h => h
/-- an own exception class with a part -/
structure PCls (prog : Program) (K : PySem.W.Frag) (mg : Str → Option Value) (x : Str) (k : Fk) : Prop where
  glo : mg x = some (.ref (He.ga K x))
  txt : ∃ D fI cc cda, XTxt prog K k (He.ga K x) D fI cc cda
theorem ps_raisePC {X : Cx} {x : Str} {kd : Fk} {a : Expr} {ta : TA} {W : WX} {p pos pos2 : Pos} {k : Nat} (hc : X.calm = true) (T : PCls X.prog X.K X.mg x kd) (hr : Room k X.A) (tk : Takes X W) (ha : PA X [a] ta) (hg : Gl X x := by rfl) (hdb : (x == ("__debug__" : Str)) = false := by decide)
    (he : starEach (a :: []) X.env = (false, eval a X.env) :: starEach [] X.env := by rfl) (hpl : (backTo pos (starEach [] X.env)).any (·.1) = false := by rfl) :
    PS X (.Raise (some (.Call (.Name x p) [a] [] pos)) none pos2) (tRaiseP kd (He.ga X.K x) W ta) := by
  obtain ⟨D, fI, cc, cda, XT⟩ := T.txt
  exact ps_raiseP hc XT T.glo hr tk ha hg hdb he hpl
theorem TyX.grow {K : PySem.W.Frag} {H H' : Hp} {x : V} {t : Value} (e : ∀ a o, H a = some o → H' a = some o) (h : TyX K H x t) : TyX K H' x t := by
  cases h with
  | base b => cases b with
    | non => exact .base .non
    | bl x => exact .base (.bl x)
    | int x => exact .base (.int x)
    | str x => exact .base (.str x)
    | flt x => exact .base (.flt x)
    | lst q => exact .base (.lst (e _ _ q))
    | frz q => exact .base (.frz (e _ _ q))
    | tup q => exact .base (.tup (e _ _ q))
    | dK q => exact .base (.dK (e _ _ q))
    | dT q => exact .base (.dT (e _ _ q))
    | ins q c1 c2 c3 c4 c5 => exact .base (.ins (e _ _ q) c1 c2 c3 c4 c5)
  | byt b => exact .byt b
  | set q => exact .set (e _ _ q)
  | kList q c => exact .kList q c
  | kTuple q c => exact .kTuple q c
  | kDict q c => exact .kDict q c
  | fTuple q => exact .fTuple (e _ _ q)
  | fDict q => exact .fDict (e _ _ q)
theorem kit_self {K : PySem.W.Frag} {t : Value} : PySem.W.kitOne K t t = some true := by unfold PySem.W.kitOne; rw [if_pos (by simp)]
/-! ### promises of the kinds -/
def spNumO : Sp := fun vs H Q _ => ∃ v, vs = [v] ∧ ((∃ i : Int, v = .int i ∧ Q (.bl true) H) ∨ ((v = .non ∨ ∃ x, v = .str x) ∧ Q (.bl false) H))
def spBtwO : Sp := fun vs H Q _ => ∃ (v : V) (a b : Int), vs = [v, .int a, .int b] ∧ ((∃ i : Int, v = .int i ∧ Q (.bl (decide (a ≤ i) && decide (i ≤ b))) H) ∨ (Odd v ∧ 0 ≤ a ∧ b ≤ 33 ∧ Q (.bl false) H))
theorem Odd.numv {v : V} (h : Odd v) : (∃ i : Int, v = .int i ∧ (i < 0 ∨ 33 < i)) ∨ (v = .non ∨ ∃ x, v = .str x) := by
  cases h with
  | non => exact .inr (.inl rfl)
  | str x => exact .inr (.inr ⟨x, rfl⟩)
  | int i h => exact .inl ⟨i, rfl, h⟩
theorem Odd.ty {K : PySem.W.Frag} {H : Hp} {v : V} (h : Odd v) : ∃ t, TyX K H v t ∧ PySem.W.kitOne K t (.type "tuple") = some false := by
  cases h with
  | non => exact ⟨_, .base .non, by with_unfolding_all rfl⟩
  | str x => exact ⟨_, .base (.str x), by with_unfolding_all rfl⟩
  | int i h => exact ⟨_, .base (.int i), by with_unfolding_all rfl⟩
end L2
set_option maxHeartbeats 4000000
/-! E13: {**a, **b}. -/
namespace PySem
open Sem (wp)
section
variable {prog : Program} {w : World} {K : Type} [DecidableEq K] {knd : KeyKind prog w K} {A : Around} {E : Value → Shared → Prop} {s : Shared}
theorem wpAny_dictPut_pairs {d : Addr} {kvs : List (K × Value)} {k : K} {key v : Value} {Q : Unit → Shared → Prop} (hkey : knd.is k key = true) (hm : s.heap.DictOf knd d kvs)
    (hQ : ∀ h', h'.DictOf knd d (stored kvs k v) → Heap.SameBut d s.heap h' → Q () { s with heap := h' })
    (hsz : kvs.length ≤ sizeLine) :
    wpAny (model prog w) A (dictPut d (knd.hash k) key v) Q E s := by
  obtain ⟨o, es, ep, ho, hc, hd, hk, hp, hn⟩ := hm
  have hes : es.size ≤ sizeLine := by
    have e1 := hp.length
    have e2 : es.toList.length = es.size := by simp
    omega
  unfold dictPut
  refine wpAny_bind (wpAny_dictFind_of hkey ho hd hk ?_)
  have hidx : (es.findIdx? fun e => knd.is k e.key) = kvs.findIdx? fun kv => decide (kv.1 = k) := by
    rw [← hp.findIdx k]; obtain ⟨l⟩ := es; simp
  cases hi : es.findIdx? fun e => knd.is k e.key with
  | some i =>
    refine wpAny_updateDict ho hd (hQ _ ⟨_, _, ep, Heap.get?_update_self _ ho (Obj.isFreed_of_dict (Obj.data_mapDict hd _)),
      hc.mapDict _, Obj.data_mapDict hd _, hk.modify _ _, ?_, ?_⟩ (Heap.SameBut.update ..))
    · rw [stored, if_pos (any_of_findIdx_some (hidx ▸ hi))]
      have hl : (es.toList.findIdx? fun e => knd.is k e.key) = some i := by rw [← hi]; obtain ⟨l⟩ := es; simp
      have := hp.modify hn hl v
      obtain ⟨l⟩ := es
      simpa using this
    · rw [stored, if_pos (any_of_findIdx_some (hidx ▸ hi)), keys_map_store]; exact hn
  | none =>
    have hnot : k ∉ kvs.map (·.1) := not_mem_of_findIdx_none (hidx ▸ hi)
    have hany : ¬ (kvs.any fun kv => decide (kv.1 = k)) = true := by
      rw [List.any_eq_true]; rintro ⟨kv, hkv, he⟩
      exact hnot (List.mem_map.mpr ⟨kv, hkv, of_decide_eq_true he⟩)
    refine wpAny_updateDictKeys (hz := hes) ho hd (hQ _ ⟨_, _, ep + 1, Heap.get?_update_self _ ho (Obj.isFreed_of_dict (Obj.data_mapDictKeys hd _)),
      hc.mapDictKeys _, Obj.data_mapDictKeys hd _, hk.push hkey _, ?_, ?_⟩ (Heap.SameBut.update ..))
    · rw [stored, if_neg hany]
      have := hp.append hkey (knd.hash k) v
      obtain ⟨l⟩ := es
      simpa using this
    · rw [stored, if_neg hany, List.map_append, List.nodup_append]
      refine ⟨hn, by simp, ?_⟩
      intro a ha b hb
      simp only [List.map_cons, List.map_nil, List.mem_singleton] at hb
      subst hb
      exact fun e => hnot (e ▸ ha)
theorem wpAny_mergeMapping {d o : Addr} {kvs more : List (K × Value)} {Q : Unit → Shared → Prop} (hdo : d ≠ o) (hoS : (o == sysModules) = false)
    (nref : ∀ k v, knd.is k v = true → ∀ a, v ≠ .ref a)
    (hd : s.heap.DictOf knd d kvs) (ho : s.heap.DictOf knd o more)
    (hQ : ∀ h', h'.DictOf knd d (merged kvs more) → h'.DictOf knd o more → Heap.SameBut d s.heap h' → Q () { s with heap := h' })
    (hsz : kvs.length + more.length ≤ sizeLine) :
    wpAny (model prog w) A (mergeMapping d (.ref o) false) Q E s := by
  obtain ⟨od, esd, epd, hod, hcd, hdd, hkd, hpd, hnd⟩ := id hd
  obtain ⟨oo, eso, epo, hoo, hco, hdo', hko, hpo, hno⟩ := id ho
  have hlen : more.length = eso.size := by rw [← hpo.length]; simp
  unfold mergeMapping
  refine wpAny_bind (wpAny_isInstance ho.typeIs isSubtype_dict_dict ?_)
  simp only [if_true]
  refine wpAny_bind (wpAny_specialOf ho.typeIs F.slot_dict_iter.lookup (wpAny_bind (wpAny_pure ?_)))
  simp only [beq_self_eq_true]
  rw [if_neg (by rw [hoS]; exact Bool.false_ne_true)]
  have fin : wpAny (model prog w) A (do
      let __do_lift ← dictEntries o
      let epoch ← dictEpoch o
      forIn (List.range __do_lift.size) PUnit.unit fun i (_ : PUnit) => (do
        let l' ← dictEntries o
        match l'[i]? with
          | some e => do
            holding [e.key, e.val] (dictPut d e.hash e.key e.val)
            let ep' ← dictEpoch o
            if (ep' != epoch) = true then do
                (unsupported "dict.changed-during-merge" : Sem PUnit)
                pure (ForInStep.yield PUnit.unit)
              else pure (ForInStep.yield PUnit.unit)
          | _ => do
            (unsupported "dict.changed-during-merge" : Sem PUnit)
            pure (ForInStep.yield PUnit.unit) : Sem (ForInStep PUnit))
      pure ()) Q E s := by
    refine wpAny_bind (wpAny_dictEntries hoo hdo' ?_)
    refine wpAny_bind (wpAny_dictEpoch hoo hdo' ?_)
    refine wpAny_bind ?_
    rw [List.range_eq_range']
    refine wpAny_forIn_list _
      (fun rest _ s' => ∃ h' i, s' = { s with heap := h' } ∧ rest = List.range' i (eso.size - i) ∧ i ≤ eso.size ∧ h'.DictOf knd d (merged kvs (more.take i)) ∧ h'.get? o = some oo ∧ Heap.SameBut d s.heap h')
      _ ?_ ?_ _ _ ⟨s.heap, 0, rfl, by simp, Nat.zero_le _, by simpa [merged] using hd, hoo, Heap.SameBut.refl _ _⟩
    · rintro x rest b s' ⟨h', i, rfl, hr, hi, hd', hoo', hs'⟩
      have hlt : i < eso.size := by
        rcases Nat.lt_or_ge i eso.size with h | h
        · exact h
        · rw [Nat.sub_eq_zero_of_le h] at hr; simp at hr
      obtain ⟨rfl, hrest⟩ : x = i ∧ rest = List.range' (i + 1) (eso.size - (i + 1)) := by
        have e : eso.size - i = (eso.size - (i + 1)) + 1 := by omega
        rw [e, List.range'_succ] at hr
        injection hr with h1 h2
        exact ⟨h1, h2⟩
      refine wpAny_bind (wpAny_dictEntries hoo' hdo' ?_)
      rw [Array.getElem?_eq_getElem hlt]
      obtain ⟨kv, hkv⟩ : ∃ kv, more[x]? = some kv := ⟨more[x]'(by rw [hlen]; exact hlt), List.getElem?_eq_getElem _⟩
      obtain ⟨k, v⟩ := kv
      obtain ⟨hkey, hval⟩ := hpo.get? (e := eso[x]) (by simp [hlt]) hkv
      obtain ⟨k', hkey', hhash⟩ := hko eso[x] (Array.getElem_mem hlt)
      obtain rfl : k' = k := knd.inj _ _ _ hkey' hkey
      show wpAny _ _ (holding [eso[x].key, eso[x].val] (dictPut d eso[x].hash eso[x].key eso[x].val) >>= _) _ _ _
      rw [hhash, hval]
      have hmx : (merged kvs (more.take x)).length ≤ sizeLine := by
        have e1 := merged_length_le kvs (more.take x)
        have e2 : (more.take x).length ≤ more.length := by rw [List.length_take]; omega
        omega
      refine wpAny_bind (wpAny_holding (wpAny_dictPut_pairs (hsz := hmx) hkey hd' fun h'' hd'' hs'' => ?_))
      have hoo'' : h''.get? o = some oo := (hs''.2 o (Ne.symm hdo)).trans hoo'
      refine wpAny_bind (wpAny_dictEpoch hoo'' hdo' ?_)
      rw [if_neg (by simp)]
      exact wpAny_pure ⟨h'', x + 1, rfl, hrest, hlt, by rw [merged_take_succ kvs more x (k', v) hkv]; exact hd'', hoo'', hs'.trans hs''⟩
    · rintro b s' ⟨h', i, rfl, hr, hi, hd', hoo', hs'⟩
      have hin : i = eso.size := by
        rcases Nat.lt_or_ge i eso.size with h | h
        · have e : eso.size - i = (eso.size - (i + 1)) + 1 := by omega
          rw [e, List.range'_succ] at hr; exact nomatch hr
        · exact Nat.le_antisymm hi h
      refine wpAny_pure (hQ h' ?_ ⟨oo, eso, epo, hoo', hco, hdo', hko, hpo, hno⟩ hs')
      rw [hin, ← hlen, List.take_length] at hd'; exact hd'
  refine wpAny_bind (wpAny_dictEntries hod hdd ?_)
  simp only [Bool.false_eq_true, if_false]
  split
  · refine wpAny_bind (wpAny_dictEntries hoo hdo' ?_)
    refine wpAny_bind ?_
    rw [← Array.forIn_toList]
    refine wpAny_forIn_list _ (fun rest _ s' => s' = s ∧ ∀ e ∈ rest, e ∈ eso) _ ?_ ?_ _ _ ⟨rfl, fun e he => by simpa using he⟩
    · rintro x rest b s' ⟨rfl, hm⟩
      obtain ⟨k', hkey', _⟩ := hko x (hm x List.mem_cons_self)
      have nr := nref _ _ hkey'
      have g : ∀ (v : Value), (∀ a, v ≠ .ref a) → ∀ (f : Addr → Sem (ForInStep PUnit)) (gg : Sem (ForInStep PUnit)), (match v with | .ref a => f a | _ => gg) = gg := fun v hv f gg => by
        cases v <;> first | rfl | exact absurd rfl (hv _)
      cases hkk : x.key with
      | ref a => exact absurd hkk (nr a)
      | _ => exact wpAny_pure ⟨rfl, fun e he => hm e (List.mem_cons_of_mem _ he)⟩
    · rintro b s' ⟨rfl, _⟩
      exact fin
  · exact fin
end
end PySem
namespace L2
open PySem
/-- {**a, **b}; the new dict stands while a and b are made -/
def tMrg (ta tb : TE) : TE := fun σ H Q => ∀ p, H p = none → ta σ (upd H p (.dK [])) fun x H1 => H1 p = some (.dK []) ∧ ∃ a ks, x = .ref a ∧ H1 a = some (.dK ks) ∧ a ≠ p ∧ ks.length ≤ 1000 ∧
  tb σ (upd H1 p (.dK (mergeK [] ks))) fun y H2 => H2 p = some (.dK (mergeK [] ks)) ∧ ∃ b ls, y = .ref b ∧ H2 b = some (.dK ls) ∧ b ≠ p ∧ ls.length ≤ 1000 ∧ Q (.ref p) (upd H2 p (.dK (mergeK (mergeK [] ks) ls)))
theorem mix_nref {P : Program} {w : World} (k : Key) (v : Value) (h : (mixKind P w).is k v = true) (a : Addr) : v ≠ .ref a := by
  intro e
  subst e
  rcases keyIs_shape h with ⟨i, t, e1, e2⟩ | ⟨x, t, e1, e2⟩ <;> cases e2
theorem merge_at {X : Cx} {pins : List (Addr × Obj)} {σ : St} {H : Hp} {s : Shared} {p a : Addr} {ks ls : List (Key × V)} {A : Around} {E : Value → Shared → Prop} {Q : Unit → Shared → Prop} (I : Inv X pins σ H s) (hp : H p = some (.dK ks)) (ha : H a = some (.dK ls)) (ne : a ≠ p)
    (hsz : ks.length + ls.length ≤ sizeLine) (h : ∀ s', Inv X pins σ (upd H p (.dK (mergeK ks ls))) s' → Q () s') : wpAny (model X.prog X.w) A (mergeMapping p (.ref a) false) Q E s := by
  obtain ⟨_, hd, vs, r, dd⟩ := dk_of I.hok hp
  obtain ⟨_, ho, us, r2, oo⟩ := dk_of I.hok ha
  refine wpAny_mergeMapping (knd := mixKind X.prog X.w) (Ne.symm ne) ho mix_nref dd oo (fun h' dd' _ hs => h _ ?_) (by rw [← r.length, ← r2.length]; exact hsz)
  have he : ∃ q, h'.get? p = some q := let ⟨q, _, _, hq, _⟩ := dd'; ⟨q, hq⟩
  exact d_write I (by rw [hp]; exact True.intro) hs he (dk_new (Nat.le_trans (length_mergeK ls ks) hsz) hd (r2.merge r) dd')
theorem pe_mrg {X : Cx} {ea eb : Expr} {ta tb : TE} {pos : Pos} (ha : PE X ea ta) (hb : PE X eb tb) : PE X (.Dict [none, none] [ea, eb] pos) (tMrg ta tb) := by
  refine ⟨fun pins s σ H Q I h => ?_⟩
  rw [arm_eval_Dict]
  refine wpAny_bind (wpAny_standAt ?_)
  have e : (evalEachOpt [none, none] X.env).zip ((evalEach [ea, eb] X.env).map fun v => do let x ← v; standAt pos; pure x) = [(none, do let x ← eval ea X.env; standAt pos; pure x), (none, do let x ← eval eb X.env; standAt pos; pure x)] := rfl
  rw [e]
  unfold dictDisplay
  dsimp only
  refine wpAny_bind ?_
  rw [List.forIn_cons]
  dsimp only
  rw [List.isEmpty_nil, if_pos rfl]
  have hn := I.hok.fresh (Nat.le_refl s.heap.objs.size)
  have I1 := I.laid (a := s.heap.objs.size) (o := .dK []) (h' := s.heap.push { cls := .type "dict", data := .dict #[] }) (t' := s.toks) (fun _ _ q => Heap.get?_push_of_some _ q) (Nat.le_refl _) (dk_empty s.heap I.big)
  refine wpAny_bind (wpAny_bind (wpAny_pure ?_))
  dsimp only
  refine wpAny_bind (wpAny_alloc ?_)
  refine wpAny_bind (wpAny_holding (wpAny_bind (thn (ha.run pins _ σ _ _ I1 (h _ hn)) fun u s1 ⟨x, H1, I2, rx, hp1, a, ks, ex, hka, ne, hk, q1⟩ => wpAny_bind (wpAny_standAt (wpAny_pure ?_)))))
  subst ex
  obtain rfl : u = Value.ref a := rx
  refine wpAny_bind (wpAny_onRaise (wpAny_tryCatch (wpAny_onRaise (wpAny_holding (merge_at I2 hp1 hka ne (by rw [List.length_nil, sizeLine_eq]; omega) fun s2 I3 => ?_)))))
  refine wpAny_pure ?_
  dsimp only
  rw [List.forIn_cons]
  dsimp only
  rw [List.isEmpty_nil, if_pos rfl]
  refine wpAny_bind (wpAny_bind (wpAny_pure ?_))
  dsimp only
  refine wpAny_bind (wpAny_pure ?_)
  refine wpAny_bind (wpAny_holding (wpAny_bind (thn (hb.run pins _ σ _ _ I3 q1) fun u s3 ⟨y, H2, I4, ry, hp2, b, ls, ey, hlb, nb, hl, q2⟩ => wpAny_bind (wpAny_standAt (wpAny_pure ?_)))))
  subst ey
  obtain rfl : u = Value.ref b := ry
  have hmk := length_mergeK ks []
  refine wpAny_bind (wpAny_onRaise (wpAny_tryCatch (wpAny_onRaise (wpAny_holding (merge_at I4 hp2 hlb nb (by rw [List.length_nil] at hmk; rw [sizeLine_eq]; omega) fun s4 I5 => ?_)))))
  refine wpAny_pure ?_
  dsimp only
  rw [List.forIn_nil]
  refine wpAny_pure ?_
  dsimp only
  rw [List.isEmpty_nil, if_pos rfl]
  refine wpAny_bind (wpAny_pure ?_)
  exact wpAny_pure ⟨.ref s.heap.objs.size, _, I5, rfl, q2⟩
/-! ### x in a tuple of data of any depth -/
section
open PySem.Spec PyProof.Rows
variable {X : Cx}
def rInDT (K : PySem.W.Frag) : R2 := fun x y H Q => ∃ d ds, Dp K H x d ∧ Dp K H y (.tuple ds) ∧ SeqAt.shaped d = true ∧ SeqAt.shaped (.tuple ds) = true ∧ Q (.bl (ds.any fun z => PyData.eqv z d)) H
def rNotInDT (K : PySem.W.Frag) : R2 := fun x y H Q => ∃ d ds, Dp K H x d ∧ Dp K H y (.tuple ds) ∧ SeqAt.shaped d = true ∧ SeqAt.shaped (.tuple ds) = true ∧ Q (.bl (!ds.any fun z => PyData.eqv z d)) H
theorem op_inDT (hu : X.A.units + 65 < cLine) : OpR X (compareOp .In) (rInDT X.K) := by
  intro pins s σ H x y v u Q I rx ry h
  obtain ⟨d, ds, hd, he, sd, se, q⟩ := h
  obtain ⟨as, r1⟩ := Dp.reads I d x v hd rx
  obtain ⟨bs, r2⟩ := Dp.reads I (.tuple ds) y u he ry
  exact SeqAt.in_tuple_reads r2 r1 (SeqAt.canLay_of_shaped se) (SeqAt.canLay_of_shaped sd) (room_in_shaped sd hu) ⟨.bl _, H, I, rfl, q⟩
theorem op_notInDT (hu : X.A.units + 65 < cLine) : OpR X (compareOp .NotIn) (rNotInDT X.K) := by
  intro pins s σ H x y v u Q I rx ry h
  obtain ⟨d, ds, hd, he, sd, se, q⟩ := h
  obtain ⟨as, r1⟩ := Dp.reads I d x v hd rx
  obtain ⟨bs, r2⟩ := Dp.reads I (.tuple ds) y u he ry
  exact SeqAt.notIn_tuple_reads r2 r1 (SeqAt.canLay_of_shaped se) (SeqAt.canLay_of_shaped sd) (room_in_shaped sd hu) ⟨.bl _, H, I, rfl, q⟩
end
end L2
set_option maxHeartbeats 4000000
/-! E14: a comprehension over zip of two tuples; a class's property as one fact. -/
namespace L2
open PySem PySem.Spec PyProof.Rows PySem.EX
theorem lc_zipT {K : PySem.W.Frag} {a b : Addr} {xs ys : List V} {g : TG} {tt : TT} {te : TE} {vs : List Nat} {σ : L2.St} {H1 : Hp} {D : Addr} {Q : VK} (Pv : Nat → Hp → Prop) (h0 : Pv 0 (upd H1 D (.lst [])))
    (hl : ∀ i H, Pv i H → SqT K H a xs ∧ SqT K H b ys) (hle : ys.length ≤ xs.length)
    (step : ∀ i x y H T, xs[i]? = some x → ys[i]? = some y → Pv i H → H T = none → g (.ref T) (wipe σ vs) (upd H T (.tup [x, y])) fun σ2 H2 => wipe σ2 vs = wipe σ vs ∧ tt σ2 H2 fun b H3 =>
      if b = true then te σ2 H3 fun y H4 => ∃ acc, H4 D = some (.lst acc) ∧ acc.length < sizeLine ∧ Pv (i + 1) (upd H4 D (.lst (acc ++ [y]))) else Pv (i + 1) H3)
    (done : ∀ H, Pv ys.length H → Q (.ref D) H) : ∃ W : Nat → Nat → Hp → Prop, (∃ m, W 0 m (upd H1 D (.lst []))) ∧ ∀ i m H, W i m H →
  ((RZ.ItzT K a b).stop i H ∧ Q (.ref D) H) ∨ ((RZ.ItzT K a b).go i H ∧ ∃ Nx : Hp → Prop, (∀ H', Nx H' → ∃ m', m' < m ∧ W (i + 1) m' H') ∧ ∀ x H', (RZ.ItzT K a b).yld i H x H' → g x (wipe σ vs) H' fun σ2 H2 => wipe σ2 vs = wipe σ vs ∧ tt σ2 H2 fun b H3 =>
    if b = true then te σ2 H3 fun y H4 => ∃ acc, H4 D = some (.lst acc) ∧ acc.length < sizeLine ∧ Nx (upd H4 D (.lst (acc ++ [y]))) else Nx H3) := by
  refine ⟨fun i m H => i ≤ ys.length ∧ m = ys.length - i ∧ Pv i H, ⟨_, Nat.zero_le _, rfl, h0⟩, ?_⟩
  rintro i m H ⟨hi, rfl, hp⟩
  obtain ⟨sx, sy⟩ := hl i H hp
  by_cases e : i = ys.length
  · subst e
    exact .inl ⟨⟨xs, ys, sx, sy, .inr (Nat.le_refl _)⟩, done H hp⟩
  · have hlt : i < ys.length := by omega
    have hx : xs[i]? = some (xs[i]'(by omega)) := List.getElem?_eq_getElem (by omega)
    have hy : ys[i]? = some ys[i] := List.getElem?_eq_getElem hlt
    refine .inr ⟨⟨xs, ys, _, _, sx, sy, hx, hy⟩, fun H' => Pv (i + 1) H', fun H' h => ⟨_, by omega, by omega, rfl, h⟩, ?_⟩
    rintro v H' ⟨T, x, y, rfl, hT, rfl, q1, q2⟩
    exact step i x y H T (q1 xs sx) (q2 ys sy) hp hT
/-- x == y by the own __eq__ -/
theorem op_eqI {X : Cx} {n : Nat} {CX : CXT} {C f : Addr} {fd : FuncData} {ps : List Str} {sp : Sp} {E : XK} (F : FnOk X.prog X.w X.K X.mg X.base CX n f fd ps sp)
    (hs : PySem.W.findIn X.K (.ref C) "__eq__" = some (some (.ref f))) (hf : PySem.W.isFn X.K (.ref f) = true) (hb : Binds X.K fd ps []) (hx : Passes CX X E) (hr : Room n X.A) : OpR X (compareOp .Eq) (rEqI C sp E false) := by
  intro pins s σ H x y v u Q I rx ry hq
  obtain ⟨a, b, dx, dy, fs, gs, rfl, rfl, ha, hb', q⟩ := hq
  cases rx
  cases ry
  obtain ⟨mA, J, _⟩ := ins_get I.hok ha
  obtain ⟨mB, J', _⟩ := ins_get I.hok hb'
  obtain ⟨od, J, _⟩ := J.look
  obtain ⟨od', J', _⟩ := J'.look
  obtain ⟨m, hF⟩ := I.fr
  show wpAny (model X.prog X.w) X.A (richCompare .Eq _ _) (EP X pins σ Q) X.xe s
  refine PySem.W.cmp_K (op := .Eq) (tb := .ref C) hr.units0 hF I.ok.mod.kin J J'.type (by simp [PySem.W.notFirst]) hs hf ?_
  have hl := F.len _ _ _ _ q
  have r2 : Vals [V.ref a, V.ref b] [Value.ref a, Value.ref b] := .cons rfl (.cons rfl .nil)
  refine wpAny_call (codeAny_mono (F.run X.A X.stack s H ⟨[.ref a, .ref b], []⟩ [.ref a, .ref b] [.ref a, .ref b] _ E hr I.env0 (by
    have := hb s [.ref a, .ref b] I.kIn (by simpa using hl)
    simpa using this) r2 q) fun r s' hq => ?_)
  cases r with
  | error e => exact hx pins σ H s e s' I hq
  | ok fl =>
    cases fl with
    | ret w =>
      obtain ⟨z, H', I', rz, c, ez, q'⟩ := I.after hq
      subst ez
      cases rz
      refine ⟨.bl c, H', I', rfl, ?_⟩
      have e : (c != false) = c := by cases c <;> rfl
      rw [← e]
      exact q'
    | next => exact False.elim hq
    | brk => exact False.elim hq
    | cont => exact False.elim hq
/-- a property of the class at C: its promise -/
structure PrB (P : Program) (w : World) (K : PySem.W.Frag) (mg : Str → Option Value) (base : Heap) (C : Addr) (k : Nat) (f : Str) (sp : Sp) : Prop where
  ex : ∃ p g fd, PropOf K C f p g ∧ FnOk P w K mg base CX0 k g fd ["self"] sp ∧ Binds K fd ["self"] []
theorem pe_prb {X : Cx} {e : Expr} {ta : TE} {f : Str} {sp : Sp} {C : Addr} {k : Nat} {pos : Pos} (he : PE X e ta) (c : Cls X.K C) (R : PrB X.prog X.w X.K X.mg X.base C k f sp) (hr : Room (k + 1) X.A) (hab : attributeBase e f X.env (eval e X.env) = eval e X.env := by rfl) :
    PE X (.Attribute e f pos) (tProp C sp [] E0 ta) := by
  obtain ⟨p, g, fd, hp, F, b⟩ := R.ex
  exact pe_prop he c hp F hr b .nil pass0 hab
end L2
set_option maxHeartbeats 4000000
namespace K24
open PySem L2 PySem.EX PyProof.Rows
structure TxD (K : PySem.W.Frag) (mg : Str → Option Value) : Prop where
  rising : Def K mg "is_rising" (top 16)
  asked : Def K mg "is_asked" (top 22)
  flipped : Def K mg "flipped_arrows" (top 49)
  right : Def K mg "deed_right" (top 50)
  behind : Def K mg "plan_behind" (top 51)
  zip : mg "zip" = none
  deeds : mg "DEEDS" = some (.ref (He.ga K "DEEDS")) ∧ ∀ H, SqT K H (He.ga K "DEEDS") [.str "may", .str "not", .str "flip"]
/-- it rises -/
def Rises (ns : List Int) : Prop := ∀ (i : Nat) (x y : Int), ns[i]? = some x → ns[i + 1]? = some y → x < y
section
variable {P : Program} {w : World} {K : PySem.W.Frag} {mg : Str → Option Value} {base : Heap}
theorem kit_tt : PySem.W.kitOne K (.type "tuple") (.type "tuple") = some true := by with_unfolding_all rfl
def spRis (K : PySem.W.Frag) : Sp := fun vs H Q _ => ∃ (a : Addr) (ns : List Int), vs = [.ref a] ∧ SqT K H a (ns.map V.int) ∧ Rises ns ∧ ns.length ≤ 100 ∧ ∀ H', Same H H' → Q (.bl true) H'
theorem scRis : FnScope ["several", "one", "other"] ["several"] (defScope (top 16)) := ⟨rfl, rfl, rfl, by decide +kernel, rfl, by decide +kernel, by decide +kernel⟩
theorem ris_tail {te : TE} {a b : Addr} {ns : List Int} {H1 : Hp} {Q : VK} (hte : ∀ (u : Option V) (x y : Int) (H : Hp) (Q : VK), x < y → Q (.bl true) H → te [u, some (.int x), some (.int y)] H Q)
    (hS : SqT K H1 a (ns.map V.int)) (hb : SqT K H1 b ((ns.drop 1).map V.int)) (ris : Rises ns) (hlen : ns.length ≤ 100) (k : ∀ H', Same H1 H' → Q (.bl true) H') :
    tLc (RZ.iZipA K (fun _ H k => k [.ref a, .ref b] H)) (gTup K 2 (gCons (gName 1) (gCons (gName 2) gNil))) tYes te [1, 2] [some (.ref a), none, none] H1 (fun v H2 => rAll K [v] H2 Q) := by
  refine ⟨a, b, ns.map V.int, (ns.drop 1).map V.int, rfl, .inr ⟨hS, hb, fun D hD => ?_⟩⟩
  refine lc_zipT (K := K) (xs := ns.map V.int) (ys := (ns.drop 1).map V.int) (σ := [some (.ref a), none, none]) (vs := [1, 2]) (g := gTup K 2 (gCons (gName 1) (gCons (gName 2) gNil))) (tt := tYes) (te := te) (Q := fun v H2 => rAll K [v] H2 Q) (fun i H2 => Same H1 H2 ∧ ∃ bs : List Bool, H2 D = some (.lst (bs.map V.bl)) ∧ bs.length ≤ i ∧ bs.all id = true)
    ⟨Same.upd hD, [], upd_same, Nat.le_refl _, rfl⟩ (fun i H h => ⟨hS.ext h.1, hb.ext h.1⟩) (by rw [List.length_map, List.length_map, List.length_drop]; omega) ?_ ?_
  · rintro i x y H2 T hx hy ⟨s2, bs, hz, hl, hb2⟩ hT
    obtain ⟨x', hx', rfl⟩ := map_get hx
    obtain ⟨y', hy', rfl⟩ := map_get hy
    have hi := (List.getElem?_eq_some_iff.mp hx').1
    rw [List.getElem?_drop, Nat.add_comm] at hy'
    have lt := ris i x' y' hx' hy'
    have sT := s2.put (D := T) (o := .tup [.int x', .int y']) (s2.free hT)
    have hz2 := (Same.upd (o := .tup [.int x', .int y']) hT) _ _ hz
    refine ⟨T, [.int x', .int y'], rfl, SqT.of upd_same, rfl, _, _, rfl, _, _, rfl, rfl, ?_⟩
    refine ⟨rfl, hte _ _ _ _ _ lt ⟨_, hz2, small1000 (by rw [List.length_map]; omega), ?_, bs ++ [true], ?_, by rw [List.length_append, List.length_singleton]; omega, by rw [List.all_append, hb2]; rfl⟩⟩
    · exact sT.put hD
    · rw [upd_same, ← map_snoc]
  · rintro H2 ⟨s2, bs, hz, hl, hb2⟩
    refine ⟨D, bs, rfl, SqL.of hz, ?_⟩
    rw [hb2]
    exact k _ s2
theorem ok_ris (T : TxP P K mg) (D : TxD K mg) : Fnc P w K mg base CX0 1 "is_rising" ["several"] (spRis K) := by
  refine fnc0 D.rising scRis (fun vs H Q E h => ?_) (fun _ _ _ _ _ _ us hl => match us, hl with | [_], _ => rfl) (fun cdv A outer s H vs Q E hr h => ?_)
  · obtain ⟨a, ns, rfl, _⟩ := h
    rfl
  · obtain ⟨a, ns, rfl, hS, ris, hlen, k⟩ := h
    refine ⟨_, pss_one (ps_ret (pe_callB (cr_all rfl) (by rfl) T.all (by decide +kernel) (pa_cons
      (pe_lc (own := [("one", 1), ("other", 2)]) (g := gTup K 2 (gCons (gName 1) (gCons (gName 2) gNil))) (tt := tYes) rfl scRis.nd (RZ.pi_zipA (by rfl) D.zip (pa_cons (pv 0) (pa_cons (pe_slice sl_tupA (pv 0) (po_some pe_int) po_none) pa_nil))) (blkOk_by (N := ["several", "one", "other"]) (sc := defScope (top 16)) (by decide +kernel))
        (fun _ _ _ _ _ => pg_tup rfl (pgs_cons (pg_name (i := 1) scRis.nd rfl (Or.inl rfl)) (pgs_cons (pg_name (i := 2) scRis.nd rfl (Or.inl rfl)) pgs_nil))) (fun _ _ _ _ _ => pts_nil)
        (fun _ _ _ _ _ => pe_cmpR op_lt (pv 1) (pv 2) (nomark _))) pa_nil))), ?_⟩
    have cmp : ∀ (u : Option V) (x y : Int) (H : Hp) (Q : VK), x < y → Q (.bl true) H → tOp (fun x y H Q => ∃ i j, x = .int i ∧ y = .int j ∧ Q (.bl (decide (i < j))) H) (tVar 1) (tVar 2) [u, some (.int x), some (.int y)] H Q := fun u x y H Q lt q => by
      refine ⟨_, rfl, _, rfl, _, _, rfl, rfl, ?_⟩
      rw [decide_eq_true lt]
      exact q
    refine ⟨_, rfl, _, rfl, _, rfl, a, ns.map V.int, rfl, hS, fun hf => ?_, fun hn p hp => ?_⟩
    · have e : ns.drop 1 = ns := by
        have h1 := hf.1
        cases ns with
        | nil => rfl
        | cons x t =>
          exfalso
          have : HT.sIx (List.map V.int (x :: t)).length 0 (some ((1 : Nat) : Int)) = 1 := by
            rw [HT.sIx_nat, List.length_map, List.length_cons]
            omega
          rw [show (some (1 : Int)) = some ((1 : Nat) : Int) from rfl, this] at h1
          cases h1
      exact ris_tail cmp hS (by rw [e]; exact hS) ris hlen k
    · have hb : SqT K (upd H p (.tup (cutV (ns.map V.int) (some 1) none))) p ((ns.drop 1).map V.int) := SqT.of (by
        rw [upd_same]
        unfold cutV
        rw [HT.sIx_none, show (some (1 : Int)) = some ((1 : Nat) : Int) from rfl, HT.sIx_nat, List.take_of_length_le (by rw [List.length_drop]; omega)]
        cases ns with
        | nil => rfl
        | cons x t => rw [show min 1 (List.map V.int (x :: t)).length = 1 by rw [List.length_map, List.length_cons]; omega, List.map_drop])
      exact ris_tail cmp (hS.ext (Same.upd hp)) hb ris hlen fun H' s => k H' ((Same.upd hp).trans s)
end
end K24
set_option maxHeartbeats 4000000
namespace K24
open PySem L2 PySem.EX PyProof.Rows
/-! ### deeds -/
inductive De where
  | flip (ns : List Int) | arr (may : Bool) (a : Ar)
def De.kind : De → Str
  | .flip _ => "flip" | .arr true _ => "may" | .arr false _ => "not"
def De.body : De → List Int
  | .flip ns => ns | .arr _ a => arL a
def DeedAt (H : Hp) (v : V) (d : De) : Prop := ∃ p q, v = .ref p ∧ H p = some (.tup [.str d.kind, .ref q]) ∧ H q = some (.tup (d.body.map V.int))
def okF (n : Int) (ns : List Int) : Prop := (∀ x ∈ ns, 0 ≤ x ∧ x < n) ∧ Rises ns ∧ ns.length ≤ 100
def Right (n : Int) (as : List Ar) : De → Prop
  | .flip ns => okF n ns | .arr m a => okA n a ∧ decide (a ∈ as) = !m
theorem DeedAt.keep {H H' : Hp} {v : V} {d : De} (h : DeedAt H v d) (k : ∀ b xs, H b = some (.tup xs) → H' b = some (.tup xs)) : DeedAt H' v d := by
  obtain ⟨p, q, e, h1, h2⟩ := h
  exact ⟨p, q, e, k _ _ h1, k _ _ h2⟩
section
variable {P : Program} {w : World} {K : PySem.W.Frag} {mg : Str → Option Value} {base : Heap}
def spAsk (K : PySem.W.Frag) : Sp := fun vs H Q _ => ∃ (n : Int) (a : Addr) (ns : List Int), vs = [.int n, .ref a] ∧ H a = some (.tup (ns.map V.int)) ∧ okF n ns ∧ ∀ H', Same H H' → Q (.bl true) H'
theorem scAsk : FnScope ["many", "thing", "switch"] ["many", "thing"] (defScope (top 22)) := ⟨rfl, rfl, rfl, by decide +kernel, rfl, by decide +kernel, by decide +kernel⟩
theorem ok_ask (T : TxP P K mg) (D : TxD K mg) : Fnc P w K mg base CX0 3 "is_asked" ["many", "thing"] (spAsk K) := by
  have GB : Fnc P w K mg base CX0 2 "is_between" ["thing", "low", "high"] spBtw := ok_btw T
  have GR : Fnc P w K mg base CX0 1 "is_rising" ["several"] (spRis K) := ok_ris T D
  refine fnc0 D.asked scAsk (fun vs H Q E h => ?_) (fun _ _ _ _ _ _ us hl => match us, hl with | [_, _], _ => rfl) (fun cdv A outer s H vs Q E hr h => ?_)
  · obtain ⟨n, a, ns, rfl, _⟩ := h
    rfl
  · obtain ⟨n, a, ns, rfl, ha, ⟨hin, ris, hlen⟩, k⟩ := h
    refine ⟨_, pss_cons (ps_if (PW.pt (pw_or (pt_not (pt_val (pe_callB call_isi (by rfl) T.isinst (by decide +kernel) (pa_cons (pv 1) (pa_cons (pe_ty (n := "tuple") T.tuple (by rfl) (by decide +kernel)) pa_nil)))))
        (pw_or1 (pt_not (pt_val (pe_callB (cr_all rfl) (by rfl) T.all (by decide +kernel) (pa_cons
          (pe_lc (own := [("switch", 2)]) (g := gName 2) (tt := tYes) rfl scAsk.nd (pi_tup (pv 1)) (blkOk_by (N := ["many", "thing", "switch"]) (sc := defScope (top 22)) (by decide +kernel))
            (fun _ _ _ _ _ => pg_name (i := 2) scAsk.nd rfl (Or.inl rfl)) (fun _ _ _ _ _ => pts_nil) (fun _ _ _ _ _ => pe_fn GB hr pass0 (pa_cons (pv 2) (pa_cons pe_int (pa_cons (pe_op op_sub (pv 0) pe_int) pa_nil))))) pa_nil)))))))
        (pss_one (ps_ret pe_bl)) pss_nil)
      (pss_one (ps_ret (pe_fn GR (hr.mono (by decide)) pass0 (pa_cons (pv 1) pa_nil)))), ?_⟩
    refine ⟨_, rfl, .ref a, .ty "tuple", _, _, true, rfl, .ty _, .base (.tup ha), kit_tt, _, rfl, iteF ?_⟩
    refine ⟨_, rfl, a, rfl, ⟨_, SqT.of ha⟩, fun D hD => lc_tup (K := K) (a := a) (xs := ns.map V.int) (fun i H2 => Same H H2 ∧ ∃ bs : List Bool, H2 D = some (.lst (bs.map V.bl)) ∧ bs.length ≤ i ∧ bs.all id = true) ⟨Same.upd hD, [], upd_same, Nat.le_refl _, rfl⟩ (fun i H2 _ h => SqT.of (h.1 _ _ ha)) ?_ ?_⟩
    · rintro i x H2 hx ⟨s2, bs, hz, hl, hb⟩
      obtain ⟨z, hz1, rfl⟩ := map_get hx
      have hi := (List.getElem?_eq_some_iff.mp hz1).1
      have hzz := hin z (List.mem_of_getElem? hz1)
      refine ⟨rfl, ?_⟩
      refine ⟨_, rfl, _, rfl, _, _, rfl, rfl, z, 0, n - 1, rfl, _, hz, small1000 (by rw [List.length_map]; omega), s2.put hD, bs ++ [true], ?_, by rw [List.length_append, List.length_singleton]; omega, by rw [List.all_append, hb]; rfl⟩
      rw [upd_same, ← map_snoc, decide_eq_true hzz.1, decide_eq_true (show z ≤ n - 1 by omega)]
      rfl
    · rintro H2 ⟨s2, bs, hz, hl, hb⟩
      refine ⟨D, bs, rfl, SqL.of hz, _, rfl, ?_⟩
      rw [hb]
      exact iteF ⟨_, rfl, a, ns, rfl, SqT.of (s2 _ _ ha), ris, hlen, fun H' s3 => k _ (s2.trans s3)⟩
/-! ### deed_right, of deeds that are right -/
def spDR (K : PySem.W.Frag) : Sp := fun vs H Q _ => ∃ (x : Addr) (v : V) (n : Int) (as : List Ar) (d : De), vs = [.ref x, v] ∧ PlanAt K H x n as ∧ DeedAt H v d ∧ Right n as d ∧ ∀ H', Same H H' → Q (.bl true) H'
theorem scDR : FnScope ["plan", "deed"] ["plan", "deed"] (defScope (top 50)) := ⟨rfl, rfl, rfl, by decide +kernel, rfl, by decide +kernel, by decide +kernel⟩
theorem eqv_mem (as : List Ar) (a : Ar) : ((as.map arD).any fun z => PyData.eqv z (arD a)) = decide (a ∈ as) := by
  induction as with
  | nil => simp
  | cons b t ih =>
    rw [List.map_cons, List.any_cons, ih, eqv_ar]
    by_cases e : b = a <;> by_cases e2 : a ∈ t <;> simp [e, e2, eq_comm]
    exact fun q => e q.symm
theorem kind_or (d : De) : d.kind = "flip" ∨ d.kind = "may" ∨ d.kind = "not" := by
  cases d with
  | flip ns => exact .inl rfl
  | arr m a => cases m
               · exact .inr (.inr rfl)
               · exact .inr (.inl rfl)
theorem kind_nf (m : Bool) (a : Ar) : decide (V.str (De.arr m a).kind = V.str (Str.ofString "flip")) = false := by
  cases m
  · show decide (V.str "not" = V.str (Str.ofString "flip")) = false
    decide +kernel
  · show decide (V.str "may" = V.str (Str.ofString "flip")) = false
    decide +kernel
theorem kind_not (m : Bool) (a : Ar) : decide (V.bl (!m) = V.bl (decide (V.str (De.arr m a).kind = V.str (Str.ofString "not")))) = true := by
  cases m
  · show decide (V.bl true = V.bl (decide (V.str "not" = V.str (Str.ofString "not")))) = true
    decide +kernel
  · show decide (V.bl false = V.bl (decide (V.str "may" = V.str (Str.ofString "not")))) = true
    decide +kernel
theorem shaped_ar (a : Ar) : SeqAt.shaped (arD a) = true := shaped_of (lay_ar a) (Nat.le_trans (dep_ar a) (by decide))
theorem ok_dr (T : TxP P K mg) (C : TxC K mg) (D : TxD K mg) : Fnc P w K mg base CX0 4 "deed_right" ["plan", "deed"] (spDR K) := by
  have GA : Fnc P w K mg base CX0 3 "is_asked" ["many", "thing"] (spAsk K) := ok_ask T D
  have GR : Fnc P w K mg base CX0 3 "is_arrow" ["switches", "thing"] spIsArrow := ok_isArrow T
  refine fnc0 D.right scDR (fun vs H Q E h => ?_) (fun _ _ _ _ _ _ us hl => match us, hl with | [_, _], _ => rfl) (fun cdv A outer s H vs Q E hr h => ?_)
  · obtain ⟨x, v, n, as, d, rfl, _⟩ := h
    rfl
  · obtain ⟨x, v, n, as, d, rfl, hpl, ⟨p, q, rfl, hp, hq⟩, rt, k⟩ := h
    have h2 := hr.mono (show 2 ≤ 3 by decide)
    refine ⟨_, pss_cons (ps_if (PW.pt (pw_or (pt_not (pt_val (pe_callB call_isi (by rfl) T.isinst (by decide +kernel) (pa_cons (pv 1) (pa_cons (pe_ty (n := "tuple") T.tuple (by rfl) (by decide +kernel)) pa_nil)))))
        (pw_or (pt_cmpR op_ne (pe_callB call_len_seq (by rfl) T.len PySem.boot_len (pa_cons (pv 1) pa_nil)) pe_int (nomark _))
        (pw_or (pt_not (pt_val (pe_callB call_isi (by rfl) T.isinst (by decide +kernel) (pa_cons (pe_ix ix_tup (pv 1) pe_int (fun _ _ => rfl)) (pa_cons (pe_ty (n := "str") T.str (by rfl) (by decide +kernel)) pa_nil)))))
        (pw_or1 (pt_cmpR op_notIn_seq (pe_ix ix_tup (pv 1) pe_int (fun _ _ => rfl)) (pe_glob (v := .ref (He.ga K "DEEDS")) (by rfl) D.deeds.1 rfl) (by with_unfolding_all rfl)))))))
        (pss_one (ps_ret pe_bl)) pss_nil)
      (pss_cons (ps_if (pt_cmpR op_eq (pe_ix ix_tup (pv 1) pe_int (fun _ _ => rfl)) pe_str (nomark _)) (pss_one (ps_ret (pe_fn GA hr pass0 (pa_cons (pe_prp (pv 0) C (prp_sw C) h2) (pa_cons (pe_ix ix_tup (pv 1) pe_int (fun _ _ => rfl)) pa_nil))))) pss_nil)
      (pss_one (ps_ret (pe_and (pe_fn GR hr pass0 (pa_cons (pe_prp (pv 0) C (prp_sw C) h2) (pa_cons (pe_ix ix_tup (pv 1) pe_int (fun _ _ => rfl)) pa_nil)))
        (pe_one (pe_cmpR op_eq (pe_cmpR (op_inDT (by have := hr.un; show (Around.deeper _ _).units + 65 < cLine; omega)) (pe_ix ix_tup (pv 1) pe_int (fun _ _ => rfl)) (pe_prp (pv 0) C (prp_ar C) h2) (by with_unfolding_all rfl)) (pe_cmpR op_eq (pe_ix ix_tup (pv 1) pe_int (fun _ _ => rfl)) pe_str (nomark _)) (nomark _))))))), ?_⟩
    obtain ⟨dx, t, ys, e1, e2, e3⟩ := hpl
    have hT := SqT.of (K := K) hp
    refine ⟨_, rfl, .ref p, .ty "tuple", _, _, true, rfl, .ty _, .base (.tup hp), kit_tt, _, rfl, iteF ?_⟩
    refine ⟨_, rfl, p, _, rfl, .inr hT, rfl, _, rfl, iteF ?_⟩
    refine ⟨_, rfl, p, _, (0 : Int), .str d.kind, rfl, rfl, hT, rfl, .str d.kind, .ty "str", _, _, true, rfl, .ty _, .base (.str _), by with_unfolding_all rfl, _, rfl, iteF ?_⟩
    refine ⟨_, rfl, p, _, (0 : Int), .str d.kind, rfl, rfl, hT, rfl, _, _, rfl, .inr (D.deeds.2 H), rfl, rfl, _, rfl, ?_⟩
    have hin : inV (.str d.kind) [.str "may", .str "not", .str "flip"] = true := by
      have h3 : ∀ k : Str, k = "flip" ∨ k = "may" ∨ k = "not" → inV (.str k) [.str "may", .str "not", .str "flip"] = true := by
        intro k h
        rcases h with rfl | rfl | rfl <;> decide +kernel
      exact h3 _ (kind_or d)
    rw [hin]
    refine iteF ?_
    refine ⟨_, rfl, p, _, (0 : Int), .str d.kind, rfl, rfl, hT, rfl, rfl, _, rfl, ?_⟩
    cases d with
    | flip ns =>
      rw [show decide (V.str (De.flip ns).kind = V.str (Str.ofString "flip")) = true from by show decide (V.str "flip" = V.str (Str.ofString "flip")) = true; decide +kernel]
      exact iteT ⟨_, rfl, x, dx, _, rfl, e1, x, dx, _, .int n, rfl, e1, rfl, _, rfl, p, _, (1 : Int), .ref q, rfl, rfl, hT, rfl, n, q, ns, rfl, hq, rt, k⟩
    | arr m a =>
      rw [show decide (V.str (De.arr m a).kind = V.str (Str.ofString "flip")) = false from kind_nf m a]
      refine iteF ⟨_, rfl, x, dx, _, rfl, e1, x, dx, _, .int n, rfl, e1, rfl, _, rfl, p, _, (1 : Int), .ref q, rfl, rfl, hT, rfl, n, .ref q, a, rfl, ⟨q, rfl, hq⟩, rt.1, fun H' s1 => ⟨true, rfl, iteT ?_⟩⟩
      have hT' := SqT.of (K := K) (s1 _ _ hp)
      refine ⟨_, rfl, p, _, (1 : Int), .ref q, rfl, rfl, hT', rfl, _, rfl, x, dx, _, rfl, s1 _ _ e1, x, dx, _, .ref t, rfl, s1 _ _ e1, rfl, arD a, as.map arD, ArV.dp ⟨q, rfl, s1 _ _ hq⟩, .tup (SqT.of (s1 _ _ e2)) (e3.keep s1.tups).dp, shaped_ar a, shaped_ars as, ?_⟩
      refine ⟨_, rfl, p, _, (0 : Int), .str (De.arr m a).kind, rfl, rfl, hT', rfl, rfl, rfl, ?_⟩
      rw [eqv_mem, rt.2]
      have e : decide (V.bl (!m) = V.bl (decide (V.str (De.arr m a).kind = V.str (Str.ofString "not")))) = true := kind_not m a
      rw [e]
      exact k _ s1
end
end K24
set_option maxHeartbeats 4000000
namespace K24
open PySem L2 PySem.EX PyProof.Rows
theorem inV_ints (u : Int) (l : List Int) : inV (.int u) (l.map V.int) = decide (u ∈ l) := by
  unfold inV
  rw [List.any_map]
  induction l with
  | nil => simp
  | cons a t ih =>
    rw [List.any_cons, ih]
    have e : ((fun y => eqV y (V.int u)) ∘ V.int) a = decide (a = u) := by
      show eqV (V.int a) (V.int u) = _
      unfold eqV
      simp [Bool.beq_eq_decide_eq]
    rw [e]
    by_cases h : a = u <;> by_cases h2 : u ∈ t <;> simp [h, h2]
    exact fun q => h q.symm
theorem flat_ints (l : List Int) : (l.map V.int).all flatV = true := by
  rw [List.all_map]
  exact List.all_eq_true.mpr fun x _ => rfl
/-- an arrow behind a flip -/
def flipA (ns : List Int) (a : Ar) : Ar := (a.1, a.2.1, if decide (a.1 ∈ ns) = decide (a.2.1 ∈ ns) then a.2.2 else -a.2.2)
section
variable {P : Program} {w : World} {K : PySem.W.Frag} {mg : Str → Option Value} {base : Heap}
def spFl (K : PySem.W.Frag) : Sp := fun vs H Q _ => ∃ (t q : Addr) (ys : List V) (as : List Ar) (ns : List Int), vs = [.ref t, .ref q] ∧ H t = some (.tup ys) ∧ Ars H ys as ∧ H q = some (.tup (ns.map V.int)) ∧ as.length ≤ 1000 ∧
  ∀ (l : Addr) (zs : List V) H', Same H H' → H l = none → H' l = some (.lst zs) → Ars H' zs (as.map (flipA ns)) → Q (.ref l) H'
theorem scFl : FnScope ["arrows", "asked", "found", "source", "target", "sign"] ["arrows", "asked"] (defScope (top 49)) := ⟨rfl, rfl, rfl, by decide +kernel, rfl, by decide +kernel, by decide +kernel⟩
theorem ok_fl (D : TxD K mg) : Fnc P w K mg base CX0 1 "flipped_arrows" ["arrows", "asked"] (spFl K) := by
  refine fnc0 D.flipped scFl (fun vs H Q E h => ?_) (fun _ _ _ _ _ _ us hl => match us, hl with | [_, _], _ => rfl) (fun cdv A outer s H vs Q E hr h => ?_)
  · obtain ⟨t, q, ys, as, ns, rfl, _⟩ := h
    rfl
  · obtain ⟨t, q, ys, as, ns, rfl, ht, hA, hq, hlen, k⟩ := h
    refine ⟨_, pss_cons (ps_set (i := 2) scFl.nd rfl (Or.inl rfl) (pe_lst pa_nil))
      (pss_cons (ps_for PassesOwn.never rfl (pi_tup (pv 0)) (pg_tup rfl (pgs_cons (pg_name (i := 3) scFl.nd rfl (Or.inl rfl)) (pgs_cons (pg_name (i := 4) scFl.nd rfl (Or.inl rfl)) (pgs_cons (pg_name (i := 5) scFl.nd rfl (Or.inl rfl)) pgs_nil))))
        (pss_one (ps_expr (pe_bm PySem.F.plainAttrs_list PySem.F.slot_list_append PySem.F.type_list_append mt_append (pv 2) (pa_cons (pe_tup (pa_cons (pv 3) (pa_cons (pv 4) (pa_cons (pe_ifExp (pt_cmpR op_eq (pe_cmpR op_in_seq (pv 3) (pv 1) (by with_unfolding_all rfl)) (pe_cmpR op_in_seq (pv 4) (pv 1) (by with_unfolding_all rfl)) (nomark _)) (pv 5) (pe_op op_sub pe_int (pv 5))) pa_nil)))) pa_nil)))))
      (pss_one (ps_ret (pv 2)))), ?_⟩
    refine ⟨(by decide), fun l hl => ?_⟩
    refine ⟨_, rfl, t, rfl, ⟨_, SqT.of ((Same.upd hl) _ _ ht)⟩, for_tup (K := K) (a := t) (xs := ys) (fun i σ H2 => ∃ u3 u4 u5 zs, σ = [some (.ref t), some (.ref q), some (.ref l), u3, u4, u5] ∧ Same H H2 ∧ H2 l = some (.lst zs) ∧ Ars H2 zs ((as.take i).map (flipA ns))) ⟨_, _, _, [], rfl, Same.upd hl, upd_same, .nil⟩ (fun i σ H2 _ h => ?_) ?_ ?_⟩
    · obtain ⟨u3, u4, u5, zs, _, s2, _⟩ := h
      exact SqT.of (s2 _ _ ht)
    · rintro i x σ H2 hx ⟨u3, u4, u5, zs, rfl, s2, hz, hzA⟩
      obtain ⟨b, hb, pb, rfl, hv⟩ := Ars.get hA hx
      obtain ⟨b1, b2, b3⟩ := b
      refine ⟨pb, _, rfl, SqT.of (s2 _ _ hv), rfl, _, _, rfl, _, _, rfl, _, _, rfl, rfl, ?_⟩
      refine ⟨_, rfl, .inl ⟨rfl, _, SqL.of hz⟩, ?_⟩
      have hq2 := s2 _ _ hq
      have hi := (List.getElem?_eq_some_iff.mp hb).1
      have adv : ∀ (T : Addr) (z : Int), H2 T = none → z = (flipA ns (b1, b2, b3)).2.2 → Same H (upd (upd H2 T (.tup [.int b1, .int b2, .int z])) l (.lst (zs ++ [.ref T]))) ∧ (upd (upd H2 T (.tup [.int b1, .int b2, .int z])) l (.lst (zs ++ [.ref T]))) l = some (.lst (zs ++ [.ref T])) ∧
          Ars (upd (upd H2 T (.tup [.int b1, .int b2, .int z])) l (.lst (zs ++ [.ref T]))) (zs ++ [.ref T]) ((as.take (i + 1)).map (flipA ns)) := fun T z hT ez => by
        have sT : Same H2 (upd H2 T (.tup [.int b1, .int b2, .int z])) := Same.upd hT
        have kt : ∀ b xs, (upd H2 T (.tup [.int b1, .int b2, .int z])) b = some (.tup xs) → (upd (upd H2 T (.tup [.int b1, .int b2, .int z])) l (.lst (zs ++ [.ref T]))) b = some (.tup xs) := fun b xs e => by
          rw [upd_ne (ne_of e (sT _ _ hz) (by intro q; cases q))]
          exact e
        refine ⟨(s2.trans sT).put hl, upd_same, ?_⟩
        rw [List.take_succ, hb, List.map_append]
        refine Paired.snoc ((hzA.keep sT.tups).keep kt) ⟨T, rfl, kt _ _ ?_⟩
        rw [upd_same, ez]
        rfl
      have small : zs.length ≤ 1000 := by
        have := hzA.length
        rw [List.length_map, List.length_take] at this
        omega
      refine ⟨_, rfl, _, rfl, _, rfl, _, rfl, q, _, rfl, .inr (SqT.of hq2), rfl, flat_ints ns, ?_⟩
      refine ⟨_, rfl, _, rfl, q, _, rfl, .inr (SqT.of hq2), rfl, flat_ints ns, rfl, _, rfl, ?_⟩
      refine ite2 (fun hc => ?_) (fun hc => ?_)
      · have hc2 := of_decide_eq_true hc
        refine ⟨_, rfl, (by show 3 ≤ sizeLine; decide), fun T hT => ⟨l, zs, _, rfl, rfl, (Same.upd hT) _ _ hz, small1000 small, _, _, _, _, rfl, adv T b3 hT ?_⟩⟩
        have h3 : inV (.int b1) (ns.map V.int) = inV (.int b2) (ns.map V.int) := V.bl.inj hc2
        rw [inV_ints, inV_ints] at h3
        show b3 = if decide (b1 ∈ ns) = decide (b2 ∈ ns) then b3 else -b3
        rw [if_pos h3]
      · have hc2 : ¬ V.bl (inV (.int b1) (ns.map V.int)) = V.bl (inV (.int b2) (ns.map V.int)) := fun e => hc (decide_eq_true e)
        refine ⟨_, rfl, _, _, rfl, rfl, (by show 3 ≤ sizeLine; decide), fun T hT => ⟨l, zs, _, rfl, rfl, (Same.upd hT) _ _ hz, small1000 small, _, _, _, _, rfl, adv T (0 - b3) hT ?_⟩⟩
        have h3 : ¬ decide (b1 ∈ ns) = decide (b2 ∈ ns) := fun e => hc2 (by
          show V.bl (inV (.int b1) (ns.map V.int)) = V.bl (inV (.int b2) (ns.map V.int))
          rw [inV_ints, inV_ints, e])
        show 0 - b3 = if decide (b1 ∈ ns) = decide (b2 ∈ ns) then b3 else -b3
        rw [if_neg h3]
        omega
    · rintro σ H2 ⟨u3, u4, u5, zs, rfl, s2, hz, hzA⟩
      rw [hA.length, List.take_of_length_le (Nat.le_refl _)] at hzA
      exact ⟨_, rfl, k l zs H2 s2 hl hz hzA⟩
end
end K24
set_option maxHeartbeats 4000000
namespace K24
open PySem L2 PySem.EX PyProof.Rows
/-- the arrows behind a deed -/
def nextA (as : List Ar) : De → List Ar
  | .flip ns => (as.map (flipA ns)).mergeSort le3
  | .arr true a => (as ++ [a]).mergeSort le3
  | .arr false a => (as.filter fun b => !decide (b = a)).mergeSort le3
structure PlOk (n : Int) (as : List Ar) : Prop where
  n0 : 1 ≤ n
  n1 : n ≤ 5
  ok : ∀ a ∈ as, okA n a
  nd : as.Nodup
theorem flipA_inj (ns : List Int) {a b : Ar} (h : flipA ns a = flipA ns b) : a = b := by
  obtain ⟨a1, a2, a3⟩ := a
  obtain ⟨b1, b2, b3⟩ := b
  unfold flipA at h
  simp only [Prod.mk.injEq] at h
  obtain ⟨rfl, rfl, h3⟩ := h
  split at h3
  · rw [h3]
  · rw [show a3 = b3 by omega]
theorem nodup_map {α β : Type} {f : α → β} (inj : ∀ a b, f a = f b → a = b) : ∀ {l : List α}, l.Nodup → (l.map f).Nodup
  | [], _ => List.nodup_nil
  | a :: l, h => by
    obtain ⟨h1, h2⟩ := List.nodup_cons.mp h
    rw [List.map_cons, List.nodup_cons]
    refine ⟨fun q => ?_, nodup_map inj h2⟩
    obtain ⟨b, hb, e⟩ := List.mem_map.mp q
    exact h1 (by rw [← inj b a e]; exact hb)
theorem ok_flipA {n : Int} {a : Ar} (ns : List Int) (h : okA n a) : okA n (flipA ns a) := by
  obtain ⟨a1, a2, a3⟩ := a
  obtain ⟨h1, h2, h3, h4, h5⟩ := h
  refine ⟨h1, h2, h3, h4, ?_⟩
  unfold flipA
  dsimp only at h5 ⊢
  split
  · exact h5
  · omega
theorem raw_ok {n : Int} {as : List Ar} {d : De} (P : PlOk n as) (R : Right n as d) : ∀ bs : List Ar, bs = (match d with
  | .flip ns => as.map (flipA ns)
  | .arr true a => as ++ [a]
  | .arr false a => as.filter fun b => !decide (b = a)) → (∀ a ∈ bs, okA n a) ∧ bs.Nodup ∧ bs.length ≤ as.length + 1 := by
  intro bs e
  cases d with
  | flip ns =>
    subst e
    refine ⟨fun a ha => ?_, nodup_map (fun _ _ => flipA_inj ns) P.nd, by rw [List.length_map]; omega⟩
    obtain ⟨b, hb, rfl⟩ := List.mem_map.mp ha
    exact ok_flipA ns (P.ok b hb)
  | arr m a =>
    cases m
    · subst e
      exact ⟨fun b hb => P.ok b (List.mem_filter.mp hb).1, P.nd.filter _, Nat.le_trans (List.length_filter_le ..) (by omega)⟩
    · subst e
      obtain ⟨r1, r2⟩ := R
      have na : a ∉ as := of_decide_eq_false (by rw [r2]; rfl)
      refine ⟨fun b hb => ?_, ?_, by rw [List.length_append, List.length_singleton]; omega⟩
      · rcases List.mem_append.mp hb with h | h
        · exact P.ok b h
        · rw [List.mem_singleton.mp h]; exact r1
      · rw [List.nodup_append]
        refine ⟨P.nd, by simp, fun x hx y hy => ?_⟩
        rw [List.mem_singleton.mp hy]
        intro e
        rw [e] at hx
        exact na hx
theorem next_ok {n : Int} {as : List Ar} {d : De} (P : PlOk n as) (R : Right n as d) : PlOk n (nextA as d) ∧ (nextA as d).length ≤ as.length + 1 := by
  obtain ⟨h1, h2, h3⟩ := raw_ok P R _ rfl
  have e : ∀ bs : List Ar, (∀ a ∈ bs, okA n a) → bs.Nodup → bs.length ≤ as.length + 1 → PlOk n (bs.mergeSort le3) ∧ (bs.mergeSort le3).length ≤ as.length + 1 := fun bs q1 q2 q3 =>
    ⟨⟨P.n0, P.n1, fun a ha => q1 a (List.mem_mergeSort.mp ha), (List.mergeSort_perm bs le3).symm.nodup q2⟩, by rw [List.length_mergeSort]; exact q3⟩
  cases d with
  | flip ns => exact e _ h1 h2 h3
  | arr m a => cases m <;> exact e _ h1 h2 h3
section
variable {P : Program} {w : World} {K : PySem.W.Frag} {mg : Str → Option Value} {base : Heap}
theorem mk_plan {G : Hp} {x dx L : Addr} {zs : List V} {bs : List Ar} {n : Int} {Q : Hp → Prop} {E : XK} (hx : G x = none) (hdx : G dx = none) (hne : dx ≠ x) (hL : G L = some (.lst zs)) (hA : Ars G zs bs) (n0 : 1 ≤ n) (n1 : n ≤ 5) (ok : ∀ a ∈ bs, okA n a) (nd : bs.Nodup) (lt : bs.length < 1000)
    (k : ∀ H', Same G H' → PlanAt K H' x n (bs.mergeSort le3) → Q H') : spInit K [.ref x, .int n, .ref L] (upd (upd G dx (.own x)) x (.ins (cP K) dx [])) (fun v H' => v = .non ∧ Q H') E := by
  have e6 : Same G (upd (upd G dx (.own x)) x (.ins (cP K) dx [])) := (Same.upd hdx).trans (Same.upd (by rw [upd_ne (Ne.symm hne)]; exact hx))
  exact ⟨x, dx, n, L, zs, bs, rfl, upd_same, n0, n1, .base (.lst (e6 _ _ hL)), SqL.of (e6 _ _ hL), hA.keep e6.tups, ok, nd, lt, fun H7 hk hpl => ⟨rfl, k H7 (fun b o hb => hk b o (ne_of_none hb hx) (e6 _ _ hb)) hpl⟩⟩
def spPB (K : PySem.W.Frag) : Sp := fun vs H Q _ => ∃ (x : Addr) (v : V) (n : Int) (as : List Ar) (d : De), vs = [.ref x, v] ∧ PlanAt K H x n as ∧ DeedAt H v d ∧ Right n as d ∧ PlOk n as ∧ as.length < 900 ∧ ∀ (y : Addr) H', Same H H' → H y = none → PlanAt K H' y n (nextA as d) → Q (.ref y) H'
theorem scPB : FnScope ["plan", "deed", "arrow"] ["plan", "deed"] (defScope (top 51)) := ⟨rfl, rfl, rfl, by decide +kernel, rfl, by decide +kernel, by decide +kernel⟩
theorem ok_pb (T : TxP P K mg) (C : TxC K mg) (D : TxD K mg) : Fnc P w K mg base CX0 7 "plan_behind" ["plan", "deed"] (spPB K) := by
  obtain ⟨fdI, FI, hbI⟩ := ok_init (P := P) (w := w) (base := base) T C
  have GF : Fnc P w K mg base CX0 1 "flipped_arrows" ["arrows", "asked"] (spFl K) := ok_fl D
  refine fnc0 D.behind scPB (fun vs H Q E h => ?_) (fun _ _ _ _ _ _ us hl => match us, hl with | [_, _], _ => rfl) (fun cdv A outer s H vs Q E hr h => ?_)
  · obtain ⟨x, v, n, as, d, rfl, _⟩ := h
    rfl
  · obtain ⟨x, v, n, as, d, rfl, hpl, ⟨p, q, rfl, hp, hq⟩, rt, PL, hlen, k⟩ := h
    have h1 := hr.mono (show 1 ≤ 6 by decide)
    have h2 := hr.mono (show 2 ≤ 6 by decide)
    refine ⟨_, pss_cons (ps_if (pt_cmpR op_eq (pe_ix ix_tup (pv 1) pe_int (fun _ _ => rfl)) pe_str (nomark _)) (pss_one (ps_ret (pe_make (E := E0) C.mkr FI hr (by rfl) C.glo hbI .nil pass0 (pa_cons (pe_prp (pv 0) C (prp_sw C) h2) (pa_cons (pe_lst (StX.pa_star (pe_prp (pv 0) C (prp_ar C) h2) (pa_cons (pe_ix ix_tup (pv 1) pe_int (fun _ _ => rfl)) pa_nil))) pa_nil))))) pss_nil)
      (pss_cons (ps_if (pt_cmpR op_eq (pe_ix ix_tup (pv 1) pe_int (fun _ _ => rfl)) pe_str (nomark _)) (pss_one (ps_ret (pe_make (E := E0) C.mkr FI hr (by rfl) C.glo hbI .nil pass0 (pa_cons (pe_prp (pv 0) C (prp_sw C) h2) (pa_cons
        (pe_lc (own := [("arrow", 2)]) (g := gName 2) rfl scPB.nd (pi_tup (pe_prp (pv 0) C (prp_ar C) h2)) (blkOk_by (N := ["plan", "deed", "arrow"]) (sc := defScope (top 51)) (by decide +kernel))
          (fun _ _ _ _ _ => pg_name (i := 2) scPB.nd rfl (Or.inl rfl)) (fun _ _ _ _ _ => pts_one (pt_cmpR (r := rNeD K) (op_neD hr.units) (pv 2) (pe_ix (r := rIxT K) ix_tup (pv 1) pe_int (fun _ _ => rfl)) (nomark _))) (fun _ _ _ _ _ => pv 2)) pa_nil))))) pss_nil)
      (pss_one (ps_ret (pe_make (E := E0) C.mkr FI hr (by rfl) C.glo hbI .nil pass0 (pa_cons (pe_prp (pv 0) C (prp_sw C) h2) (pa_cons (pe_fn GF h1 pass0 (pa_cons (pe_prp (pv 0) C (prp_ar C) h2) (pa_cons (pe_ix ix_tup (pv 1) pe_int (fun _ _ => rfl)) pa_nil))) pa_nil)))))), ?_⟩
    obtain ⟨dx, t, ys, e1, e2, e3⟩ := hpl
    have hT := SqT.of (K := K) hp
    have prS : ∀ {G : Hp} {Q : VK}, Same H G → Q (.int n) G → tProp (cP K) (getSp (cP K) "own_switches") [] E0 (tVar 0) [some (.ref x), some (.ref p), none] G Q := fun {G Q} s1 q1 => ⟨_, rfl, x, dx, _, rfl, s1 _ _ e1, x, dx, _, .int n, rfl, s1 _ _ e1, rfl, q1⟩
    have prA : ∀ {G : Hp} {Q : VK}, Same H G → Q (.ref t) G → tProp (cP K) (getSp (cP K) "own_arrows") [] E0 (tVar 0) [some (.ref x), some (.ref p), none] G Q := fun {G Q} s1 q1 => ⟨_, rfl, x, dx, _, rfl, s1 _ _ e1, x, dx, _, .ref t, rfl, s1 _ _ e1, rfl, q1⟩
    refine ⟨_, rfl, p, _, (0 : Int), .str d.kind, rfl, rfl, hT, rfl, rfl, _, rfl, ?_⟩
    cases d with
    | flip ns =>
      obtain ⟨r1, r2, r3⟩ := raw_ok PL rt (as.map (flipA ns)) rfl
      rw [show decide (V.str (De.flip ns).kind = V.str (Str.ofString "may")) = false from by show decide (V.str "flip" = V.str (Str.ofString "may")) = false; decide +kernel]
      refine iteF ⟨_, rfl, p, _, (0 : Int), .str (De.flip ns).kind, rfl, rfl, hT, rfl, rfl, _, rfl, ?_⟩
      rw [show decide (V.str (De.flip ns).kind = V.str (Str.ofString "not")) = false from by show decide (V.str "flip" = V.str (Str.ofString "not")) = false; decide +kernel]
      refine iteF (prS same_refl (prA same_refl ⟨_, rfl, p, _, (1 : Int), .ref q, rfl, rfl, hT, rfl, t, q, ys, as, ns, rfl, e2, e3, hq, by omega, fun l zs H1 s1 hl hzl hzA => fun y dy hy hdy hne => ?_⟩))
      exact mk_plan hy hdy hne hzl hzA PL.n0 PL.n1 r1 r2 (by omega) fun H' s2 pl => k y H' (s1.trans s2) (s1.free hy) pl
    | arr m a =>
      cases m
      · obtain ⟨r1, r2, r3⟩ := raw_ok PL rt (as.filter fun b => !decide (b = a)) rfl
        rw [show decide (V.str (De.arr false a).kind = V.str (Str.ofString "may")) = false from by show decide (V.str "not" = V.str (Str.ofString "may")) = false; decide +kernel]
        refine iteF ⟨_, rfl, p, _, (0 : Int), .str (De.arr false a).kind, rfl, rfl, hT, rfl, rfl, _, rfl, ?_⟩
        rw [show decide (V.str (De.arr false a).kind = V.str (Str.ofString "not")) = true from by show decide (V.str "not" = V.str (Str.ofString "not")) = true; decide +kernel]
        refine iteT (prS same_refl (prA same_refl ⟨t, rfl, ⟨_, SqT.of e2⟩, fun D hD => lc_tup (K := K) (a := t) (xs := ys) (fun i H2 => Same H H2 ∧ ∃ zs, H2 D = some (.lst zs) ∧ Ars H2 zs ((as.take i).filter fun b => !decide (b = a))) ⟨Same.upd hD, [], upd_same, .nil⟩ (fun i H2 _ h => SqT.of (h.1 _ _ e2)) ?_ ?_⟩))
        · rintro i z H2 hz ⟨s2, zs, hzl, hzA⟩
          obtain ⟨b, hb, pb, rfl, hv⟩ := Ars.get e3 hz
          have hi := (List.getElem?_eq_some_iff.mp hb).1
          refine ⟨rfl, ?_⟩
          refine ⟨_, rfl, _, rfl, p, _, (1 : Int), .ref q, rfl, rfl, SqT.of (s2 _ _ hp), rfl, arD b, arD a, ArV.dp ⟨pb, rfl, s2 _ _ hv⟩, ArV.dp ⟨q, rfl, s2 _ _ hq⟩, shaped_ar b, shaped_ar a, _, rfl, ?_⟩
          rw [eqv_ar]
          have stp : (as.take (i + 1)).filter (fun b => !decide (b = a)) = (as.take i).filter (fun b => !decide (b = a)) ++ if (!decide (b = a)) = true then [b] else [] := by
            rw [List.take_succ, hb, List.filter_append]
            congr 1
            simp [List.filter_cons]
          refine ite2 (fun hc => ?_) (fun hc => ?_)
          · rw [if_pos hc] at stp
            refine ⟨_, rfl, zs, hzl, small1000 (by have := hzA.length; have := List.length_filter_le (fun b => !decide (b = a)) (as.take i); rw [List.length_take] at this; omega), s2.put hD, zs ++ [.ref pb], upd_same, ?_⟩
            rw [stp]
            refine Paired.snoc (hzA.keep fun b xs e => ?_) ⟨pb, rfl, ?_⟩
            · rw [upd_ne (ne_of e hzl (by intro q; cases q))]; exact e
            · have e := s2 _ _ hv
              rw [upd_ne (ne_of e hzl (by intro q; cases q))]; exact e
          · rw [if_neg hc, List.append_nil] at stp
            exact ⟨s2, zs, hzl, by rw [stp]; exact hzA⟩
        · rintro H2 ⟨s2, zs, hzl, hzA⟩
          rw [e3.length, List.take_of_length_le (Nat.le_refl _)] at hzA
          intro y dy hy hdy hne
          exact mk_plan hy hdy hne hzl hzA PL.n0 PL.n1 r1 r2 (by omega) fun H' s3 pl => k y H' (s2.trans s3) (s2.free hy) pl
      · obtain ⟨r1, r2, r3⟩ := raw_ok PL rt (as ++ [a]) rfl
        rw [show decide (V.str (De.arr true a).kind = V.str (Str.ofString "may")) = true from by show decide (V.str "may" = V.str (Str.ofString "may")) = true; decide +kernel]
        refine iteT (prS same_refl (prA same_refl ⟨t, ys, rfl, .inl (SqT.of e2), _, rfl, p, _, (1 : Int), .ref q, rfl, rfl, hT, rfl, line1000 (by rw [List.length_append, e3.length, List.length_singleton]; omega), fun L hL => fun y dy hy hdy hne => ?_⟩))
        have sL : Same H (upd H L (.lst (ys ++ [.ref q]))) := Same.upd hL
        exact mk_plan hy hdy hne upd_same (Paired.snoc (e3.keep sL.tups) ⟨q, rfl, sL _ _ hq⟩) PL.n0 PL.n1 r1 r2 (by omega) fun H' s3 pl => k y H' (sL.trans s3) (sL.free hy) pl
end
end K24
set_option maxHeartbeats 4000000
namespace K24
open PySem L2 PySem.EX PyProof.Rows
abbrev bst (i : Nat) : Stmt := (clsBody (top 54)).getD i (.Pass ⟨0, 0, 0, 0⟩)
abbrev cB (K : PySem.W.Frag) : Addr := He.ga K "Planbook"
def Mth (K : PySem.W.Frag) (C q m : Str) (st : Stmt) : Prop := ∃ fd, FunD K m q (defArgs st) (defBody st) (defScope st) [] [] (He.ma K (He.ga K C) m) fd
def Pty (K : PySem.W.Frag) (C q f : Str) (st : Stmt) : Prop := ∃ p g fd, PropOf K (He.ga K C) f p g ∧ FunD K f q (defArgs st) (defBody st) (defScope st) [] [] g fd
structure TxB (prog : Program) (K : PySem.W.Frag) (mg : Str → Option Value) : Prop where
  bGlo : mg "Planbook" = some (.ref (cB K))
  bCls : Cls K (cB K)
  bMk : Mk K (cB K) (He.ma K (cB K) "__init__")
  bInit : Mth K "Planbook" "Planbook.__init__" "__init__" (bst 0)
  bP : NoAttr K (cB K) "own_plans"
  bD : NoAttr K (cB K) "own_deeds"
  bL : NoAttr K (cB K) "own_later"
  bSw : Pty K "Planbook" "Planbook.switches" "switches" (bst 1)
  bPl : Pty K "Planbook" "Planbook.plan" "plan" (bst 2)
  mDo : Meth K (cB K) "do" (He.ma K (cB K) "do")
  fDo : Mth K "Planbook" "Planbook.do" "do" (bst 3)
  mRedo : Meth K (cB K) "redo" (He.ma K (cB K) "redo")
  fRedo : Mth K "Planbook" "Planbook.redo" "redo" (bst 5)
  mLog : Meth K (cB K) "log" (He.ma K (cB K) "log")
  fLog : Mth K "Planbook" "Planbook.log" "log" (bst 6)
  mTel : Meth K (cB K) "telling" (He.ma K (cB K) "telling")
  fTel : Mth K "Planbook" "Planbook.telling" "telling" (bst 7)
  eqf : PySem.W.findIn K (.ref (cB K)) "__eq__" = some (some (.ref (He.ma K (cB K) "__eq__")))
  eqn : PySem.W.isFn K (.ref (He.ma K (cB K) "__eq__")) = true
  eq : Mth K "Planbook" "Planbook.__eq__" "__eq__" (bst 13)
  ne : PySem.W.findIn K (.ref (cB K)) "__ne__" = some (some (.builtin "object.__ne__"))
  ob : PySem.W.subIn K (.ref (cB K)) (.type "object") = some true
  ha : PySem.W.findIn K (.ref (cB K)) "__class__" = some (some (.builtin "object.__class__"))
  hn : PySem.W.specialIn K (.builtin "object.__class__") "__get__" = some (some (.builtin "getset_descriptor.__get__"))
  htk : PySem.W.takesIn K (.builtin "object.__class__") = some true
  hm : PySem.W.mroIn K (cB K) (.type "object") = some true
  nNone : PySem.W.kitOne K (.type "NoneType") (.ref (cB K)) = some false
  nInt : PySem.W.kitOne K (.type "int") (.ref (cB K)) = some false
  nPlan : PySem.W.kitOne K (.ref (cP K)) (.ref (cB K)) = some false
  badEdit : mg "BadEdit" = some (.ref (He.ga K "BadEdit"))
  undone : OCls K mg "NothingUndone"
  noBook : OCls K mg "NoPlanbook"
def bF (l1 l2 l3 : Addr) : List (Str × V) := [("own_plans", .ref l1), ("own_deeds", .ref l2), ("own_later", .ref l3)]
/-- a book stands at b, its plans at l1, its deeds at l2; nothing was taken back -/
def BookAt (K : PySem.W.Frag) (H : Hp) (b l1 l2 : Addr) (n : Int) (ds : List De) (as : List Ar) : Prop :=
  ∃ dx l3 ps dv x0 as0 x, H b = some (.ins (cB K) dx (bF l1 l2 l3)) ∧ H l1 = some (.lst ps) ∧ H l2 = some (.lst dv) ∧ H l3 = some (.lst []) ∧ ps.head? = some (.ref x0) ∧ PlanAt K H x0 n as0 ∧ ps.getLast? = some (.ref x) ∧ PlanAt K H x n as ∧ Paired (DeedAt H) dv ds ∧ ps.length = ds.length + 1
def Kept (x : Addr) (H H' : Hp) : Prop := ∀ b o, b ≠ x → H b = some o → H' b = some o
/-- the list of what was taken back is new -/
def Later (K : PySem.W.Frag) (G H' : Hp) (b : Addr) : Prop := ∀ dx a1 a2 a3, H' b = some (.ins (cB K) dx (bF a1 a2 a3)) → G a3 = none
theorem bF_3 {a1 a2 a3 b1 b2 b3 : Addr} (h : bF a1 a2 a3 = bF b1 b2 b3) : a3 = b3 := by
  have h := List.cons.inj (List.cons.inj (List.cons.inj h).2).2
  exact V.ref.inj (Prod.mk.inj h.1).2
theorem Later.of {K : PySem.W.Frag} {G H' : Hp} {b dx a1 a2 a3 : Addr} (h : H' b = some (.ins (cB K) dx (bF a1 a2 a3))) (g : G a3 = none) : Later K G H' b := fun dx' b1 b2 b3 e => by
  rw [h] at e
  have e := (HO.ins.inj (Option.some.inj e)).2.2
  rw [← bF_3 e]
  exact g
section
variable {P : Program} {w : World} {K : PySem.W.Frag} {mg : Str → Option Value} {base : Heap}
theorem BookAt.same {H H' : Hp} {b l1 l2 : Addr} {n : Int} {ds : List De} {as : List Ar} (h : BookAt K H b l1 l2 n ds as) (s : Same H H') : BookAt K H' b l1 l2 n ds as := by
  obtain ⟨dx, l3, ps, dv, x0, as0, x, h1, h2, h3, h4, h5, h6, h7, h8, h9, h10⟩ := h
  exact ⟨dx, l3, ps, dv, x0, as0, x, s _ _ h1, s _ _ h2, s _ _ h3, s _ _ h4, h5, h6.same s, h7, h8.same s, Paired.imp (fun _ _ h => h.keep s.tups) h9, h10⟩
def spBI (K : PySem.W.Frag) : Sp := fun vs H Q _ => ∃ (x dx : Addr) (n : Int), vs = [.ref x, .int n] ∧ H x = some (.ins (cB K) dx []) ∧ 1 ≤ n ∧ n ≤ 5 ∧ ∀ l1 l2 H', Kept x H H' → H l1 = none → H l2 = none → l1 ≠ l2 → BookAt K H' x l1 l2 n [] [] → Later K H H' x → Q .non H'
theorem scBI : FnScope ["self", "switches"] ["self", "switches"] (defScope (bst 0)) := ⟨rfl, rfl, rfl, by decide +kernel, rfl, by decide +kernel, by decide +kernel⟩
theorem ok_bI (T : TxP P K mg) (C : TxC K mg) (B : TxB P K mg) : ∃ fd, FnOk P w K mg base CX0 7 (He.ma K (cB K) "__init__") fd ["self", "switches"] (spBI K) ∧ Binds K fd ["self", "switches"] [] := by
  have GB : Fnc P w K mg base CX0 2 "is_between" ["thing", "low", "high"] spBtw := ok_btw T
  obtain ⟨fp, FP, hbP⟩ := ok_init (P := P) (w := w) (base := base) T C
  obtain ⟨fd, F⟩ := B.bInit
  obtain ⟨tm, hm⟩ := T.most
  refine ⟨fd, FnOk_of (k := 6) F scBI (fun vs H Q E h => ?_) (fun cdv A outer s H vs Q E hr h => ?_), F.bindsN (fun _ _ _ _ _ _ us hl => match us, hl with | [_, _], _ => rfl)⟩
  · obtain ⟨x, dx, n, rfl, _⟩ := h
    rfl
  · obtain ⟨x, dx, n, rfl, hx, n0, n1, k⟩ := h
    refine ⟨_, pss_cons (ps_if (pt_not (pt_val (pe_fn GB (hr.mono (by decide)) pass0 (pa_cons (pv 1) (pa_cons pe_int (pa_cons (pe_glob (v := .int 5) (by rfl) hm ⟨_, rfl⟩) pa_nil)))))) pss_any pss_nil)
      (pss_cons (ps_fld (pv 0) (pe_lst (pa_cons (pe_make (E := E0) C.mkr FP hr (by rfl) C.glo hbP .nil pass0 (pa_cons (pv 1) (pa_cons (pe_lst pa_nil) pa_nil))) pa_nil)) rfl)
      (pss_cons (ps_fld (pv 0) (pe_lst pa_nil) rfl)
      (pss_one (ps_fld (pv 0) (pe_lst pa_nil) rfl)))), ?_⟩
    refine ⟨_, rfl, n, 1, 5, rfl, _, rfl, ?_⟩
    rw [decide_eq_true n0, decide_eq_true n1]
    refine iteF ?_
    refine ⟨_, rfl, by decide, fun l hl => fun x1 dx1 hx1 hdx1 hne => ?_⟩
    have xl : x ≠ l := ne_of_none hx hl
    have sl : Same H (upd H l (.lst [])) := Same.upd hl
    refine mk_plan hx1 hdx1 hne upd_same .nil n0 n1 (fun a h => by cases h) List.nodup_nil (by decide) fun H1 s1 pl => ?_
    have s01 : Same H H1 := sl.trans s1
    have hxx : H1 x = some (.ins (cB K) dx []) := s01 _ _ hx
    rw [show ([] : List Ar).mergeSort le3 = [] by rw [List.mergeSort_nil]] at pl
    refine ⟨(by show 1 ≤ sizeLine; decide), fun l1 hl1 => ?_⟩
    have x_l1 : x ≠ l1 := ne_of_none hxx hl1
    refine ⟨_, rfl, x, _, dx, _, rfl, by rw [upd_ne x_l1]; exact hxx, B.bCls, B.bP, by decide, ?_⟩
    refine ⟨by decide, fun l2 hl2 => ?_⟩
    have x_l2 : x ≠ l2 := ne_of_none upd_same hl2
    refine ⟨_, rfl, x, _, dx, _, rfl, by rw [upd_ne x_l2, upd_same], B.bCls, B.bD, Nat.lt_of_le_of_lt (show _ ≤ 1 from Nat.le_refl _) (by decide), ?_⟩
    refine ⟨by decide, fun l3 hl3 => ?_⟩
    have x_l3 : x ≠ l3 := ne_of_none upd_same hl3
    refine ⟨_, rfl, x, _, dx, _, rfl, by rw [upd_ne x_l3, upd_same], B.bCls, B.bL, Nat.lt_of_le_of_lt (show _ ≤ 2 from Nat.le_refl _) (by decide), ?_⟩
    have hl2' : (upd H1 l1 (.lst [.ref x1])) l2 = none := by rw [← hl2, upd_ne x_l2.symm]
    have hl3' : (upd (upd H1 l1 (.lst [.ref x1])) l2 (.lst [])) l3 = none := by
      by_cases z : l3 = l2
      · rw [z, upd_ne x_l2.symm, upd_same] at hl3
        cases hl3
      · rw [upd_ne x_l3.symm, upd_ne z, upd_ne x_l3.symm] at hl3
        rw [upd_ne z]
        exact hl3
    have l1_2 : l1 ≠ l2 := ne_of_none upd_same hl2'
    have l1_3 : l1 ≠ l3 := ne_of_none (by rw [upd_ne l1_2, upd_same]) hl3'
    have l2_3 : l2 ≠ l3 := ne_of_none upd_same hl3'
    have s3 : Same H1 (upd (upd (upd H1 l1 (.lst [.ref x1])) l2 (.lst [])) l3 (.lst [])) := ((Same.upd hl1).trans (Same.upd hl2')).trans (Same.upd hl3')
    have hl2H : H1 l2 = none := by rw [← hl2', upd_ne (Ne.symm l1_2)]
    have kp : ∀ b o, b ≠ x → H1 b = some o → (upd (upd (upd (upd (upd (upd H1 l1 (.lst [.ref x1])) x (.ins (cB K) dx (putF "own_plans" (.ref l1) []))) l2 (.lst [])) x (.ins (cB K) dx (putF "own_deeds" (.ref l2) (putF "own_plans" (.ref l1) [])))) l3 (.lst [])) x (.ins (cB K) dx (putF "own_later" (.ref l3) (putF "own_deeds" (.ref l2) (putF "own_plans" (.ref l1) []))))) b = some o := fun b o hb e1 => by
      have n1 := ne_of_none e1 hl1
      have e2 : (upd H1 l1 (.lst [.ref x1])) b = some o := by rw [upd_ne n1]; exact e1
      have n2 := ne_of_none e2 hl2'
      have e3 : (upd (upd H1 l1 (.lst [.ref x1])) l2 (.lst [])) b = some o := by rw [upd_ne n2]; exact e2
      have n3 := ne_of_none e3 hl3'
      rw [upd_ne hb, upd_ne n3, upd_ne hb, upd_ne n2, upd_ne hb, upd_ne n1]
      exact e1
    have x1x : x1 ≠ x := fun z => by
      rw [z, upd_ne xl, hx] at hx1
      cases hx1
    have plk : ∀ H2, (∀ b o, b ≠ x → H1 b = some o → H2 b = some o) → PlanAt K H2 x1 n [] := fun H2 hk => by
      obtain ⟨d, t, ys, q1, q2, q3⟩ := pl
      cases q3
      exact ⟨d, t, [], hk _ _ x1x q1, hk _ _ (ne_of q2 hxx (by intro z; cases z)) q2, .nil⟩
    refine k l1 l2 _ (fun b o hb e => kp b o hb (s01 _ _ e)) (s01.free hl1) (s01.free hl2H) l1_2 ⟨dx, l3, [.ref x1], [], x1, [], x1, ?_, ?_, ?_, ?_, rfl, plk _ kp, rfl, plk _ kp, .nil, rfl⟩ (Later.of (dx := dx) (a1 := l1) (a2 := l2) (a3 := l3) (by rw [upd_same]; rfl) (s01.free ?_))
    · rw [upd_same]
      rfl
    · rw [upd_ne x_l1.symm, upd_ne l1_3, upd_ne x_l1.symm, upd_ne l1_2, upd_ne x_l1.symm, upd_same]
    · rw [upd_ne x_l2.symm, upd_ne l2_3, upd_ne x_l2.symm, upd_same]
    · rw [upd_ne x_l3.symm, upd_same]
    · rw [← hl3', upd_ne (Ne.symm l2_3), upd_ne (Ne.symm l1_3)]
end
end K24
set_option maxHeartbeats 4000000
namespace K24
open PySem L2 PySem.EX PyProof.Rows
/-- all stands but the book, its plans, its deeds -/
def But3 (b l1 l2 : Addr) (H H' : Hp) : Prop := ∀ c o, c ≠ b → c ≠ l1 → c ≠ l2 → H c = some o → H' c = some o
theorem But3.same {b l1 l2 : Addr} {H H' : Hp} (s : Same H H') : But3 b l1 l2 H H' := fun c o _ _ _ h => s c o h
theorem But3.trans {b l1 l2 : Addr} {H H1 H2 : Hp} (a : But3 b l1 l2 H H1) (c : But3 b l1 l2 H1 H2) : But3 b l1 l2 H H2 := fun x o h1 h2 h3 h => c x o h1 h2 h3 (a x o h1 h2 h3 h)
theorem bF_ne {l1 l2 l3 : Addr} {n : Int} {t : Addr} : ¬ bF l1 l2 l3 = plF n t := fun e => by
  have h1 := congrArg (fun l => (l.head?).map Prod.fst) e
  exact absurd (Option.some.inj (show some ("own_plans" : Str) = some "own_switches" from h1)) (by decide +kernel)
section
variable {P : Program} {w : World} {K : PySem.W.Frag} {mg : Str → Option Value} {base : Heap}
theorem But3.tups {b l1 l2 l3 dx : Addr} {H H' : Hp} {p q : List V} (k : But3 b l1 l2 H H') (hb : H b = some (.ins (cB K) dx (bF l1 l2 l3))) (h1 : H l1 = some (.lst p)) (h2 : H l2 = some (.lst q)) : ∀ c xs, H c = some (.tup xs) → H' c = some (.tup xs) := fun c xs e =>
  k c _ (ne_of e hb (by intro z; cases z)) (ne_of e h1 (by intro z; cases z)) (ne_of e h2 (by intro z; cases z)) e
theorem PlanAt.but3 {b l1 l2 l3 dx x : Addr} {H H' : Hp} {p q : List V} {n : Int} {as : List Ar} (h : PlanAt K H x n as) (k : But3 b l1 l2 H H') (hb : H b = some (.ins (cB K) dx (bF l1 l2 l3))) (h1 : H l1 = some (.lst p)) (h2 : H l2 = some (.lst q)) : PlanAt K H' x n as := by
  obtain ⟨d, t, ys, e1, e2, e3⟩ := h
  have xb : x ≠ b := fun z => by
    rw [z, hb] at e1
    exact bF_ne (HO.ins.inj (Option.some.inj e1)).2.2
  exact ⟨d, t, ys, k x _ xb (ne_of e1 h1 (by intro z; cases z)) (ne_of e1 h2 (by intro z; cases z)) e1, k.tups hb h1 h2 _ _ e2, e3.keep (k.tups hb h1 h2)⟩
/-! ### the book's properties -/
def spBpl (K : PySem.W.Frag) : Sp := fun vs H Q _ => ∃ b l1 l2 n ds as, vs = [.ref b] ∧ BookAt K H b l1 l2 n ds as ∧ ∀ x, PlanAt K H x n as → Q (.ref x) H
theorem scBpl : FnScope ["self"] ["self"] (defScope (bst 2)) := ⟨rfl, rfl, rfl, by decide +kernel, rfl, by decide +kernel, by decide +kernel⟩
theorem pr_bpl (B : TxB P K mg) : PrB P w K mg base (cB K) 1 "plan" (spBpl K) := by
  obtain ⟨p, g, fd, hp, F⟩ := B.bPl
  refine ⟨p, g, fd, hp, FnOk_of (k := 0) F scBpl (fun vs H Q E h => ?_) (fun cdv A outer s H vs Q E hr h => ?_), F.bindsN (fun _ _ _ _ _ _ us hl => match us, hl with | [_], _ => rfl)⟩
  · obtain ⟨b, l1, l2, n, ds, as, rfl, _⟩ := h
    rfl
  · obtain ⟨b, l1, l2, n, ds, as, rfl, ⟨dx, l3, ps, dv, x0, as0, x, h1, h2, h3, h4, h5, h6, h7, h8, h9, h10⟩, k⟩ := h
    refine ⟨_, pss_one (ps_ret (pe_ix ix_list (pe_fld (pv 0) rfl) (pe_un un_neg pe_int) (fun _ _ => rfl))), ?_⟩
    exact ⟨_, rfl, b, _, dx, _, _, rfl, h1, B.bCls, B.bP, rfl, _, rfl, l1, ps, -1, .ref x, rfl, rfl, SqL.of h2, atI_last h7, k x h8⟩
def spBsw (K : PySem.W.Frag) : Sp := fun vs H Q _ => ∃ b l1 l2 n ds as, vs = [.ref b] ∧ BookAt K H b l1 l2 n ds as ∧ Q (.int n) H
theorem scBsw : FnScope ["self"] ["self"] (defScope (bst 1)) := ⟨rfl, rfl, rfl, by decide +kernel, rfl, by decide +kernel, by decide +kernel⟩
theorem pr_bsw (C : TxC K mg) (B : TxB P K mg) : PrB P w K mg base (cB K) 3 "switches" (spBsw K) := by
  obtain ⟨p, g, fd, hp, F⟩ := B.bSw
  refine ⟨p, g, fd, hp, FnOk_of (k := 2) F scBsw (fun vs H Q E h => ?_) (fun cdv A outer s H vs Q E hr h => ?_), F.bindsN (fun _ _ _ _ _ _ us hl => match us, hl with | [_], _ => rfl)⟩
  · obtain ⟨b, l1, l2, n, ds, as, rfl, _⟩ := h
    rfl
  · obtain ⟨b, l1, l2, n, ds, as, rfl, ⟨dx, l3, ps, dv, x0, as0, x, h1, h2, h3, h4, h5, ⟨d0, t0, y0, e1, e2, e3⟩, h7, h8, h9, h10⟩, k⟩ := h
    refine ⟨_, pss_one (ps_ret (pe_prp (pe_ix (r := rIxL K) ix_list (pe_fld (pv 0) rfl) pe_int (fun _ _ => rfl)) C (prp_sw C) hr)), ?_⟩
    exact ⟨_, rfl, b, _, dx, _, _, rfl, h1, B.bCls, B.bP, rfl, l1, ps, 0, .ref x0, rfl, rfl, SqL.of h2, atI_int (by decide) (by rw [← h5]; cases ps <;> rfl), x0, d0, _, rfl, e1, x0, d0, _, .int n, rfl, e1, rfl, k⟩
/-! ### do -/
def spDo (K : PySem.W.Frag) : Sp := fun vs H Q _ => ∃ (b l1 l2 : Addr) (v : V) (n : Int) (ds : List De) (as : List Ar) (d : De), vs = [.ref b, v] ∧ BookAt K H b l1 l2 n ds as ∧ DeedAt H v d ∧ Right n as d ∧ PlOk n as ∧ as.length < 900 ∧ ds.length ≤ 900 ∧
  ∀ H', But3 b l1 l2 H H' → BookAt K H' b l1 l2 n (ds ++ [d]) (nextA as d) → Later K H H' b → Q .non H'
theorem scDo : FnScope ["self", "deed"] ["self", "deed"] (defScope (bst 3)) := ⟨rfl, rfl, rfl, by decide +kernel, rfl, by decide +kernel, by decide +kernel⟩
theorem ok_do (T : TxP P K mg) (C : TxC K mg) (D : TxD K mg) (B : TxB P K mg) : ∃ fd, FnOk P w K mg base CX0 8 (He.ma K (cB K) "do") fd ["self", "deed"] (spDo K) ∧ Binds K fd ["self", "deed"] [] := by
  have GR : Fnc P w K mg base CX0 4 "deed_right" ["plan", "deed"] (spDR K) := ok_dr T C D
  have GP : Fnc P w K mg base CX0 7 "plan_behind" ["plan", "deed"] (spPB K) := ok_pb T C D
  have R : PrB P w K mg base (cB K) 1 "plan" (spBpl K) := pr_bpl B
  obtain ⟨fd, F⟩ := B.fDo
  refine ⟨fd, FnOk_of (k := 7) F scDo (fun vs H Q E h => ?_) (fun cdv A outer s H vs Q E hr h => ?_), F.bindsN (fun _ _ _ _ _ _ us hl => match us, hl with | [_, _], _ => rfl)⟩
  · obtain ⟨b, l1, l2, v, n, ds, as, d, rfl, _⟩ := h
    rfl
  · obtain ⟨b, l1, l2, v, n, ds, as, d, rfl, hB, hD, rt, PL, hlen, hdl, k⟩ := h
    have r2 := hr.mono (show 2 ≤ 7 by decide)
    refine ⟨_, pss_cons (ps_if (pt_not (pt_val (pe_fn GR (hr.mono (by decide)) pass0 (pa_cons (pe_prb (pv 0) B.bCls R r2) (pa_cons (pv 1) pa_nil))))) pss_any pss_nil)
      (pss_cons (ps_expr (pe_bm PySem.F.plainAttrs_list PySem.F.slot_list_append PySem.F.type_list_append mt_append (pe_fld (pv 0) rfl) (pa_cons (pe_fn GP hr pass0 (pa_cons (pe_prb (pv 0) B.bCls R r2) (pa_cons (pv 1) pa_nil))) pa_nil)))
      (pss_cons (ps_expr (pe_bm PySem.F.plainAttrs_list PySem.F.slot_list_append PySem.F.type_list_append mt_append (pe_fld (pv 0) rfl) (pa_cons (pv 1) pa_nil)))
      (pss_one (ps_fld (pv 0) (pe_lst pa_nil) rfl)))), ?_⟩
    obtain ⟨dx, l3, ps, dv, x0, as0, x, h1, h2, h3, h4, h5, h6, h7, h8, h9, h10⟩ := id hB
    refine ⟨_, rfl, b, dx, _, rfl, h1, b, l1, l2, n, ds, as, rfl, hB, fun x1 hx1 => ?_⟩
    refine ⟨_, rfl, x1, v, n, as, d, rfl, hx1, hD, rt, fun H1 s1 => ⟨_, rfl, iteF ?_⟩⟩
    refine ⟨_, rfl, b, _, dx, _, _, rfl, s1 _ _ h1, B.bCls, B.bP, rfl, .inl ⟨rfl, _, SqL.of (s1 _ _ h2)⟩, ?_⟩
    refine ⟨_, rfl, b, dx, _, rfl, s1 _ _ h1, b, l1, l2, n, ds, as, rfl, hB.same s1, fun x2 hx2 => ?_⟩
    refine ⟨_, rfl, x2, v, n, as, d, rfl, hx2, hD.keep s1.tups, rt, PL, hlen, fun y H2 s2 hy pl => ?_⟩
    have s12 := s1.trans s2
    have hv2 := hD.keep s12.tups
    have pl0 := h6.same s12
    have b2 := s12 _ _ h1
    have p2 := s12 _ _ h2
    have d2 := s12 _ _ h3
    have n12 : l1 ≠ l2 := fun z => by
      rw [z, d2] at p2
      have e := HO.lst.inj (Option.some.inj p2)
      have := h9.length
      rw [e, h10] at this
      omega
    refine ⟨l1, ps, _, rfl, rfl, p2, small1000 (by omega), ?_⟩
    have b_1 : b ≠ l1 := ne_of b2 p2 (by intro z; cases z)
    have b_2 : b ≠ l2 := ne_of b2 d2 (by intro z; cases z)
    have b3 : (upd H2 l1 (.lst (ps ++ [.ref y]))) b = some (.ins (cB K) dx (bF l1 l2 l3)) := by rw [upd_ne b_1]; exact b2
    have d3 : (upd H2 l1 (.lst (ps ++ [.ref y]))) l2 = some (.lst dv) := by rw [upd_ne (Ne.symm n12)]; exact d2
    refine ⟨_, rfl, b, _, dx, _, _, rfl, b3, B.bCls, B.bD, rfl, .inl ⟨rfl, _, SqL.of d3⟩, ?_⟩
    refine ⟨_, rfl, l2, dv, _, rfl, rfl, d3, small1000 (by have := h9.length; omega), ?_⟩
    have b4 : (upd (upd H2 l1 (.lst (ps ++ [.ref y]))) l2 (.lst (dv ++ [v]))) b = some (.ins (cB K) dx (bF l1 l2 l3)) := by rw [upd_ne b_2]; exact b3
    refine ⟨by decide, fun l hl => ?_⟩
    have b_l : b ≠ l := ne_of_none b4 hl
    refine ⟨_, rfl, b, _, dx, _, rfl, by rw [upd_ne b_l]; exact b4, B.bCls, B.bL, Nat.lt_of_le_of_lt (show _ ≤ 3 from Nat.le_refl _) (by decide), ?_⟩
    have e1 : (upd (upd H2 l1 (.lst (ps ++ [.ref y]))) l2 (.lst (dv ++ [v]))) l1 = some (.lst (ps ++ [.ref y])) := by rw [upd_ne n12, upd_same]
    have e2 : (upd (upd H2 l1 (.lst (ps ++ [.ref y]))) l2 (.lst (dv ++ [v]))) l2 = some (.lst (dv ++ [v])) := upd_same
    have l_1 := ne_of_none e1 hl
    have l_2 := ne_of_none e2 hl
    have kp : But3 b l1 l2 H2 (upd (upd (upd (upd H2 l1 (.lst (ps ++ [.ref y]))) l2 (.lst (dv ++ [v]))) l (.lst [])) b (.ins (cB K) dx (putF "own_later" (.ref l) (bF l1 l2 l3)))) := fun c o c1 c2 c3 e => by
      have e3 : (upd (upd H2 l1 (.lst (ps ++ [.ref y]))) l2 (.lst (dv ++ [v]))) c = some o := by rw [upd_ne c3, upd_ne c2]; exact e
      rw [upd_ne c1, upd_ne (ne_of_none e3 hl)]
      exact e3
    have kt := kp.tups b2 p2 d2
    refine k _ ((But3.same s12).trans kp) ⟨dx, l, ps ++ [.ref y], dv ++ [v], x0, as0, y, ?_, ?_, ?_, ?_, ?_, pl0.but3 kp b2 p2 d2, ?_, pl.but3 kp b2 p2 d2, Paired.snoc (Paired.imp (fun _ _ h => (h.keep s12.tups).keep kt) h9) (hv2.keep kt), ?_⟩ (Later.of (dx := dx) (a1 := l1) (a2 := l2) (a3 := l) (by rw [upd_same]; rfl) (s12.free ?_))
    · rw [upd_same]
      rfl
    · rw [upd_ne b_1.symm, upd_ne l_1]
      exact e1
    · rw [upd_ne b_2.symm, upd_ne l_2]
      exact e2
    · rw [upd_ne b_l.symm, upd_same]
    · cases ps with
      | nil => cases h5
      | cons a t => exact h5
    · rw [List.getLast?_append]
      rfl
    · rw [List.length_append, List.length_append, h10]
      rfl
    · rw [← hl, upd_ne (Ne.symm l_2), upd_ne (Ne.symm l_1)]
end
end K24
set_option maxHeartbeats 4000000
namespace K24
open PySem L2 PySem.EX PyProof.Rows
/-! ### the lines of deeds -/
def De.words : De → List Str
  | .flip ns => ns.map nS | .arr _ a => wordsA a
def lineD (d : De) : Str := Txt.join sp (d.kind :: d.words)
def textB (n : Int) (ds : List De) : Str := Txt.join nl (headS n :: ("book" : Str) :: ds.map lineD)
/-- a deed of so many switches -/
def okD (n : Int) : De → Prop
  | .flip ns => okF n ns | .arr _ a => okA n a
theorem Right.okD {n : Int} {as : List Ar} {d : De} (h : Right n as d) : okD n d := by
  cases d with
  | flip ns => exact h
  | arr m a => exact h.1
structure TxT (K : PySem.W.Frag) (mg : Str → Option Value) : Prop where
  dLine : Def K mg "deed_line" (top 55)
  pbText : Def K mg "planbook_text" (top 56)
theorem words_sm {n : Int} {d : De} (h : okD n d) (hn : n ≤ 5) : (∀ x ∈ d.words, x.length ≤ 9) ∧ d.words.length ≤ 100 := by
  cases d with
  | flip ns =>
    obtain ⟨h1, h2, h3⟩ := h
    refine ⟨fun x hx => ?_, by show (ns.map nS).length ≤ 100; rw [List.length_map]; exact h3⟩
    obtain ⟨z, hz, rfl⟩ := List.mem_map.mp hx
    obtain ⟨z0, z1⟩ := h1 z hz
    rw [nS_len z0 (by omega)]
    decide
  | arr m a =>
    obtain ⟨h1, h2, h3, h4, h5⟩ := h
    refine ⟨fun x hx => ?_, by show 3 ≤ 100; decide⟩
    have hx' : x ∈ [nS a.1, wordS a.2.2, nS a.2.1] := hx
    simp only [List.mem_cons, List.not_mem_nil, or_false] at hx'
    rcases hx' with rfl | rfl | rfl
    · rw [nS_len h1 (by omega)]; decide
    · unfold wordS
      split <;> decide +kernel
    · rw [nS_len h3 (by omega)]; decide
theorem kind_len (d : De) : d.kind.length ≤ 4 := by
  rcases kind_or d with h | h | h <;> rw [h] <;> decide +kernel
theorem line_join_sm {n : Int} {d : De} (h : okD n d) (hn : n ≤ 5) : ((d.kind :: d.words).map (·.length)).sum + (d.kind :: d.words).length * sp.length ≤ 2000 := by
  obtain ⟨h1, h2⟩ := words_sm h hn
  have h3 := sum_le (f := fun x : Str => x.length) (m := 9) (l := d.words) h1
  have h4 := kind_len d
  have e : sp.length = 1 := by decide +kernel
  rw [List.map_cons, List.sum_cons, List.length_cons, e]
  omega
theorem lineD_len {n : Int} {d : De} (h : okD n d) (hn : n ≤ 5) : (lineD d).length ≤ 2000 := by
  unfold lineD
  rw [TL.join_eq]
  exact Nat.le_trans (join_len sp (d.kind :: d.words)) (line_join_sm h hn)
section
variable {P : Program} {w : World} {K : PySem.W.Frag} {mg : Str → Option Value} {base : Heap}
def spDLn : Sp := fun vs H Q _ => ∃ (v : V) (n : Int) (d : De), vs = [v] ∧ DeedAt H v d ∧ okD n d ∧ n ≤ 5 ∧ ∀ H', Same H H' → Q (.str (lineD d)) H'
theorem scDLn : FnScope ["deed", "source", "target", "sign", "switch"] ["deed"] (defScope (top 55)) := ⟨rfl, rfl, rfl, by decide +kernel, rfl, by decide +kernel, by decide +kernel⟩
theorem ok_dLn (T : TxP P K mg) (X : TxT K mg) : Fnc P w K mg base CX0 1 "deed_line" ["deed"] spDLn := by
  refine fnc0 X.dLine scDLn (fun vs H Q E h => ?_) (fun _ _ _ _ _ _ us hl => match us, hl with | [_], _ => rfl) (fun cdv A outer s H vs Q E hr h => ?_)
  · obtain ⟨v, n, d, rfl, _⟩ := h
    rfl
  · obtain ⟨v, n, d, rfl, ⟨p, q, rfl, hp, hq⟩, ok, hn, k⟩ := h
    refine ⟨_, pss_cons (ps_if (pt_cmpR op_eq (pe_ix ix_tup (pv 0) pe_int (fun _ _ => rfl)) pe_str (nomark _)) (pss_one (ps_ret (pe_join pe_str (pe_lst (pa_cons pe_str
        (StX.pa_star (pe_lc (own := [("switch", 4)]) (g := gName 4) (tt := tYes) rfl scDLn.nd (pi_tup (pe_ix ix_tup (pv 0) pe_int (fun _ _ => rfl))) (blkOk_by (N := ["deed", "source", "target", "sign", "switch"]) (sc := defScope (top 55)) (by decide +kernel))
          (fun _ _ _ _ _ => pg_name (i := 4) scDLn.nd rfl (Or.inl rfl)) (fun _ _ _ _ _ => pts_nil) (fun _ _ _ _ _ => pe_callTy call_str_int (by rfl) T.str (by decide +kernel) (pa_cons (pv 4) pa_nil))) pa_nil)))))) pss_nil)
      (pss_cons (ps_asg (pe_ix ix_tup (pv 0) pe_int (fun _ _ => rfl)) (pg_tup rfl (pgs_cons (pg_name (i := 1) scDLn.nd rfl (Or.inl rfl)) (pgs_cons (pg_name (i := 2) scDLn.nd rfl (Or.inl rfl)) (pgs_cons (pg_name (i := 3) scDLn.nd rfl (Or.inl rfl)) pgs_nil)))))
      (pss_one (ps_ret (pe_join pe_str (pe_lst (pa_cons (pe_ix ix_tup (pv 0) pe_int (fun _ _ => rfl)) (pa_cons (pe_callTy call_str_int (by rfl) T.str (by decide +kernel) (pa_cons (pv 1) pa_nil))
        (pa_cons (pe_ifExp (pt_cmpR op_eq (pv 3) pe_int (nomark _)) pe_str pe_str) (pa_cons (pe_callTy call_str_int (by rfl) T.str (by decide +kernel) (pa_cons (pv 2) pa_nil)) pa_nil))))))))), ?_⟩
    have hT := SqT.of (K := K) hp
    have sm := line_join_sm ok hn
    refine ⟨_, rfl, p, _, (0 : Int), .str d.kind, rfl, rfl, hT, rfl, rfl, _, rfl, ?_⟩
    cases d with
    | flip ns =>
      obtain ⟨o1, o2, o3⟩ := id ok
      rw [show decide (V.str (De.flip ns).kind = V.str (Str.ofString "flip")) = true from by show decide (V.str "flip" = V.str (Str.ofString "flip")) = true; decide +kernel]
      refine iteT ?_
      refine ⟨⟨_, rfl⟩, _, rfl, p, _, (1 : Int), .ref q, rfl, rfl, hT, rfl, q, rfl, ⟨_, SqT.of hq⟩, fun D hD => lc_tup (K := K) (a := q) (xs := ns.map V.int) (fun i H2 => Same H H2 ∧ H2 D = some (.lst (((ns.take i).map nS).map V.str))) ⟨Same.upd hD, upd_same⟩ (fun i H2 _ h => SqT.of (h.1 _ _ hq)) ?_ ?_⟩
      · rintro i x H2 hx ⟨s2, hz⟩
        obtain ⟨z, hz1, rfl⟩ := map_get hx
        have hi := (List.getElem?_eq_some_iff.mp hz1).1
        have zz := o1 z (List.mem_of_getElem? hz1)
        refine ⟨rfl, ?_⟩
        refine ⟨_, rfl, z, rfl, log_small (by omega), _, hz, small1000 (by rw [List.length_map, List.length_map, List.length_take]; omega), s2.put hD, ?_⟩
        rw [upd_same, List.take_succ, hz1, List.map_append, List.map_append]
        rfl
      · rintro H2 ⟨s2, hz⟩
        rw [List.length_map, List.take_of_length_le (Nat.le_refl _)] at hz
        have ec : V.str (Str.ofString "flip") :: ((ns.map nS).map V.str ++ []) = ((De.flip ns).kind :: (De.flip ns).words).map V.str := by rw [List.append_nil]; rfl
        refine ⟨D, _, rfl, .inr (SqL.of hz), ?_, fun r hr2 => ?_⟩
        · show (V.str (Str.ofString "flip") :: ((ns.map nS).map V.str ++ [])).length ≤ sizeLine
          rw [List.length_cons, List.length_append, List.length_map, List.length_map]
          exact line1000 (by show ns.length + 0 + 1 ≤ 1000; omega)
        · refine ⟨_, r, (De.flip ns).kind :: (De.flip ns).words, rfl, rfl, .inl (SqL.of ?_), Nat.le_trans sm (by decide), k _ (s2.trans (Same.upd hr2))⟩
          rw [upd_same, ← ec]
    | arr m a =>
      rw [kind_nf m a]
      obtain ⟨a1, a2, a3⟩ := a
      obtain ⟨o1, o2, o3, o4, o5⟩ := id ok
      simp only at o1 o2 o3 o4 o5
      refine iteF ?_
      refine ⟨_, rfl, p, _, (1 : Int), .ref q, rfl, rfl, hT, rfl, q, _, rfl, SqT.of hq, rfl, _, _, rfl, _, _, rfl, _, _, rfl, rfl, ?_⟩
      refine ⟨⟨_, rfl⟩, ?_⟩
      refine ⟨_, rfl, p, _, (0 : Int), .str (De.arr m (a1, a2, a3)).kind, rfl, rfl, hT, rfl, ?_⟩
      refine ⟨_, rfl, a1, rfl, log_small (by omega), _, rfl, rfl, _, rfl, ?_⟩
      have fin : ∀ z : Str, z = wordS a3 → ∀ (r : Addr), H r = none → (upd H r (.lst [V.str (De.arr m (a1, a2, a3)).kind, .str (nS a1), .str z, .str (nS a2)])) r = some (.lst (((De.arr m (a1, a2, a3)).kind :: (De.arr m (a1, a2, a3)).words).map V.str)) := by
        rintro z rfl r hr2
        rw [upd_same]
        rfl
      refine ite2 (fun hc => ?_) (fun hc => ?_)
      · have h3 : a3 = 1 := V.int.inj (of_decide_eq_true hc)
        refine ⟨_, rfl, a2, rfl, log_small (by omega), (by show 4 ≤ sizeLine; decide), fun r hr2 => ?_⟩
        exact ⟨_, r, _, rfl, rfl, .inl (SqL.of (fin "helps" (by unfold wordS; rw [if_pos h3]) r hr2)), Nat.le_trans sm (by decide), k _ (Same.upd hr2)⟩
      · have h3 : ¬ a3 = 1 := fun e => hc (decide_eq_true (by rw [e]))
        refine ⟨_, rfl, a2, rfl, log_small (by omega), (by show 4 ≤ sizeLine; decide), fun r hr2 => ?_⟩
        exact ⟨_, r, _, rfl, rfl, .inl (SqL.of (fin "hinders" (by unfold wordS; rw [if_neg h3]) r hr2)), Nat.le_trans sm (by decide), k _ (Same.upd hr2)⟩
end
end K24
set_option maxHeartbeats 4000000
namespace K24
open PySem L2 PySem.EX PyProof.Rows
section
variable {P : Program} {w : World} {K : PySem.W.Frag} {mg : Str → Option Value} {base : Heap}
theorem ty_book (B : TxB P K mg) {H : Hp} {b l1 l2 : Addr} {n : Int} {ds : List De} {as : List Ar} (h : BookAt K H b l1 l2 n ds as) : TyX K H (.ref b) (.ref (cB K)) := by
  obtain ⟨dx, l3, ps, dv, x0, as0, x, h1, _⟩ := h
  exact .base (.ins h1 B.bCls B.ha B.hn B.htk B.hm)
theorem Paired.at_ {α β : Type} {F : α → β → Prop} : ∀ {l : List α} {m : List β} {i : Nat} {a : α}, Paired F l m → l[i]? = some a → ∃ b, m[i]? = some b ∧ F a b
  | _, _, _, _, .nil, h => by simp at h
  | _, _, 0, _, .cons h t, e => by cases e; exact ⟨_, rfl, h⟩
  | _, _, i + 1, _, .cons h t, e => Paired.at_ (i := i) t (by simpa using e)
def spLog (K : PySem.W.Frag) : Sp := fun vs H Q _ => ∃ b l1 l2 n ds as, vs = [.ref b] ∧ BookAt K H b l1 l2 n ds as ∧ ∀ l dv H', H l = none → Same H H' → H' l = some (.lst dv) → Paired (DeedAt H') dv ds → Q (.ref l) H'
theorem scLog : FnScope ["self"] ["self"] (defScope (bst 6)) := ⟨rfl, rfl, rfl, by decide +kernel, rfl, by decide +kernel, by decide +kernel⟩
theorem ok_log (T : TxP P K mg) (B : TxB P K mg) : ∃ fd, FnOk P w K mg base CX0 1 (He.ma K (cB K) "log") fd ["self"] (spLog K) ∧ Binds K fd ["self"] [] := by
  obtain ⟨fd, F⟩ := B.fLog
  refine ⟨fd, FnOk_of (k := 0) F scLog (fun vs H Q E h => ?_) (fun cdv A outer s H vs Q E hr h => ?_), F.bindsN (fun _ _ _ _ _ _ us hl => match us, hl with | [_], _ => rfl)⟩
  · obtain ⟨b, l1, l2, n, ds, as, rfl, _⟩ := h
    rfl
  · obtain ⟨b, l1, l2, n, ds, as, rfl, ⟨dx, l3, ps, dv, x0, as0, x, h1, h2, h3, h4, h5, h6, h7, h8, h9, h10⟩, k⟩ := h
    refine ⟨_, pss_one (ps_ret (pe_callTy call_list_of (by rfl) T.list (by decide +kernel) (pa_cons (pe_fld (pv 0) rfl) pa_nil))), ?_⟩
    refine ⟨_, rfl, b, _, dx, _, _, rfl, h1, B.bCls, B.bD, rfl, l2, dv, rfl, .inl (SqL.of h3), fun l hl => ?_⟩
    exact k l dv _ hl (Same.upd hl) upd_same (Paired.imp (fun _ _ h => h.keep (Same.upd hl).tups) h9)
def spRedo (K : PySem.W.Frag) : Sp := fun vs H Q E => ∃ b l1 l2 n ds as, vs = [.ref b] ∧ BookAt K H b l1 l2 n ds as ∧ XOO (He.ga K "NothingUndone") H E
theorem scRedo : FnScope ["self", "deed", "plan"] ["self"] (defScope (bst 5)) := ⟨rfl, rfl, rfl, by decide +kernel, rfl, by decide +kernel, by decide +kernel⟩
theorem ok_redo (T : TxP P K mg) (B : TxB P K mg) : ∃ fd, FnOk P w K mg base (L2.CX P w) 1 (He.ma K (cB K) "redo") fd ["self"] (spRedo K) ∧ Binds K fd ["self"] [] := by
  obtain ⟨fd, F⟩ := B.fRedo
  refine ⟨fd, F.ok (k := 0) scRedo (fun vs H Q E h => ?_) (fun cdv A outer s H vs Q E hr h => ?_), F.bindsN (fun _ _ _ _ _ _ us hl => match us, hl with | [_], _ => rfl)⟩
  · obtain ⟨b, l1, l2, n, ds, as, rfl, _⟩ := h
    rfl
  · obtain ⟨b, l1, l2, n, ds, as, rfl, ⟨dx, l3, ps, dv, x0, as0, x, h1, h2, h3, h4, h5, h6, h7, h8, h9, h10⟩, xo⟩ := h
    refine ⟨_, pss_cons (ps_if (pt_cmpR (op_eqD hr.units) (pe_fld (pv 0) rfl) (pe_lst pa_nil) (nomark _)) (pss_one (ps_raiseO rfl B.undone (takes_of rfl rfl rfl rfl))) pss_nil) pss_any, ?_⟩
    refine ⟨_, rfl, b, _, dx, _, _, rfl, h1, B.bCls, B.bL, rfl, by decide, fun e he => ⟨_, _, dp_nil (SqL.of ((Same.upd he) _ _ h4)), dp_nil (SqL.of upd_same), shaped_nil, shaped_nil, _, rfl, ?_⟩⟩
    rw [eqv_nilL]
    exact iteT (xo _ (Same.upd he))
/-! ### the text of a book -/
def spBT (K : PySem.W.Frag) : Sp := fun vs H Q E => ∃ v, vs = [v] ∧ ((∃ b l1 l2 n ds as, v = .ref b ∧ BookAt K H b l1 l2 n ds as ∧ 1 ≤ n ∧ n ≤ 5 ∧ (∀ d ∈ ds, okD n d) ∧ ds.length ≤ 900 ∧ ∀ H', Same H H' → Q (.str (textB n ds)) H') ∨
  ∃ ty, TyX K H v ty ∧ PySem.W.kitOne K ty (.ref (cB K)) = some false ∧ XOO (He.ga K "NoPlanbook") H E)
theorem scBT : FnScope ["book", "deed"] ["book"] (defScope (top 56)) := ⟨rfl, rfl, rfl, by decide +kernel, rfl, by decide +kernel, by decide +kernel⟩
def linesB (n : Int) (ds : List De) : List Str := headS n :: ("book" : Str) :: ds.map lineD
theorem linesB_small {n : Int} {ds : List De} (n0 : 1 ≤ n) (n1 : n ≤ 5) (ok : ∀ d ∈ ds, okD n d) (hl : ds.length ≤ 900) : ((linesB n ds).map (·.length)).sum + (linesB n ds).length * nl.length ≤ 2000000 := by
  unfold linesB
  rw [List.map_cons, List.map_cons, List.sum_cons, List.sum_cons, List.map_map, List.length_cons, List.length_cons, List.length_map, headS_len n0 n1]
  have h := sum_le (f := (fun x : Str => x.length) ∘ lineD) (m := 2000) (l := ds) fun d hd => lineD_len (ok d hd) n1
  have e : nl.length = 1 := by decide +kernel
  have e2 : ("book" : Str).length = 4 := by decide +kernel
  rw [e, e2]
  omega
theorem ok_btX (T : TxP P K mg) (C : TxC K mg) (B : TxB P K mg) (X : TxT K mg) : FncX P w K mg base (L2.CX P w) 5 "planbook_text" (top 56) ["book"] (spBT K) := by
  have GL : Fnc P w K mg base CX0 1 "deed_line" ["deed"] spDLn := ok_dLn T X
  obtain ⟨fL, FL, hL⟩ := ok_log (P := P) (w := w) (base := base) T B
  have R : PrB P w K mg base (cB K) 3 "switches" (spBsw K) := pr_bsw C B
  refine fncX X.pbText scBT (fun vs H Q E h => ?_) (fun _ _ _ _ _ _ us hl => match us, hl with | [_], _ => rfl) (fun cdv A outer s H vs Q E hr h => ?_)
  · obtain ⟨v, rfl, _⟩ := h
    rfl
  · obtain ⟨v, rfl, h⟩ := h
    have r1 := hr.mono (show 1 ≤ 4 by decide)
    refine ⟨_, pss_cons (ps_if (pt_not (pt_val (pe_callB call_isi (by rfl) T.isinst (by decide +kernel) (pa_cons (pv 0) (pa_cons (pe_glob (v := .ref (cB K)) (by rfl) B.bGlo rfl) pa_nil))))) (pss_one (ps_raiseO rfl B.noBook (takes_of rfl rfl rfl rfl))) pss_nil)
      (pss_one (ps_ret (pe_join pe_str (pe_lst (pa_cons (pe_op op_add_str pe_str (pe_callTy call_str_int (by rfl) T.str (by decide +kernel) (pa_cons (pe_prb (pv 0) B.bCls R hr) pa_nil))) (pa_cons pe_str
        (StX.pa_star (pe_lc (own := [("deed", 1)]) (g := gName 1) (tt := tYes) rfl scBT.nd (pi_list (pe_meth0 (pv 0) B.bCls B.mLog FL r1 hL .nil pass0)) (blkOk_by (N := ["book", "deed"]) (sc := defScope (top 56)) (by decide +kernel))
            (fun _ _ _ _ _ => pg_name (i := 1) scBT.nd rfl (Or.inl rfl)) (fun _ _ _ _ _ => pts_nil) (fun _ _ _ _ _ => pe_fn GL r1 pass0 (pa_cons (pv 1) pa_nil))) pa_nil))))))), ?_⟩
    rcases h with ⟨b, l1, l2, n, ds, as, rfl, hB, n0, n1, ok, hlen, k⟩ | ⟨ty, h1, h2, h3⟩
    · obtain ⟨dx, l3, ps, dv, x0, as0, x, h1, _⟩ := id hB
      refine ⟨_, rfl, .ref b, .ref (cB K), _, _, true, rfl, .own _, ty_book B hB, kit_same, _, rfl, iteF ?_⟩
      refine ⟨⟨_, rfl⟩, ?_⟩
      refine ⟨_, rfl, b, dx, _, rfl, h1, b, l1, l2, n, ds, as, rfl, hB, n, rfl, log_small (by omega), _, _, rfl, rfl, line_small ?_, ?_⟩
      · rw [show (Str.ofString (toString n)).length = 1 from nS_len (by omega) (by omega)]
        decide +kernel
      refine ⟨_, rfl, b, dx, _, rfl, h1, rfl, b, l1, l2, n, ds, as, rfl, hB, fun l dv2 H1 hl s1 hv hp => ?_⟩
      have hlen2 := hp.length
      refine ⟨l, rfl, ⟨_, SqL.of hv⟩, fun D hD => lc_list (K := K) (a := l) (xs := dv2) (fun i H2 => Same H1 H2 ∧ H2 D = some (.lst (((ds.take i).map lineD).map V.str))) ⟨Same.upd hD, upd_same⟩ (fun i H2 _ h => SqL.of (h.1 _ _ hv)) ?_ ?_⟩
      · rintro i z H2 hz ⟨s2, hzl⟩
        obtain ⟨d, hd, hdv⟩ := Paired.at_ hp hz
        have hi := (List.getElem?_eq_some_iff.mp hd).1
        refine ⟨rfl, ?_⟩
        refine ⟨_, rfl, z, n, d, rfl, hdv.keep s2.tups, ok d (List.mem_of_getElem? hd), n1, fun H3 s3 => ⟨_, s3 _ _ hzl, small1000 (by rw [List.length_map, List.length_map, List.length_take]; omega), (s2.trans s3).put hD, ?_⟩⟩
        rw [upd_same, List.take_succ, hd, List.map_append, List.map_append]
        rfl
      · rintro H2 ⟨s2, hzl⟩
        rw [hlen2, List.take_of_length_le (Nat.le_refl _)] at hzl
        have ec : V.str (headS n) :: V.str (Str.ofString "book") :: ((ds.map lineD).map V.str ++ []) = (linesB n ds).map V.str := by rw [List.append_nil]; rfl
        refine ⟨D, _, rfl, .inr (SqL.of hzl), ?_, fun q hq => ?_⟩
        · show (V.str (headS n) :: V.str (Str.ofString "book") :: ((ds.map lineD).map V.str ++ [])).length ≤ sizeLine
          rw [ec, List.length_map]
          unfold linesB
          rw [List.length_cons, List.length_cons, List.length_map]
          exact line1000 (by omega)
        · refine ⟨_, q, linesB n ds, rfl, rfl, .inl (SqL.of ?_), Nat.le_trans (linesB_small n0 n1 ok hlen) (by decide), k _ ((s1.trans s2).trans (Same.upd hq))⟩
          rw [upd_same, ← ec]
          rfl
    · exact ⟨_, rfl, v, .ref (cB K), _, _, false, rfl, .own _, h1, h2, _, rfl, iteT (h3 H same_refl)⟩
theorem ok_bt (T : TxP P K mg) (C : TxC K mg) (B : TxB P K mg) (X : TxT K mg) : Fnc P w K mg base (L2.CX P w) 5 "planbook_text" ["book"] (spBT K) := (ok_btX T C B X).fnc
end
end K24
set_option maxHeartbeats 4000000
namespace K24
open PySem L2 PySem.EX PyProof.Rows
/-! ### dicts from lines to deeds -/
structure Dic (H : Hp) (kvs : List (Key × V)) (S : De → Prop) : Prop where
  snd : ∀ p ∈ kvs, ∃ d, p.1 = .inr (lineD d) ∧ DeedAt H p.2 d ∧ S d
  cmp : ∀ d, S d → ∃ p ∈ kvs, p.1 = Sum.inr (lineD d)
theorem mem_putK {kvs : List (Key × V)} {k : Key} {v : V} {p : Key × V} (h : p ∈ putK kvs k v) : p ∈ kvs ∨ p = (k, v) := by
  unfold putK at h
  split at h
  · obtain ⟨q, hq, e⟩ := List.mem_map.mp h
    by_cases c : q.1 = k
    · rw [if_pos c] at e
      exact .inr (by rw [← e, c])
    · rw [if_neg c] at e
      exact .inl (by rw [← e]; exact hq)
  · rcases List.mem_append.mp h with h | h
    · exact .inl h
    · exact .inr (List.mem_singleton.mp h)
theorem key_putK {kvs : List (Key × V)} {k j : Key} {v : V} (h : (∃ p ∈ kvs, p.1 = j) ∨ j = k) : ∃ p ∈ putK kvs k v, p.1 = j := by
  unfold putK
  split
  · rename_i c
    rcases h with ⟨p, hp, e⟩ | e
    · refine ⟨_, List.mem_map_of_mem hp, ?_⟩
      split
      · exact e
      · exact e
    · obtain ⟨p, hp, e2⟩ := List.any_eq_true.mp c
      have e3 : p.1 = k := of_decide_eq_true e2
      refine ⟨_, List.mem_map_of_mem hp, ?_⟩
      rw [if_pos e3]
      exact e3.trans e.symm
  · rcases h with ⟨p, hp, e⟩ | e
    · exact ⟨p, List.mem_append_left _ hp, e⟩
    · exact ⟨(k, v), List.mem_append_right _ List.mem_cons_self, e.symm⟩
theorem Dic.nil {H : Hp} : Dic H [] (fun _ => False) := ⟨fun p h => (by cases h), fun d h => False.elim h⟩
theorem Dic.congr {H : Hp} {kvs : List (Key × V)} {S S' : De → Prop} (h : Dic H kvs S) (e : ∀ d, S d ↔ S' d) : Dic H kvs S' :=
  ⟨fun p hp => (by obtain ⟨d, h1, h2, h3⟩ := h.snd p hp; exact ⟨d, h1, h2, (e d).mp h3⟩), fun d hd => h.cmp d ((e d).mpr hd)⟩
theorem Dic.keep {H H' : Hp} {kvs : List (Key × V)} {S : De → Prop} (h : Dic H kvs S) (k : ∀ b xs, H b = some (.tup xs) → H' b = some (.tup xs)) : Dic H' kvs S :=
  ⟨fun p hp => (by obtain ⟨d, h1, h2, h3⟩ := h.snd p hp; exact ⟨d, h1, h2.keep k, h3⟩), h.cmp⟩
theorem Dic.put {H : Hp} {kvs : List (Key × V)} {S : De → Prop} {d : De} {v : V} (h : Dic H kvs S) (hv : DeedAt H v d) : Dic H (putK kvs (.inr (lineD d)) v) (fun e => S e ∨ e = d) := by
  refine ⟨fun p hp => ?_, fun e he => ?_⟩
  · rcases mem_putK hp with hp | rfl
    · obtain ⟨e, h1, h2, h3⟩ := h.snd p hp
      exact ⟨e, h1, h2, .inl h3⟩
    · exact ⟨d, rfl, hv, .inr rfl⟩
  · rcases he with he | rfl
    · exact key_putK (.inl (h.cmp e he))
    · exact key_putK (.inr rfl)
theorem Dic.merge {H : Hp} {S T : De → Prop} : ∀ (more kvs : List (Key × V)), Dic H kvs S → (∀ p ∈ more, ∃ d, p.1 = .inr (lineD d) ∧ DeedAt H p.2 d ∧ T d) →
    (∀ p ∈ mergeK kvs more, ∃ d, p.1 = .inr (lineD d) ∧ DeedAt H p.2 d ∧ (S d ∨ T d)) ∧ ∀ j, ((∃ p ∈ kvs, p.1 = j) ∨ ∃ p ∈ more, p.1 = j) → ∃ p ∈ mergeK kvs more, p.1 = j := by
  have go : ∀ (more kvs : List (Key × V)), (∀ p ∈ kvs, ∃ d, p.1 = .inr (lineD d) ∧ DeedAt H p.2 d ∧ (S d ∨ T d)) → (∀ p ∈ more, ∃ d, p.1 = .inr (lineD d) ∧ DeedAt H p.2 d ∧ T d) →
      (∀ p ∈ mergeK kvs more, ∃ d, p.1 = .inr (lineD d) ∧ DeedAt H p.2 d ∧ (S d ∨ T d)) ∧ ∀ j, ((∃ p ∈ kvs, p.1 = j) ∨ ∃ p ∈ more, p.1 = j) → ∃ p ∈ mergeK kvs more, p.1 = j := by
    intro more
    induction more with
    | nil =>
      intro kvs h1 _
      refine ⟨h1, fun j h => ?_⟩
      rcases h with h | ⟨p, hp, _⟩
      · exact h
      · cases hp
    | cons q r ih =>
      intro kvs h1 h2
      have h3 := ih (putK kvs q.1 q.2) (fun p hp => by
        rcases mem_putK hp with hp | rfl
        · exact h1 p hp
        · obtain ⟨d, e1, e2, e3⟩ := h2 q List.mem_cons_self
          exact ⟨d, e1, e2, .inr e3⟩) fun p hp => h2 p (List.mem_cons_of_mem _ hp)
      refine ⟨h3.1, fun j h => h3.2 j ?_⟩
      rcases h with h | ⟨p, hp, e⟩
      · exact .inl (key_putK (.inl h))
      · rcases List.mem_cons.mp hp with rfl | hp
        · exact .inl (key_putK (.inr e.symm))
        · exact .inr ⟨p, hp, e⟩
  intro more kvs h1 h2
  exact go more kvs (fun p hp => by obtain ⟨d, e1, e2, e3⟩ := h1.snd p hp; exact ⟨d, e1, e2, .inl e3⟩) h2
theorem Dic.mrg {H : Hp} {S T : De → Prop} {ks ls : List (Key × V)} (h1 : Dic H ks S) (h2 : Dic H ls T) : Dic H (mergeK (mergeK [] ks) ls) (fun d => S d ∨ T d) := by
  have a := Dic.merge ks [] (Dic.nil (H := H)) h1.snd
  have a' : Dic H (mergeK [] ks) S := ⟨fun p hp => by
    obtain ⟨d, e1, e2, e3⟩ := a.1 p hp
    exact ⟨d, e1, e2, e3.resolve_left id⟩, fun d hd => a.2 _ (.inr (h1.cmp d hd))⟩
  have b := Dic.merge ls _ a' h2.snd
  exact ⟨b.1, fun d hd => by
    rcases hd with hd | hd
    · exact b.2 _ (.inl (a'.cmp d hd))
    · exact b.2 _ (.inr (h2.cmp d hd))⟩
theorem valV_mem {kvs : List (Key × V)} {k : Key} {v : V} (h : valV kvs k = some v) : (k, v) ∈ kvs := by
  unfold valV at h
  cases q : kvs.find? fun kv => decide (kv.1 = k) with
  | none => rw [q] at h; cases h
  | some p =>
    rw [q] at h
    have h1 := List.mem_of_find?_eq_some q
    have h2 := List.find?_some q
    have e1 : p.1 = k := of_decide_eq_true h2
    have e2 : p.2 = v := Option.some.inj h
    rw [← e1, ← e2]
    exact h1
/-- what a key leads to -/
theorem Dic.at_ {H : Hp} {S : De → Prop} {kvs : List (Key × V)} (h : Dic H kvs S) (l : Str) : (∃ v d, valV kvs (.inr l) = some v ∧ lineD d = l ∧ DeedAt H v d ∧ S d) ∨ (valV kvs (.inr l) = none ∧ ∀ d, S d → lineD d ≠ l) := by
  cases q : valV kvs (.inr l) with
  | some v =>
    obtain ⟨d, e1, e2, e3⟩ := h.snd _ (valV_mem q)
    exact .inl ⟨v, d, rfl, (Sum.inr.inj e1).symm, e2, e3⟩
  | none =>
    refine .inr ⟨rfl, fun d hd e => ?_⟩
    obtain ⟨p, hp, e1⟩ := h.cmp d hd
    have h2 := valV_any (.inr l) kvs
    rw [q] at h2
    have h3 : (kvs.any fun kv => decide (kv.1 = Sum.inr l)) = true := List.any_eq_true.mpr ⟨p, hp, decide_eq_true (by rw [e1, e])⟩
    rw [h3] at h2
    cases h2
end K24
set_option maxHeartbeats 4000000
namespace K24
open PySem L2 PySem.EX PyProof.Rows
structure TxF (K : PySem.W.Frag) (mg : Str → Option Value) : Prop where
  deeds : Def K mg "deeds_of" (top 57)
  flips : Def K mg "flips_of" (top 58)
  readPb : Def K mg "read_planbook" (top 59)
def SA (n : Int) (as : List Ar) (Z : Ar → Prop) (d : De) : Prop := ∃ m a, d = .arr m a ∧ Right n as (.arr m a) ∧ Z a
theorem SA_congr {n : Int} {as : List Ar} {Z Z' : Ar → Prop} (h : ∀ a, okA n a → (Z a ↔ Z' a)) (d : De) : SA n as Z d ↔ SA n as Z' d :=
  ⟨fun ⟨m, a, e, r, z⟩ => ⟨m, a, e, r, (h a r.1).mp z⟩, fun ⟨m, a, e, r, z⟩ => ⟨m, a, e, r, (h a r.1).mpr z⟩⟩
theorem SA_add {n : Int} {as : List Ar} {Z : Ar → Prop} {m0 : Bool} {a0 : Ar} (R : Right n as (.arr m0 a0)) (d : De) : (SA n as Z d ∨ d = .arr m0 a0) ↔ SA n as (fun a => Z a ∨ a = a0) d := by
  constructor
  · rintro (⟨m, a, e, r, z⟩ | e)
    · exact ⟨m, a, e, r, .inl z⟩
    · exact ⟨m0, a0, e, R, .inr rfl⟩
  · rintro ⟨m, a, e, r, z | z⟩
    · exact .inl ⟨m, a, e, r, z⟩
    · subst z
      have h1 := r.2
      have h2 := R.2
      rw [h1] at h2
      have : m = m0 := by cases m <;> cases m0 <;> first | rfl | cases h2
      exact .inr (by rw [e, this])
def Zp (i j : Int) (m : Nat) (a : Ar) : Prop := a.1 < i ∨ (a.1 = i ∧ (a.2.1 < j ∨ (a.2.1 = j ∧ ((0 < m ∧ a.2.2 = -1) ∨ (1 < m ∧ a.2.2 = 1)))))
section
variable {P : Program} {w : World} {K : PySem.W.Frag} {mg : Str → Option Value} {base : Heap}
def spDs (K : PySem.W.Frag) : Sp := fun vs H Q _ => ∃ (x : Addr) (n : Int) (as : List Ar), vs = [.ref x] ∧ PlanAt K H x n as ∧ 1 ≤ n ∧ n ≤ 5 ∧ ∀ (D : Addr) (kvs : List (Key × V)) H', Same H H' → H D = none → H' D = some (.dK kvs) → kvs.length ≤ 100 → Dic H' kvs (SA n as fun _ => True) → Q (.ref D) H'
theorem scDs : FnScope ["plan", "found", "source", "target", "sign", "arrow", "deed"] ["plan"] (defScope (top 57)) := ⟨rfl, rfl, rfl, by decide +kernel, rfl, by decide +kernel, by decide +kernel⟩
theorem ok_ds (T : TxP P K mg) (C : TxC K mg) (X : TxT K mg) (F : TxF K mg) : Fnc P w K mg base CX0 3 "deeds_of" ["plan"] (spDs K) := by
  have G : Fnc P w K mg base CX0 1 "deed_line" ["deed"] spDLn := ok_dLn T X
  refine fnc0 F.deeds scDs (fun vs H Q E h => ?_) (fun _ _ _ _ _ _ us hl => match us, hl with | [_], _ => rfl) (fun cdv A outer s H vs Q E hr h => ?_)
  · obtain ⟨x, n, as, rfl, _⟩ := h
    rfl
  · obtain ⟨x, n, as, rfl, ⟨dx, t, ys, e1, e2, e3⟩, n0, n1, k⟩ := h
    refine ⟨_, pss_cons (ps_set (i := 1) scDs.nd rfl (Or.inl rfl) pe_dnewK)
      (pss_cons (ps_for PassesOwn.never rfl (pi_range1 (by rfl) T.range (pa_cons (pe_prp (pv 0) C (prp_sw C) hr) pa_nil)) (pg_name (i := 2) scDs.nd rfl (Or.inl rfl))
        (pss_one (ps_for PassesOwn.never rfl (pi_range1 (by rfl) T.range (pa_cons (pe_prp (pv 0) C (prp_sw C) hr) pa_nil)) (pg_name (i := 3) scDs.nd rfl (Or.inl rfl))
          (pss_one (ps_for PassesOwn.never rfl (pi_tup (pe_tup (pa_cons (pe_un un_neg pe_int) (pa_cons pe_int pa_nil)))) (pg_name (i := 4) scDs.nd rfl (Or.inl rfl))
            (pss_cons (ps_set (i := 5) scDs.nd rfl (Or.inl rfl) (pe_tup (pa_cons (pv 2) (pa_cons (pv 3) (pa_cons (pv 4) pa_nil)))))
            (pss_cons (ps_set (i := 6) scDs.nd rfl (Or.inl rfl) (pe_tup (pa_cons (pe_ifExp (pt_cmpR (op_inDT (by have := hr.un; show (Around.deeper _ _).units + 65 < cLine; omega)) (pv 5) (pe_prp (pv 0) C (prp_ar C) hr) (by with_unfolding_all rfl)) pe_str pe_str) (pa_cons (pv 5) pa_nil))))
            (pss_one (ps_dput (Nat.lt_of_le_of_lt (Nat.add_le_add_left (by decide : 1 ≤ 64) _) hr.units) (pv 1) (pe_fn G (hr.mono (by decide)) pass0 (pa_cons (pv 6) pa_nil)) (pv 6) rfl)))))))))
      (pss_one (ps_ret (pv 1)))), ?_⟩
    refine fun D hD => ?_
    have sD : Same H (upd H D (.dK [])) := Same.upd hD
    have prS : ∀ {G : Hp} {σ : L2.St} {Q : VK}, Same H G → σ[0]? = some (some (.ref x)) → Q (.int n) G → tProp (cP K) (getSp (cP K) "own_switches") [] E0 (tVar 0) σ G Q := fun {G σ Q} s1 hσ q1 => ⟨_, hσ, x, dx, _, rfl, s1 _ _ e1, x, dx, _, .int n, rfl, s1 _ _ e1, rfl, q1⟩
    have prA : ∀ {G : Hp} {σ : L2.St} {Q : VK}, Same H G → σ[0]? = some (some (.ref x)) → Q (.ref t) G → tProp (cP K) (getSp (cP K) "own_arrows") [] E0 (tVar 0) σ G Q := fun {G σ Q} s1 hσ q1 => ⟨_, hσ, x, dx, _, rfl, s1 _ _ e1, x, dx, _, .ref t, rfl, s1 _ _ e1, rfl, q1⟩
    obtain ⟨N, rfl⟩ := Int.eq_ofNat_of_zero_le (show 0 ≤ n by omega)
    refine prS sD rfl ⟨(N : Int), rfl, by omega, by omega, for_range (lo := 0) (n := N) (fun i σ H2 => (∃ u2 u3 u4 u5 u6, σ = [some (.ref x), some (.ref D), u2, u3, u4, u5, u6]) ∧ Same H H2 ∧ ∃ kvs : List (Key × V), H2 D = some (.dK kvs) ∧ kvs.length ≤ 10 * i ∧ Dic H2 kvs (SA N as (Zp i 0 0))) ⟨⟨none, none, none, none, none, rfl⟩, sD, [], upd_same, Nat.le_refl _, Dic.nil.congr fun d => ⟨fun h => h.elim, ?_⟩⟩ ?_ ?_⟩
    · rintro ⟨m, a, _, r, z⟩
      obtain ⟨o1, _, o3, _, _⟩ := r.1
      unfold Zp at z
      omega
    · rintro i σ H2 hi ⟨⟨u2, u3, u4, u5, u6, rfl⟩, s2, kvs2, k2, l2, D2⟩
      refine prS s2 rfl ⟨(N : Int), rfl, by omega, by omega, for_range (lo := 0) (n := N) (fun j σ H3 => (∃ u3 u4 u5 u6, σ = [some (.ref x), some (.ref D), some (.int (0 + (i : Int))), u3, u4, u5, u6]) ∧ Same H H3 ∧ ∃ kvs : List (Key × V), H3 D = some (.dK kvs) ∧ kvs.length ≤ 10 * i + 2 * j ∧ Dic H3 kvs (SA N as (Zp i j 0))) ⟨⟨_, _, _, _, rfl⟩, s2, kvs2, k2, by omega, D2⟩ ?_ ?_⟩
      · rintro j σ H3 hj ⟨⟨u3, u4, u5, u6, rfl⟩, s3, kvs3, k3, l3, D3⟩
        refine ⟨_, rfl, (by show 2 ≤ sizeLine; decide), fun a ha => ⟨a, rfl, ⟨_, SqT.of upd_same⟩, ?_⟩⟩
        have sa : Same H3 (upd H3 a (.tup [.int (-1), .int 1])) := Same.upd ha
        refine for_tup (K := K) (a := a) (xs := [.int (-1), .int 1]) (fun m σ H4 => (∃ u4 u5 u6, σ = [some (.ref x), some (.ref D), some (.int (0 + (i : Int))), some (.int (0 + (j : Int))), u4, u5, u6]) ∧ Same H H4 ∧ H4 a = some (.tup [.int (-1), .int 1]) ∧ ∃ kvs : List (Key × V), H4 D = some (.dK kvs) ∧ kvs.length ≤ 10 * i + 2 * j + m ∧ Dic H4 kvs (SA N as (Zp i j m))) ⟨⟨u4, u5, u6, rfl⟩, s3.trans sa, upd_same, kvs3, sa _ _ k3, l3, D3.keep sa.tups⟩ (fun m σ H4 _ h => SqT.of h.2.2.1) ?_ ?_
        · rintro m v σ H4 hv ⟨⟨u4, u5, u6, rfl⟩, s4, ha4, kvs4, k4, l4, D4⟩
          have hm2 : m < 2 := (List.getElem?_eq_some_iff.mp hv).1
          obtain ⟨g, rfl, hg1, hg2⟩ : ∃ g : Int, v = .int g ∧ (g = 1 ∨ g = -1) ∧ ∀ b : Int, (b = 1 ∨ b = -1) → (((0 < m ∧ b = -1) ∨ (1 < m ∧ b = 1)) ∨ b = g ↔ ((0 < m + 1 ∧ b = -1) ∨ (1 < m + 1 ∧ b = 1))) := by
            match m, hv with
            | 0, hv => cases hv; exact ⟨-1, rfl, .inr rfl, fun b hb => by omega⟩
            | 1, hv => cases hv; exact ⟨1, rfl, .inl rfl, fun b hb => by omega⟩
            | m + 2, hv => simp at hv
          refine ⟨_, rfl, _, rfl, _, rfl, (by show 3 ≤ sizeLine; decide), fun b hb => ?_⟩
          generalize ea : (((0 + (i : Int)), (0 + (j : Int)), g) : Ar) = ar
          have okar : okA N ar := by rw [← ea]; exact ⟨by show 0 ≤ 0 + (i : Int); omega, by show 0 + (i : Int) < N; omega, by show 0 ≤ 0 + (j : Int); omega, by show 0 + (j : Int) < N; omega, hg1⟩
          have sb : Same H4 (upd H4 b (.tup ((arL ar).map V.int))) := Same.upd hb
          have s5 := s4.trans sb
          have hbb : (upd H4 b (.tup ((arL ar).map V.int))) b = some (.tup ((arL ar).map V.int)) := upd_same
          have eb : HO.tup [.int (0 + (i : Int)), .int (0 + (j : Int)), .int g] = HO.tup ((arL ar).map V.int) := by rw [← ea]; rfl
          rw [eb]
          generalize (upd H4 b (.tup ((arL ar).map V.int))) = H5 at sb s5 hbb ⊢
          refine ⟨_, rfl, prA s5 rfl ⟨arD ar, as.map arD, ArV.dp ⟨b, rfl, hbb⟩, .tup (SqT.of (s5 _ _ e2)) (e3.keep s5.tups).dp, shaped_ar ar, shaped_ars as, _, rfl, ?_⟩⟩
          rw [eqv_mem]
          have fin : ∀ (mm : Bool), decide (ar ∈ as) = !mm → ∀ c H6, Same H5 H6 → H6 c = some (.tup [.str (De.arr mm ar).kind, .ref b]) →
              DeedAt H6 (.ref c) (.arr mm ar) ∧ okD N (.arr mm ar) ∧ ∀ H7, Same H6 H7 → DPut H7 D (.str (lineD (.arr mm ar))) (.ref c) (upd H7 D (.dK (putK kvs4 (.inr (lineD (.arr mm ar))) (.ref c)))) ∧
                Same H (upd H7 D (.dK (putK kvs4 (.inr (lineD (.arr mm ar))) (.ref c)))) ∧ (upd H7 D (.dK (putK kvs4 (.inr (lineD (.arr mm ar))) (.ref c)))) a = some (.tup [.int (-1), .int 1]) ∧
                ∃ kvs : List (Key × V), (upd H7 D (.dK (putK kvs4 (.inr (lineD (.arr mm ar))) (.ref c)))) D = some (.dK kvs) ∧ kvs.length ≤ 10 * i + 2 * j + (m + 1) ∧ Dic (upd H7 D (.dK (putK kvs4 (.inr (lineD (.arr mm ar))) (.ref c)))) kvs (SA N as (Zp i j (m + 1))) := by
            intro mm hmm c H6 s6 hc
            have rt : Right N as (.arr mm ar) := ⟨okar, hmm⟩
            have da : DeedAt H6 (.ref c) (.arr mm ar) := ⟨c, b, rfl, hc, s6 _ _ hbb⟩
            refine ⟨da, okar, fun H7 s7 => ?_⟩
            have s47 := sb.trans (s6.trans s7)
            have k7 := s47 _ _ k4
            have kt : ∀ (o : HO) b xs, H7 b = some (.tup xs) → (upd H7 D o) b = some (.tup xs) := fun o b xs e => by
              rw [upd_ne (ne_of e k7 (by intro z; cases z))]; exact e
            refine ⟨DPut.k (k := .inr (lineD (.arr mm ar))) k7 (small1000 (by omega)), fun q o hq => ?_, kt _ _ _ (s47 _ _ ha4), _, upd_same, Nat.le_trans (length_putK _ _ _) (by omega), ?_⟩
            · rw [upd_ne (ne_of_none hq hD)]
              exact (s4.trans s47) _ _ hq
            · refine (Dic.put ((D4.keep s47.tups).keep (kt _)) ((da.keep s7.tups).keep (kt _))).congr fun d => (SA_add rt d).trans (SA_congr (fun q oq => ?_) d)
              obtain ⟨q1, q2, q3⟩ := q
              have h3 := hg2 q3 oq.2.2.2.2
              subst ea
              unfold Zp
              simp only [Prod.mk.injEq]
              constructor
              · rintro (h | ⟨h4, h5, h6⟩)
                · rcases h with h | ⟨h, h7⟩
                  · exact .inl h
                  · refine .inr ⟨h, ?_⟩
                    rcases h7 with h7 | ⟨h7, h8⟩
                    · exact .inl h7
                    · exact .inr ⟨h7, h3.mp (.inl h8)⟩
                · exact .inr ⟨by omega, .inr ⟨by omega, h3.mp (.inr h6)⟩⟩
              · rintro (h | ⟨h, h7⟩)
                · exact .inl (.inl h)
                · rcases h7 with h7 | ⟨h7, h8⟩
                  · exact .inl (.inr ⟨h, .inl h7⟩)
                  · rcases h3.mpr h8 with h9 | h9
                    · exact .inl (.inr ⟨h, .inr ⟨h7, h9⟩⟩)
                    · exact .inr ⟨by omega, by omega, h9⟩
          refine ite2 (fun hc => ?_) (fun hc => ?_)
          · refine ⟨_, rfl, (by show 2 ≤ sizeLine; decide), fun c hcn => ?_⟩
            obtain ⟨q1, q2, q3⟩ := fin false (by rw [of_decide_eq_true hc |> decide_eq_true]; rfl) c _ (Same.upd hcn) upd_same
            refine ⟨_, rfl, _, rfl, _, rfl, .ref c, N, _, rfl, q1, q2, n1, fun H7 s7 => ?_⟩
            obtain ⟨q4, q5, q6, q7⟩ := q3 H7 s7
            exact ⟨D, _, rfl, q4, ⟨_, _, _, rfl⟩, q5, q6, q7⟩
          · refine ⟨_, rfl, (by show 2 ≤ sizeLine; decide), fun c hcn => ?_⟩
            obtain ⟨q1, q2, q3⟩ := fin true (by rw [decide_eq_false (fun e => hc (decide_eq_true e))]; rfl) c _ (Same.upd hcn) upd_same
            refine ⟨_, rfl, _, rfl, _, rfl, .ref c, N, _, rfl, q1, q2, n1, fun H7 s7 => ?_⟩
            obtain ⟨q4, q5, q6, q7⟩ := q3 H7 s7
            exact ⟨D, _, rfl, q4, ⟨_, _, _, rfl⟩, q5, q6, q7⟩
        · rintro σ H4 ⟨⟨u4, u5, u6, rfl⟩, s4, ha4, kvs4, k4, l4, D4⟩
          refine ⟨⟨_, u4, u5, u6, rfl⟩, s4, kvs4, k4, ?_, D4.congr (SA_congr fun q oq => ?_)⟩
          · have l4' : kvs4.length ≤ 10 * i + 2 * j + 2 := l4
            omega
          · obtain ⟨q1, q2, q3⟩ := q
            have h5 := oq.2.2.2.2
            unfold Zp
            show _ ∨ _ ∧ (_ ∨ _ ∧ ((0 < 2 ∧ _) ∨ (1 < 2 ∧ _))) ↔ _
            simp only at h5 ⊢
            omega
      · rintro σ H3 ⟨⟨u3, u4, u5, u6, rfl⟩, s3, kvs3, k3, l3, D3⟩
        refine ⟨⟨_, _, _, _, _, rfl⟩, s3, kvs3, k3, by omega, D3.congr (SA_congr fun q oq => ?_)⟩
        obtain ⟨q1, q2, q3⟩ := q
        obtain ⟨o1, o2, o3, o4, o5⟩ := oq
        unfold Zp
        simp only at o1 o2 o3 o4 o5 ⊢
        omega
    · rintro σ H2 ⟨⟨u2, u3, u4, u5, u6, rfl⟩, s2, kvs2, k2, l2, D2⟩
      refine ⟨_, rfl, k D kvs2 H2 s2 hD k2 (by omega) (D2.congr (SA_congr fun q oq => ⟨fun _ => True.intro, fun _ => ?_⟩))⟩
      exact .inl oq.2.1
end
end K24
set_option maxHeartbeats 4000000
namespace K24
open PySem L2 PySem.EX PyProof.Rows
/-! ### lots of switches -/
def subs : Nat → List (List Int)
  | 0 => [[]]
  | k + 1 => subs k ++ (subs k).map fun ns => ns ++ [(k : Int)]
theorem subs_len : ∀ k, (subs k).length = 2 ^ k
  | 0 => rfl
  | k + 1 => by
    unfold subs
    rw [List.length_append, List.length_map, subs_len k, Nat.pow_succ]
    omega
theorem rises_nil : Rises [] := fun i x y h => by simp at h
theorem rises_snoc {ns : List Int} {z : Int} (h : Rises ns) (hz : ∀ x ∈ ns, x < z) : Rises (ns ++ [z]) := by
  intro i x y hx hy
  rw [List.getElem?_append] at hx hy
  by_cases h1 : i + 1 < ns.length
  · rw [if_pos (by omega)] at hx
    rw [if_pos h1] at hy
    exact h i x y hx hy
  · rw [if_neg h1] at hy
    by_cases h2 : i < ns.length
    · rw [if_pos h2] at hx
      have e : i + 1 - ns.length = 0 := by omega
      rw [e] at hy
      have ey : y = z := by simpa using hy.symm
      rw [ey]
      exact hz x (List.mem_of_getElem? hx)
    · rw [if_neg h2] at hx
      have e : ∃ q, i + 1 - ns.length = q + 1 := ⟨i - ns.length, by omega⟩
      obtain ⟨q, e⟩ := e
      rw [e] at hy
      simp at hy
theorem subs_ok : ∀ (k : Nat) (ns : List Int), ns ∈ subs k → (∀ x ∈ ns, 0 ≤ x ∧ x < k) ∧ Rises ns ∧ ns.length ≤ k
  | 0, ns, h => by
    have e : ns = [] := by simpa [subs] using h
    subst e
    exact ⟨fun x hx => by simp at hx, rises_nil, Nat.le_refl _⟩
  | k + 1, ns, h => by
    unfold subs at h
    rcases List.mem_append.mp h with h | h
    · obtain ⟨h1, h2, h3⟩ := subs_ok k ns h
      exact ⟨fun x hx => ⟨(h1 x hx).1, by have := (h1 x hx).2; omega⟩, h2, by omega⟩
    · obtain ⟨ms, hm, rfl⟩ := List.mem_map.mp h
      obtain ⟨h1, h2, h3⟩ := subs_ok k ms hm
      refine ⟨fun x hx => ?_, rises_snoc h2 fun x hx => (h1 x hx).2, by rw [List.length_append, List.length_singleton]; omega⟩
      rcases List.mem_append.mp hx with hx | hx
      · exact ⟨(h1 x hx).1, by have := (h1 x hx).2; omega⟩
      · rw [List.mem_singleton.mp hx]
        exact ⟨by omega, by omega⟩
theorem rises_init {ns : List Int} {z : Int} (h : Rises (ns ++ [z])) : Rises ns ∧ ∀ x ∈ ns, x < z := by
  have h1 : Rises ns := fun i x y hx hy => by
    have a := (List.getElem?_eq_some_iff.mp hx).1
    have b := (List.getElem?_eq_some_iff.mp hy).1
    exact h i x y (by rw [List.getElem?_append, if_pos a]; exact hx) (by rw [List.getElem?_append, if_pos b]; exact hy)
  refine ⟨h1, ?_⟩
  have go : ∀ (d i : Nat) (x : Int), ns.length = i + 1 + d → ns[i]? = some x → x < z := by
    intro d
    induction d with
    | zero =>
      intro i x e hx
      refine h i x z (by rw [List.getElem?_append, if_pos (by omega)]; exact hx) ?_
      rw [List.getElem?_append, if_neg (by omega), show i + 1 - ns.length = 0 by omega]
      rfl
    | succ d ih =>
      intro i x e hx
      have hlt : i + 1 < ns.length := by omega
      have hy : ns[i + 1]? = some ns[i + 1] := List.getElem?_eq_getElem hlt
      have a := h1 i x _ hx hy
      have b := ih (i + 1) _ (by omega) hy
      omega
  intro x hx
  obtain ⟨i, hi, e⟩ := List.getElem_of_mem hx
  exact go (ns.length - i - 1) i x (by omega) (by rw [List.getElem?_eq_getElem hi, e])
theorem mem_subs : ∀ (k : Nat) (ns : List Int), (∀ x ∈ ns, 0 ≤ x ∧ x < k) → Rises ns → ns ∈ subs k
  | 0, ns, h, _ => by
    cases ns with
    | nil => simp [subs]
    | cons a t => have := h a List.mem_cons_self; omega
  | k + 1, ns, h, r => by
    unfold subs
    rcases List.eq_nil_or_concat ns with rfl | ⟨ms, z, e⟩
    · exact List.mem_append_left _ (mem_subs k [] (fun x hx => by simp at hx) rises_nil)
    · rw [List.concat_eq_append] at e
      subst e
      obtain ⟨r1, r2⟩ := rises_init r
      have hz := h z (List.mem_append_right _ List.mem_cons_self)
      have hm : ∀ x ∈ ms, 0 ≤ x ∧ x < z := fun x hx => ⟨(h x (List.mem_append_left _ hx)).1, r2 x hx⟩
      by_cases e : z = k
      · subst e
        exact List.mem_append_right _ (List.mem_map.mpr ⟨ms, mem_subs k ms hm r1, rfl⟩)
      · refine List.mem_append_left _ (mem_subs k _ (fun x hx => ?_) r)
        rcases List.mem_append.mp hx with hx | hx
        · have := hm x hx; omega
        · rw [List.mem_singleton.mp hx]; omega
theorem mem_subs_iff {k : Nat} {ns : List Int} (hk : k ≤ 5) : ns ∈ subs k ↔ okF k ns :=
  ⟨fun h => by obtain ⟨h1, h2, h3⟩ := subs_ok k ns h; exact ⟨h1, h2, by omega⟩, fun h => mem_subs k ns h.1 h.2.1⟩
/-- a tuple of ints -/
def IntsV (H : Hp) (v : V) (ns : List Int) : Prop := ∃ p, v = .ref p ∧ H p = some (.tup (ns.map V.int))
theorem IntsV.keep {H H' : Hp} {v : V} {ns : List Int} (h : IntsV H v ns) (k : ∀ b xs, H b = some (.tup xs) → H' b = some (.tup xs)) : IntsV H' v ns := by
  obtain ⟨p, e, h⟩ := h
  exact ⟨p, e, k _ _ h⟩
abbrev IntsVs (H : Hp) : List V → List (List Int) → Prop := Paired (IntsV H)
theorem IntsVs.keep {H H' : Hp} {vs : List V} {ns : List (List Int)} (h : IntsVs H vs ns) (k : ∀ b xs, H b = some (.tup xs) → H' b = some (.tup xs)) : IntsVs H' vs ns := Paired.imp (fun _ _ h => h.keep k) h
theorem Paired.app {α β : Type} {F : α → β → Prop} : ∀ {l l2 : List α} {m m2 : List β}, Paired F l m → Paired F l2 m2 → Paired F (l ++ l2) (m ++ m2)
  | _, _, _, _, .nil, h => h
  | _, _, _, _, .cons h t, q => .cons h (Paired.app t q)
section
variable {P : Program} {w : World} {K : PySem.W.Frag} {mg : Str → Option Value} {base : Heap}
theorem dc_lst {K : PySem.W.Frag} {a : Addr} {xs : List V} {g : TG} {tt : TT} {tk tv : TE} {vs : List Nat} {σ : L2.St} {H1 : Hp} {D : Addr} {Qd : Hp → Prop} (Pv : Nat → Hp → Prop) (h0 : Pv 0 (upd H1 D (.dK []))) (hl : ∀ i H, i ≤ xs.length → Pv i H → SqL K H a xs)
    (hs : ∀ i x H, xs[i]? = some x → Pv i H → g x (wipe σ vs) H fun σ2 H2 => wipe σ2 vs = wipe σ vs ∧ tt σ2 H2 fun b H3 =>
      if b = true then tk σ2 H3 fun y H4 => tv σ2 H4 fun z H5 => ∃ kvs k, y = kV k ∧ H5 D = some (.dK kvs) ∧ kvs.length < sizeLine ∧ Pv (i + 1) (upd H5 D (.dK (putK kvs k z))) else Pv (i + 1) H3) (hd : ∀ H, Pv xs.length H → Qd H) :
    ∃ W : Nat → Nat → Hp → Prop, (∃ m, W 0 m (upd H1 D (.dK []))) ∧ ∀ i m H, W i m H →
      ((Itl K a).stop i H ∧ Qd H) ∨ ((Itl K a).go i H ∧ ∃ Nx : Hp → Prop, (∀ H', Nx H' → ∃ m', m' < m ∧ W (i + 1) m' H') ∧ ∀ x H', (Itl K a).yld i H x H' → g x (wipe σ vs) H' fun σ2 H2 => wipe σ2 vs = wipe σ vs ∧ tt σ2 H2 fun b H3 =>
        if b = true then tk σ2 H3 fun y H4 => tv σ2 H4 fun z H5 => ∃ kvs k, y = kV k ∧ H5 D = some (.dK kvs) ∧ kvs.length < sizeLine ∧ Nx (upd H5 D (.dK (putK kvs k z))) else Nx H3) := by
  refine ⟨fun i m H => m = xs.length - i ∧ i ≤ xs.length ∧ Pv i H, ⟨xs.length, by simp, Nat.zero_le _, h0⟩, ?_⟩
  rintro i m H ⟨rfl, hi, p⟩
  have q := hl i H hi p
  by_cases hlt : i < xs.length
  · refine .inr ⟨⟨xs, xs[i], q, by simp [hlt]⟩, Pv (i + 1), fun H' p' => ⟨xs.length - (i + 1), by omega, rfl, hlt, p'⟩, fun x H' y => ?_⟩
    obtain ⟨e, y⟩ := y
    subst e
    exact hs i x _ (y xs q) p
  · have e : i = xs.length := by omega
    subst e
    exact .inl ⟨⟨xs, q, Nat.le_refl _⟩, hd H p⟩
def SF (n : Int) (d : De) : Prop := ∃ ns, d = .flip ns ∧ okF n ns
def spFs (K : PySem.W.Frag) : Sp := fun vs H Q _ => ∃ (x : Addr) (n : Int) (as : List Ar), vs = [.ref x] ∧ PlanAt K H x n as ∧ 1 ≤ n ∧ n ≤ 5 ∧ ∀ (D : Addr) (kvs : List (Key × V)) H', Same H H' → H D = none → H' D = some (.dK kvs) → kvs.length ≤ 100 → Dic H' kvs (SF n) → Q (.ref D) H'
theorem scFs : FnScope ["plan", "several", "switch", "asked"] ["plan"] (defScope (top 58)) := ⟨rfl, rfl, rfl, by decide +kernel, rfl, by decide +kernel, by decide +kernel⟩
theorem ok_fs (T : TxP P K mg) (C : TxC K mg) (X : TxT K mg) (F : TxF K mg) : Fnc P w K mg base CX0 3 "flips_of" ["plan"] (spFs K) := by
  have G : Fnc P w K mg base CX0 1 "deed_line" ["deed"] spDLn := ok_dLn T X
  refine fnc0 F.flips scFs (fun vs H Q E h => ?_) (fun _ _ _ _ _ _ us hl => match us, hl with | [_], _ => rfl) (fun cdv A outer s H vs Q E hr h => ?_)
  · obtain ⟨x, n, as, rfl, _⟩ := h
    rfl
  · obtain ⟨x, n, as, rfl, ⟨dx, t, ys, e1, e2, e3⟩, n0, n1, k⟩ := h
    refine ⟨_, pss_cons (ps_set (i := 1) scFs.nd rfl (Or.inl rfl) (pe_lst (pa_cons (pe_tup pa_nil) pa_nil)))
      (pss_cons (ps_for PassesOwn.never rfl (pi_range1 (by rfl) T.range (pa_cons (pe_prp (pv 0) C (prp_sw C) hr) pa_nil)) (pg_name (i := 2) scFs.nd rfl (Or.inr rfl))
        (pss_one (ps_expr (pe_bm PySem.F.plainAttrs_list PySem.F.slot_list_extend PySem.F.type_list_extend mt_extend (pv 1) (pa_cons
          (pe_lc (own := [("asked", 3)]) (g := gName 3) (tt := tYes) (te := tTup (StX.tStar K (tVar 3) (tCons (tVar 2) tNil))) rfl scFs.nd (pi_list (pv 1)) (blkOk_by (N := ["plan", "several", "switch", "asked"]) (sc := defScope (top 58)) (by decide +kernel))
            (fun _ _ _ _ _ => pg_name (i := 3) scFs.nd rfl (Or.inl rfl)) (fun _ _ _ _ _ => pts_nil) (fun _ _ _ _ _ => pe_tup (StX.pa_star (pv 3) (pa_cons (pv 2) pa_nil)))) pa_nil)))))
      (pss_one (ps_ret (pe_dc (own := [("asked", 3)]) (g := gName 3) (tt := tYes) rfl scFs.nd (pi_list (pv 1)) (blkOk_by (N := ["plan", "several", "switch", "asked"]) (sc := defScope (top 58)) (by decide +kernel))
            (fun _ _ _ _ _ => pg_name (i := 3) scFs.nd rfl (Or.inl rfl)) (fun _ _ _ _ _ => pts_nil) (fun _ _ _ _ _ => pe_fn G (hr.mono (by decide)) pass0 (pa_cons (pe_tup (pa_cons pe_str (pa_cons (pv 3) pa_nil))) pa_nil)) (fun _ _ _ _ _ => pe_tup (pa_cons pe_str (pa_cons (pv 3) pa_nil))))))), ?_⟩
    refine ⟨by decide, fun e he => ⟨(by show 1 ≤ sizeLine; decide), fun l hl => ?_⟩⟩
    have hl0 : H l = none := (Same.upd he).free hl
    have sl : Same H (upd (upd H e (.tup [])) l (.lst [.ref e])) := (Same.upd he).trans (Same.upd hl)
    have he1 : (upd (upd H e (.tup [])) l (.lst [.ref e])) e = some (.tup []) := (Same.upd hl) _ _ upd_same
    obtain ⟨N, rfl⟩ := Int.eq_ofNat_of_zero_le (show 0 ≤ n by omega)
    have hN : N ≤ 5 := by omega
    refine ⟨_, rfl, x, dx, _, rfl, sl _ _ e1, x, dx, _, .int N, rfl, sl _ _ e1, rfl, N, rfl, by omega, by omega, for_range (lo := 0) (n := N) (fun i σ H2 => (∃ u2 u3, σ = [some (.ref x), some (.ref l), u2, u3]) ∧ Same H H2 ∧ ∃ vs, H2 l = some (.lst vs) ∧ IntsVs H2 vs (subs i)) ⟨⟨none, none, rfl⟩, sl, _, upd_same, .cons ⟨e, rfl, he1⟩ .nil⟩ ?_ ?_⟩
    · rintro i σ H2 hi ⟨⟨u2, u3, rfl⟩, s2, vs, hv, hp⟩
      have hlen : vs.length = 2 ^ i := by rw [hp.length, subs_len]
      have hlen32 : vs.length ≤ 32 := by rw [hlen]; exact Nat.pow_le_pow_right (by decide) (show i ≤ 5 by omega)
      refine ⟨_, rfl, .inl ⟨rfl, _, SqL.of hv⟩, ?_⟩
      refine ⟨_, rfl, l, rfl, ⟨_, SqL.of hv⟩, fun D hD => lc_list (K := K) (a := l) (xs := vs) (fun j H3 => Same H2 H3 ∧ ∃ ws, H3 D = some (.lst ws) ∧ IntsVs H3 ws (((subs i).take j).map fun ns => ns ++ [(i : Int)])) ⟨Same.upd hD, [], upd_same, .nil⟩ (fun j H3 _ h => SqL.of (h.1 _ _ hv)) ?_ ?_⟩
      · rintro j v H3 hvj ⟨s3, ws, hw, hwp⟩
        obtain ⟨ns, hns, p, rfl, hpp⟩ := Paired.at_ hp hvj
        have hj := (List.getElem?_eq_some_iff.mp hns).1
        refine ⟨rfl, ?_⟩
        refine ⟨_, rfl, p, ns.map V.int, rfl, .inl (SqT.of (s3 _ _ hpp)), _, rfl, ?_, fun e2 he2 => ?_⟩
        · obtain ⟨_, _, q3⟩ := subs_ok i ns (List.mem_of_getElem? hns)
          rw [List.length_append, List.length_map, List.length_singleton]
          exact line1000 (by omega)
        have e0 : ns.map V.int ++ [V.int (0 + (i : Int))] = (ns ++ [(i : Int)]).map V.int := by rw [List.map_append, Int.zero_add]; rfl
        have s4 : Same H3 (upd H3 e2 (.tup (ns.map V.int ++ [V.int (0 + (i : Int))]))) := Same.upd he2
        refine ⟨ws, s4 _ _ hw, small1000 (by have := hwp.length; rw [List.length_map, List.length_take, subs_len] at this; rw [subs_len] at hj; omega), ?_, _, upd_same, ?_⟩
        · exact (s3.trans s4).put hD
        · have kt : ∀ b xs, (upd H3 e2 (.tup (ns.map V.int ++ [V.int (0 + (i : Int))]))) b = some (.tup xs) → (upd (upd H3 e2 (.tup (ns.map V.int ++ [V.int (0 + (i : Int))]))) D (.lst (ws ++ [.ref e2]))) b = some (.tup xs) := fun b xs q => by
            rw [upd_ne (ne_of q (s4 _ _ hw) (by intro z; cases z))]; exact q
          rw [List.take_succ, hns, List.map_append]
          refine Paired.snoc ((hwp.keep s4.tups).keep kt) ⟨e2, rfl, kt _ _ ?_⟩
          rw [upd_same, e0]
      · rintro H3 ⟨s3, ws, hw, hwp⟩
        rw [hp.length, List.take_of_length_le (Nat.le_refl _)] at hwp
        have h3l := s3 _ _ hv
        have lw : ws.length ≤ 32 := by rw [hwp.length, List.length_map, subs_len, ← hlen]; exact hlen32
        refine ⟨l, D, vs, ws, rfl, rfl, h3l, hw, line1000 (by omega), ?_⟩
        have kt : ∀ b xs, H3 b = some (.tup xs) → (upd H3 l (.lst (vs ++ ws))) b = some (.tup xs) := fun b xs q => by
          rw [upd_ne (ne_of q h3l (by intro z; cases z))]; exact q
        exact ⟨⟨_, _, rfl⟩, (s2.trans s3).put hl0, _, upd_same, Paired.app ((hp.keep s3.tups).keep kt) (hwp.keep kt)⟩
    · rintro σ H2 ⟨⟨u2, u3, rfl⟩, s2, vs, hv, hp⟩
      have hlen32 : vs.length ≤ 32 := by rw [hp.length, subs_len]; exact Nat.pow_le_pow_right (by decide) hN
      refine ⟨_, rfl, l, rfl, ⟨_, SqL.of hv⟩, fun D hD => dc_lst (K := K) (a := l) (xs := vs) (fun j H3 => Same H2 H3 ∧ ∃ kvs : List (Key × V), H3 D = some (.dK kvs) ∧ kvs.length ≤ j ∧ Dic H3 kvs (fun d => ∃ ns ∈ (subs N).take j, d = .flip ns)) ⟨Same.upd hD, [], upd_same, Nat.le_refl _, Dic.nil.congr fun d => ⟨fun h => h.elim, fun ⟨ns, h, _⟩ => by simp at h⟩⟩ (fun j H3 _ h => SqL.of (h.1 _ _ hv)) ?_ ?_⟩
      · rintro j v H3 hvj ⟨s3, kvs, hk, lk, hD3⟩
        obtain ⟨ns, hns, p, rfl, hpp⟩ := Paired.at_ hp hvj
        have hj := (List.getElem?_eq_some_iff.mp hvj).1
        refine ⟨rfl, ?_⟩
        have okn : okF N ns := (mem_subs_iff hN).mp (List.mem_of_getElem? hns)
        refine ⟨_, rfl, (by show 2 ≤ sizeLine; decide), fun c hc => ?_⟩
        have sc : Same H3 (upd H3 c (.tup [.str "flip", .ref p])) := Same.upd hc
        refine ⟨.ref c, N, .flip ns, rfl, ⟨c, p, rfl, upd_same, sc _ _ (s3 _ _ hpp)⟩, okn, n1, fun H5 s5 => ?_⟩
        refine ⟨_, rfl, (by show 2 ≤ sizeLine; decide), fun c2 hc2 => ?_⟩
        have s6 : Same H3 (upd H5 c2 (.tup [.str "flip", .ref p])) := (sc.trans s5).trans (Same.upd hc2)
        have k6 := s6 _ _ hk
        have kt : ∀ (o : HO) b xs, (upd H5 c2 (.tup [.str "flip", .ref p])) b = some (.tup xs) → (upd (upd H5 c2 (.tup [.str "flip", .ref p])) D o) b = some (.tup xs) := fun o b xs q => by
          rw [upd_ne (ne_of q k6 (by intro z; cases z))]; exact q
        refine ⟨kvs, .inr (lineD (.flip ns)), rfl, k6, small1000 (by omega), (s3.trans s6).put hD, _, upd_same, Nat.le_trans (length_putK _ _ _) (by omega), ?_⟩
        refine (Dic.put ((hD3.keep s6.tups).keep (kt _)) (d := .flip ns) ⟨c2, p, rfl, kt _ _ _ upd_same, kt _ _ _ (s6 _ _ (s3 _ _ hpp))⟩).congr fun d => ?_
        rw [List.take_succ, hns]
        constructor
        · rintro (⟨ms, h1, h2⟩ | h)
          · exact ⟨ms, List.mem_append_left _ h1, h2⟩
          · exact ⟨ns, List.mem_append_right _ (by simp), h⟩
        · rintro ⟨ms, h1, h2⟩
          rcases List.mem_append.mp h1 with h1 | h1
          · exact .inl ⟨ms, h1, h2⟩
          · have e : ms = ns := by simpa using h1
            exact .inr (by rw [h2, e])
      · rintro H3 ⟨s3, kvs, hk, lk, hD3⟩
        refine k D kvs H3 (s2.trans s3) (s2.free hD) hk (by omega) (hD3.congr fun d => ?_)
        rw [hp.length, List.take_of_length_le (Nat.le_refl _)]
        exact ⟨fun ⟨ns, h1, h2⟩ => ⟨ns, h2, (mem_subs_iff hN).mp h1⟩, fun ⟨ns, h1, h2⟩ => ⟨ns, (mem_subs_iff hN).mpr h2, h1⟩⟩
end
end K24
set_option maxHeartbeats 4000000
namespace K24
open PySem L2 PySem.EX PyProof.Rows
/-- lines that lead from arrows to arrows -/
inductive Run (n : Int) : List Ar → List Str → List De → List Ar → Prop where
  | nil {as : List Ar} : Run n as [] [] as
  | cons {as bs : List Ar} {d : De} {ls : List Str} {ds : List De} (r : Right n as d) (t : Run n (nextA as d) ls ds bs) : Run n as (lineD d :: ls) (d :: ds) bs
theorem Run.snoc {n : Int} {d : De} : ∀ {as bs : List Ar} {ls : List Str} {ds : List De}, Run n as ls ds bs → Right n bs d → Run n as (ls ++ [lineD d]) (ds ++ [d]) (nextA bs d)
  | _, _, _, _, .nil, r => .cons r .nil
  | _, _, _, _, .cons r t, q => .cons r (Run.snoc t q)
theorem Run.ok {n : Int} : ∀ {as bs : List Ar} {ls : List Str} {ds : List De}, PlOk n as → Run n as ls ds bs → PlOk n bs ∧ bs.length ≤ as.length + ds.length ∧ ds.length = ls.length ∧ ∀ d ∈ ds, okD n d
  | _, _, _, _, p, .nil => ⟨p, Nat.le_refl _, rfl, fun d h => (by cases h)⟩
  | _, _, _, _, p, .cons r t => by
    obtain ⟨h1, h2⟩ := next_ok p r
    obtain ⟨h3, h4, h5, h6⟩ := Run.ok h1 t
    refine ⟨h3, by rw [List.length_cons]; omega, by rw [List.length_cons, List.length_cons, h5], fun d hd => ?_⟩
    rcases List.mem_cons.mp hd with rfl | hd
    · exact r.okD
    · exact h6 d hd
theorem pl_nil {n : Int} (n0 : 1 ≤ n) (n1 : n ≤ 5) : PlOk n [] := ⟨n0, n1, fun a h => (by cases h), List.nodup_nil⟩
theorem SAF {n : Int} {as : List Ar} (d : De) : (SA n as (fun _ => True) d ∨ SF n d) ↔ Right n as d := by
  constructor
  · rintro (⟨m, a, rfl, r, _⟩ | ⟨ns, rfl, h⟩)
    · exact r
    · exact h
  · intro h
    cases d with
    | flip ns => exact .inr ⟨ns, rfl, h⟩
    | arr m a => exact .inl ⟨m, a, rfl, h, True.intro⟩
section
variable {P : Program} {w : World} {K : PySem.W.Frag} {mg : Str → Option Value} {base : Heap}
def spRd (K : PySem.W.Frag) : Sp := fun vs H Q E => ∃ v, vs = [v] ∧ ((∃ ty, TyX K H v ty ∧ PySem.W.kitOne K ty (.type "str") = some false ∧ XOut (He.ga K "BadText") .index .non H E) ∨
  (∃ t l ls, v = .str t ∧ t.length + 2 ≤ sizeLine ∧ Txt.split t nl = l :: ls ∧
    (((∀ m : Int, 1 ≤ m → m ≤ 5 → l ≠ headS m) ∧ XOut (He.ga K "BadText") .index (.int 0) H E) ∨
    (∃ n : Int, 1 ≤ n ∧ n ≤ 5 ∧ l = headS n ∧ ((ls.head? ≠ some "book" ∧ XOut (He.ga K "BadText") .index (.int 1) H E) ∨
      (∃ rest, ls = ("book" : Str) :: rest ∧ rest.length ≤ 800 ∧
        (∀ (i : Nat) (r : Str) (ds : List De) (as : List Ar), rest[i]? = some r → Run n [] (rest.take i) ds as → (∀ d, Right n as d → lineD d ≠ r) → XOut (He.ga K "BadText") .index (.int ((i : Int) + 2)) H E) ∧
        (∀ (ds : List De) (as : List Ar) (b l1 l2 : Addr) H', Run n [] rest ds as → Same H H' → H b = none → H l1 = none → H l2 = none → BookAt K H' b l1 l2 n ds as → Q (.ref b) H')))))))
theorem scRd : FnScope ["text", "lines", "switches", "book", "index", "line", "known"] ["text"] (defScope (top 59)) := ⟨rfl, rfl, rfl, by decide +kernel, rfl, by decide +kernel, by decide +kernel⟩
theorem ok_rdX (T : TxP P K mg) (C : TxC K mg) (D : TxD K mg) (B : TxB P K mg) (X : TxT K mg) (F : TxF K mg) : FncX P w K mg base (L2.CX P w) 9 "read_planbook" (top 59) ["text"] (spRd K) := by
  have GL : Fnc P w K mg base (L2.CX P w) 1 "lines_of" ["text"] (spLines K) := ok_lines T
  have GS : Fnc P w K mg base CX0 1 "switches_in" ["line"] spSw := ok_sw T
  have GD : Fnc P w K mg base CX0 3 "deeds_of" ["plan"] (spDs K) := ok_ds T C X F
  have GF : Fnc P w K mg base CX0 3 "flips_of" ["plan"] (spFs K) := ok_fs T C X F
  have RP : PrB P w K mg base (cB K) 1 "plan" (spBpl K) := pr_bpl B
  obtain ⟨fd, FI, hb⟩ := ok_bI (P := P) (w := w) (base := base) T C B
  obtain ⟨fo, FO, hbo⟩ := ok_do (P := P) (w := w) (base := base) T C D B
  obtain ⟨gT, D', fI, cc, cda, XT⟩ := T.badText
  refine fncX F.readPb scRd (fun vs H Q E h => ?_) (fun _ _ _ _ _ _ us hl => match us, hl with | [_], _ => rfl) (fun cdv A outer s H vs Q E hr h => ?_)
  · obtain ⟨v, rfl, _⟩ := h
    rfl
  · obtain ⟨v, rfl, h⟩ := h
    have hu : (cxOf (L2.CX P w) P w K mg base ["text", "lines", "switches", "book", "index", "line", "known"] "read_planbook" (defScope (top 59)) (He.ga K "read_planbook") cdv A outer s H E).A.units + 1 < cLine := Nat.lt_of_le_of_lt (Nat.add_le_add_left (by decide : 1 ≤ 64) _) hr.units
    refine ⟨_, pss_cons (ps_set (i := 1) scRd.nd rfl (Or.inl rfl) (pe_fn GL (hr.mono (by decide)) (passes_call (takes_of rfl rfl rfl rfl) (fun _ _ _ _ h => h)) (pa_cons (pv 0) pa_nil)))
      (pss_cons (ps_set (i := 2) scRd.nd rfl (Or.inl rfl) (pe_fn GS (hr.mono (by decide)) pass0 (pa_cons (pe_ix ix_list (pv 1) pe_int (fun _ _ => rfl)) pa_nil)))
      (pss_cons (ps_if (pt_cmpR op_isN (pv 2) pe_non (nomark _)) (pss_one (ps_raiseP rfl XT gT hr (takes_of rfl rfl rfl rfl) (pa_cons pe_int pa_nil))) pss_nil)
      (pss_cons (ps_if (PW.pt (pw_or (pt_cmpR op_lt (pe_callB call_len_seq (by rfl) T.len PySem.boot_len (pa_cons (pv 1) pa_nil)) pe_int (nomark _)) (pw_or1 (pt_cmpR op_ne (pe_ix ix_list (pv 1) pe_int (fun _ _ => rfl)) pe_str (nomark _))))) (pss_one (ps_raiseP rfl XT gT hr (takes_of rfl rfl rfl rfl) (pa_cons pe_int pa_nil))) pss_nil)
      (pss_cons (ps_set (i := 3) scRd.nd rfl (Or.inl rfl) (pe_make (E := E0) B.bMk FI hr (by rfl) B.bGlo hb .nil pass0 (pa_cons (pv 2) pa_nil)))
      (pss_cons (ps_for (passes_of rfl) rfl (pi_enum (by rfl) T.enum (pa_cons (pe_slice sl_list (pv 1) (po_some pe_int) po_none) pa_nil)) (pg_tup rfl (pgs_cons (pg_name (i := 4) scRd.nd rfl (Or.inl rfl)) (pgs_cons (pg_name (i := 5) scRd.nd rfl (Or.inl rfl)) pgs_nil)))
        (pss_cons (ps_set (i := 6) scRd.nd rfl (Or.inl rfl) (pe_mrg (pe_fn GD (hr.mono (by decide)) pass0 (pa_cons (pe_prb (pv 3) B.bCls RP (hr.mono (by decide))) pa_nil)) (pe_fn GF (hr.mono (by decide)) pass0 (pa_cons (pe_prb (pv 3) B.bCls RP (hr.mono (by decide))) pa_nil))))
        (pss_cons (ps_if (pt_cmp (pc_dnotin hu (pv 5) (pv 6)) (by with_unfolding_all rfl)) (pss_one (ps_raiseP rfl XT gT hr (takes_of rfl rfl rfl rfl) (pa_cons (pe_op op_add (pv 4) pe_int) pa_nil))) pss_nil)
        (pss_one (ps_expr (pe_meth (pv 3) B.bCls B.mDo FO hr hbo .nil pass0 (pa_cons (pe_dget hu (pv 6) (pv 5) (fun _ _ => rfl)) pa_nil)))))))
      (pss_one (ps_ret (pv 3)))))))), ?_⟩
    rcases h with ⟨ty, h1, h2, h3⟩ | ⟨t, l, ls, rfl, hz, hsp, h⟩
    · exact ⟨_, rfl, v, rfl, .inr ⟨ty, h1, h2, h3⟩⟩
    refine ⟨_, rfl, .str t, rfl, .inl ⟨t, rfl, hz, fun p hp => ?_⟩⟩
    rw [hsp]
    have sp1 : Same H (upd H p (.lst ((l :: ls).map V.str))) := Same.upd hp
    refine ⟨_, rfl, p, _, (0 : Int), V.str l, rfl, rfl, SqL.of upd_same, atI_int (by decide) rfl, l, rfl, ?_⟩
    rcases h with ⟨hno, xo⟩ | ⟨n, n0, n1, rfl, h⟩
    · exact .inr ⟨hno, _, rfl, rfl, _, rfl, iteT ⟨_, rfl, fun d hd => xo.go sp1 hd⟩⟩
    refine .inl ⟨n, n0, n1, rfl, _, rfl, rfl, _, rfl, iteF ?_⟩
    refine ⟨_, rfl, p, _, rfl, .inl (SqL.of upd_same), _, _, rfl, rfl, _, rfl, ?_⟩
    rcases h with ⟨hno, xo⟩ | ⟨rest, rfl, hlen, kx, kq⟩
    · cases ls with
      | nil =>
        refine iteT (iteT ?_)
        exact ⟨_, rfl, fun d hd => xo.go sp1 hd⟩
      | cons m ms =>
        refine ite2 (fun hc => ?_) (fun hc => ?_)
        · exfalso
          have := of_decide_eq_true hc
          simp at this
          omega
        refine ⟨_, rfl, p, _, (1 : Int), V.str m, rfl, rfl, SqL.of upd_same, atI_int (by decide) rfl, rfl, _, rfl, ?_⟩
        have hm : ¬ m = Str.ofString "book" := fun e => hno (by rw [e]; rfl)
        rw [decide_eq_false (fun e => hm (V.str.inj e))]
        exact iteT ⟨_, rfl, fun d hd => xo.go sp1 hd⟩
    refine ite2 (fun hc => ?_) (fun hc => ?_)
    · exfalso
      have := of_decide_eq_true hc
      simp at this
      omega
    refine ⟨_, rfl, p, _, (1 : Int), V.str "book", rfl, rfl, SqL.of upd_same, atI_int (by decide) rfl, rfl, _, rfl, ?_⟩
    rw [show decide (V.str "book" = V.str (Str.ofString "book")) = true from decide_eq_true rfl]
    refine iteF ?_
    have hpp : (upd H p (.lst ((headS n :: "book" :: rest).map V.str))) p = some (.lst ((headS n :: "book" :: rest).map V.str)) := upd_same
    generalize (upd H p (.lst ((headS n :: "book" :: rest).map V.str))) = G at sp1 hpp ⊢
    refine ⟨_, rfl, fun bk dx hbk hdx hne => ⟨bk, dx, n, rfl, upd_same, n0, n1, fun l1 l2 H1 kp hl1 hl2 n12 b0 _ => ⟨rfl, ?_⟩⟩⟩
    have sG : Same G (upd (upd G dx (.own bk)) bk (.ins (cB K) dx [])) := (Same.upd hdx).trans (Same.upd (by rw [upd_ne (Ne.symm hne)]; exact hbk))
    have s1 : Same G H1 := fun c o hc => kp _ _ (ne_of_none hc hbk) (sG _ _ hc)
    have f1 : G l1 = none := sG.free hl1
    have f2 : G l2 = none := sG.free hl2
    refine ⟨_, rfl, _, rfl, p, _, rfl, SqL.of (s1 _ _ hpp), fun q hq => ?_⟩
    have ecut : cutV ((headS n :: "book" :: rest).map V.str) (some 2) none = rest.map V.str := by
      unfold cutV
      rw [HT.sIx_none, show (some (2 : Int)) = some ((2 : Nat) : Int) from rfl, HT.sIx_nat, List.take_of_length_le (by rw [List.length_drop]; omega)]
      rw [show min 2 ((headS n :: "book" :: rest).map V.str).length = 2 by rw [List.length_map, List.length_cons, List.length_cons]; omega]
      rfl
    rw [ecut]
    have sq : Same H1 (upd H1 q (.lst (rest.map V.str))) := Same.upd hq
    obtain ⟨dxb, l3, ps, dv, x0, as0, xx, hb1, hb2, hb3, _⟩ := id b0
    have q1 : q ≠ l1 := Ne.symm (ne_of_none hb2 hq)
    have q2 : q ≠ l2 := Ne.symm (ne_of_none hb3 hq)
    have qb : q ≠ bk := Ne.symm (ne_of_none hb1 hq)
    refine ⟨q, rest.map V.str, rfl, SqL.of upd_same, ?_⟩
    refine for_it (walk_enum (K := K) (a := q) (xs := rest.map V.str)) (fun i σ H2 => (∃ u4 u5 u6, σ = [some (.str t), some (.ref p), some (.int n), some (.ref bk), u4, u5, u6]) ∧ But3 bk l1 l2 (upd H1 q (.lst (rest.map V.str))) H2 ∧ ∃ ds as, Run n [] (rest.take i) ds as ∧ BookAt K H2 bk l1 l2 n ds as) ⟨⟨none, none, none, rfl⟩, But3.same same_refl, [], [], .nil, b0.same sq⟩ (fun i σ H2 _ h => SqL.of (h.2.1 q _ qb q1 q2 upd_same)) ?_ ?_
    · rintro i x σ H2 H3 hi ⟨⟨u4, u5, u6, rfl⟩, k2, ds, as, hrun, hB⟩ ⟨p2, x1, x2, rfl, hp2, rfl, e1, e2⟩
      cases e1
      obtain ⟨r, hr1, rfl⟩ := map_get e2
      obtain ⟨ok1, ok2, ok3, ok4⟩ := Run.ok (pl_nil n0 n1) hrun
      have hi2 := (List.getElem?_eq_some_iff.mp hr1).1
      have hdl : ds.length = i := by rw [ok3, List.length_take]; omega
      have hal : as.length ≤ 800 := by
        have : as.length ≤ 0 + ds.length := ok2
        omega
      refine ⟨p2, _, rfl, SqT.of upd_same, rfl, ?_⟩
      refine ⟨_, _, rfl, ⟨_, _, rfl, rfl, ?_⟩⟩
      have s3 : Same H2 (upd H2 p2 (.tup [.int ((i : Nat) : Int), .str r])) := Same.upd hp2
      refine fun m hm => ?_
      have nm2 : H2 m = none := s3.free hm
      have sA := s3.trans (Same.upd (o := .dK []) hm)
      obtain ⟨dxb', l3', ps', dv', x0', as0', xx', hb1', _⟩ := id hB
      refine ⟨_, rfl, bk, dxb', _, rfl, sA _ _ hb1', bk, l1, l2, n, ds, as, rfl, hB.same sA, fun x0 px => ⟨x0, n, as, rfl, px, n0, n1, fun Da ks H5 s5 nD hD hk dicA => ?_⟩⟩
      have Dm : Da ≠ m := fun z => by
        rw [z, upd_same] at nD
        cases nD
      have hm5 := s5 _ _ (upd_same (H := upd H2 p2 (.tup [.int ((i : Nat) : Int), .str r])) (a := m) (o := .dK []))
      refine ⟨hm5, Da, ks, rfl, hD, Dm, Nat.le_trans hk (by decide), ?_⟩
      have sB : Same H2 (upd H5 m (.dK (mergeK [] ks))) := (sA.trans s5).put nm2
      have tB : ∀ b xs, H5 b = some (.tup xs) → (upd H5 m (.dK (mergeK [] ks))) b = some (.tup xs) := fun b xs e => by
        rw [upd_ne (ne_of e hm5 (by intro z; cases z))]; exact e
      refine ⟨_, rfl, bk, dxb', _, rfl, sB _ _ hb1', bk, l1, l2, n, ds, as, rfl, hB.same sB, fun x1 px1 => ⟨x1, n, as, rfl, px1, n0, n1, fun D2 ls2 H6 s6 nD2 hD2 hl dicF => ?_⟩⟩
      have D2m : D2 ≠ m := fun z => by
        rw [z, upd_same] at nD2
        cases nD2
      have hm6 := s6 _ _ (upd_same (H := H5) (a := m) (o := .dK (mergeK [] ks)))
      refine ⟨hm6, D2, ls2, rfl, hD2, D2m, Nat.le_trans hl (by decide), ?_⟩
      have s7 : Same H2 (upd H6 m (.dK (mergeK (mergeK [] ks) ls2))) := (sB.trans s6).put nm2
      have tC : ∀ b xs, H6 b = some (.tup xs) → (upd H6 m (.dK (mergeK (mergeK [] ks) ls2))) b = some (.tup xs) := fun b xs e => by
        rw [upd_ne (ne_of e hm6 (by intro z; cases z))]; exact e
      have dic := ((((dicA.keep tB).keep s6.tups).mrg dicF).keep tC).congr fun d => SAF d
      refine ⟨_, rfl, _, rfl, m, _, rfl, DGet.k (k := .inr r) upd_same, _, rfl, ?_⟩
      rcases dic.at_ r with ⟨v, d, hv, hd, dv2, rt⟩ | ⟨hv, hno⟩
      · rw [hv]
        refine iteF ?_
        refine ⟨_, rfl, bk, dxb', _, rfl, s7 _ _ hb1', rfl, _, rfl, _, rfl, m, v, rfl, by rw [← hv]; exact DGet.k (k := .inr r) upd_same, ?_⟩
        refine ⟨bk, l1, l2, v, n, ds, as, d, rfl, hB.same s7, dv2, rt, ok1, by omega, by omega, fun H8 k8 b8 _ => ?_⟩
        refine ⟨⟨_, _, _, rfl⟩, (k2.trans (But3.same s7)).trans k8, ds ++ [d], nextA as d, ?_, b8⟩
        have e : rest.take (i + 1) = rest.take i ++ [lineD d] := by rw [List.take_succ, hr1, hd]; rfl
        rw [e]
        exact hrun.snoc rt
      · rw [hv]
        refine iteT ?_
        have sH : Same H (upd H6 m (.dK (mergeK (mergeK [] ks) ls2))) := fun c o hc => by
          have g1 := sp1 _ _ hc
          have g2 := sq _ _ (s1 _ _ g1)
          exact s7 _ _ (k2 c o (ne_of_none g1 hbk) (ne_of_none g1 f1) (ne_of_none g1 f2) g2)
        exact ⟨_, rfl, _, _, rfl, rfl, _, rfl, fun d hd => (kx i r ds as hr1 hrun hno).go sH hd⟩
    · rintro σ H2 ⟨⟨u4, u5, u6, rfl⟩, k2, ds, as, hrun, hB⟩
      rw [List.length_map, List.take_of_length_le (Nat.le_refl _)] at hrun
      refine ⟨_, rfl, kq ds as bk l1 l2 H2 hrun (fun c o hc => ?_) (sp1.free hbk) (sp1.free f1) (sp1.free f2) hB⟩
      have g1 := sp1 _ _ hc
      exact k2 c o (ne_of_none g1 hbk) (ne_of_none g1 f1) (ne_of_none g1 f2) (sq _ _ (s1 _ _ g1))
theorem ok_rd (T : TxP P K mg) (C : TxC K mg) (D : TxD K mg) (B : TxB P K mg) (X : TxT K mg) (F : TxF K mg) : Fnc P w K mg base (L2.CX P w) 9 "read_planbook" ["text"] (spRd K) := (ok_rdX T C D B X F).fnc
end
end K24
set_option maxHeartbeats 4000000
namespace K24
open PySem L2 PySem.EX PyProof.Rows
/-! ### == of books -/
def deD (d : De) : PyData := .tuple [.str d.kind, .tuple (d.body.map .int)]
theorem n_fm : ¬ ("flip" : Str) = "may" := by decide +kernel
theorem n_fn : ¬ ("flip" : Str) = "not" := by decide +kernel
theorem n_mn : ¬ ("may" : Str) = "not" := by decide +kernel
theorem de_inj {a b : De} (h1 : a.kind = b.kind) (h2 : a.body = b.body) : a = b := by
  cases a with
  | flip ns =>
    cases b with
    | flip ms => rw [show ns = ms from h2]
    | arr m x =>
      cases m
      · exact absurd h1 n_fn
      · exact absurd h1 n_fm
  | arr m x =>
    cases b with
    | flip ms =>
      cases m
      · exact absurd h1.symm n_fn
      · exact absurd h1.symm n_fm
    | arr m' y =>
      rw [arL_inj (show arL x = arL y from h2)]
      cases m <;> cases m'
      · rfl
      · exact absurd h1.symm n_mn
      · exact absurd h1 n_mn
      · rfl
instance : DecidableEq De := fun a b => if h : a.kind = b.kind ∧ a.body = b.body then .isTrue (de_inj h.1 h.2) else .isFalse fun e => h (by rw [e]; exact ⟨rfl, rfl⟩)
theorem eqv_de (a b : De) : (deD a).eqv (deD b) = decide (a = b) := by
  unfold deD
  rw [PyData.eqv, PyData.eqvAll, PyData.eqvAll, PyData.eqvAll, eqv_str, PyData.eqv, eqv_map eqv_int, Bool.and_true]
  by_cases e : a = b
  · subst e; simp
  · rw [decide_eq_false e]
    by_cases h1 : a.kind = b.kind
    · have h2 : ¬ a.body = b.body := fun q => e (de_inj h1 q)
      rw [decide_eq_false h2, Bool.and_false]
    · rw [decide_eq_false h1, Bool.false_and]
theorem lay_kind (d : De) : (PyData.str d.kind).canLay0 = true := by
  rcases kind_or d with h | h | h <;> rw [h] <;> decide +kernel
theorem lay_de (d : De) : (deD d).canLay0 = true := by
  unfold deD
  rw [PyData.canLay0, PyData.canLayAll0, PyData.canLayAll0, PyData.canLayAll0, lay_kind, PyData.canLay0, lay_map (fun _ => rfl)]
  rfl
theorem dep_de (d : De) : (deD d).depth ≤ 2 := by
  unfold deD
  rw [PyData.depth, PyData.depthAll, PyData.depthAll, PyData.depthAll, PyData.depth, PyData.depth]
  have := dep_map (f := PyData.int) (n := 0) (fun _ => Nat.le_refl _) d.body
  omega
def bkD (n : Int) (ds : List De) : PyData := .tuple [.int n, .list (ds.map deD)]
theorem shaped_bk (n : Int) (ds : List De) : SeqAt.shaped (bkD n ds) = true := by
  refine shaped_of ?_ ?_
  · unfold bkD
    rw [PyData.canLay0, PyData.canLayAll0, PyData.canLayAll0, PyData.canLayAll0, PyData.canLay0, PyData.canLay0, lay_map lay_de]
    rfl
  · unfold bkD
    rw [PyData.depth, PyData.depthAll, PyData.depthAll, PyData.depthAll, PyData.depth, PyData.depth]
    have := dep_map dep_de ds
    omega
theorem eqv_bk (n m : Int) (ds es : List De) : (bkD n ds).eqv (bkD m es) = (decide (n = m) && decide (ds = es)) := by
  unfold bkD
  rw [PyData.eqv, PyData.eqvAll, PyData.eqvAll, PyData.eqvAll, eqv_int, PyData.eqv, eqv_map eqv_de, Bool.and_true]
section
variable {P : Program} {w : World} {K : PySem.W.Frag} {mg : Str → Option Value} {base : Heap}
theorem DeedAt.dp {H : Hp} {v : V} {d : De} (h : DeedAt H v d) : Dp K H v (deD d) := by
  obtain ⟨p, q, rfl, h1, h2⟩ := h
  exact .tup (SqT.of h1) (.cons (.str _) (.cons (.tup (SqT.of h2) (dp_all (fun i => .int i) _)) .nil))
theorem deeds_dp {H : Hp} : ∀ {vs : List V} {ds : List De}, Paired (DeedAt H) vs ds → DpAll K H vs (ds.map deD)
  | _, _, .nil => .nil
  | _, _, .cons h t => .cons h.dp (deeds_dp t)
def spEqB (K : PySem.W.Frag) : Sp := fun vs H Q _ => ∃ b l1 l2 n ds as c m1 m2 m es cs, vs = [.ref b, .ref c] ∧ BookAt K H b l1 l2 n ds as ∧ BookAt K H c m1 m2 m es cs ∧ ∀ H', Same H H' → Q (.bl (decide (n = m) && decide (ds = es))) H'
theorem scEqB : FnScope ["self", "other"] ["self", "other"] (defScope (bst 13)) := ⟨rfl, rfl, rfl, by decide +kernel, rfl, by decide +kernel, by decide +kernel⟩
theorem ok_eqB (T : TxP P K mg) (C : TxC K mg) (B : TxB P K mg) : ∃ fd, FnOk P w K mg base CX0 5 (He.ma K (cB K) "__eq__") fd ["self", "other"] (spEqB K) ∧ Binds K fd ["self", "other"] [] := by
  have R : PrB P w K mg base (cB K) 3 "switches" (spBsw K) := pr_bsw C B
  obtain ⟨fd, F⟩ := B.eq
  refine ⟨fd, FnOk_of (k := 4) F scEqB (fun vs H Q E h => ?_) (fun cdv A outer s H vs Q E hr h => ?_), F.bindsN (fun _ _ _ _ _ _ us hl => match us, hl with | [_, _], _ => rfl)⟩
  · obtain ⟨b, l1, l2, n, ds, as, c, m1, m2, m, es, cs, rfl, _⟩ := h
    rfl
  · obtain ⟨b, l1, l2, n, ds, as, c, m1, m2, m, es, cs, rfl, hB, hC, k⟩ := h
    refine ⟨_, pss_one (ps_ret (pe_and (pe_callB call_isi (by rfl) T.isinst (by decide +kernel) (pa_cons (pv 1) (pa_cons (pe_glob (v := .ref (cB K)) (by rfl) B.bGlo rfl) pa_nil)))
      (pe_one (pe_cmpR (op_eqD hr.units) (pe_tup (pa_cons (pe_prb (pv 0) B.bCls R hr) (pa_cons (pe_fld (pv 0) rfl) pa_nil))) (pe_tup (pa_cons (pe_prb (pv 1) B.bCls R hr) (pa_cons (pe_fld (pv 1) rfl) pa_nil))) (nomark _))))), ?_⟩
    refine ⟨_, rfl, .ref c, .ref (cB K), _, _, true, rfl, .own _, ty_book B hC, kit_same, true, rfl, iteT ?_⟩
    obtain ⟨dx, l3, ps, dv, x0, as0, x, h1, h2, h3, h4, h5, h6, h7, h8, h9, h10⟩ := id hB
    obtain ⟨dy, m3, qs, ev, y0, bs0, y, j1, j2, j3, j4, j5, j6, j7, j8, j9, j10⟩ := id hC
    refine ⟨_, rfl, b, dx, _, rfl, h1, b, l1, l2, n, ds, as, rfl, hB, _, rfl, b, _, dx, _, _, rfl, h1, B.bCls, B.bD, rfl, (by show 2 ≤ sizeLine; decide), fun p hp => ?_⟩
    have s1 : Same H (upd H p (.tup [V.int n, V.ref l2])) := Same.upd hp
    refine ⟨_, rfl, c, dy, _, rfl, s1 _ _ j1, c, m1, m2, m, es, cs, rfl, hC.same s1, _, rfl, c, _, dy, _, _, rfl, s1 _ _ j1, B.bCls, B.bD, rfl, (by show 2 ≤ sizeLine; decide), fun q hq => ?_⟩
    have s2 : Same (upd H p (.tup [V.int n, V.ref l2])) (upd (upd H p (.tup [V.int n, V.ref l2])) q (.tup [V.int m, V.ref m2])) := Same.upd hq
    have s3 := s1.trans s2
    refine ⟨bkD n ds, bkD m es, .tup (SqT.of (s2 _ _ upd_same)) (.cons (.int _) (.cons (.lst (SqL.of (s3 _ _ h3)) (deeds_dp (Paired.imp (fun _ _ h => h.keep s3.tups) h9))) .nil)),
      .tup (SqT.of upd_same) (.cons (.int _) (.cons (.lst (SqL.of (s3 _ _ j3)) (deeds_dp (Paired.imp (fun _ _ h => h.keep s3.tups) j9))) .nil)), shaped_bk _ _, shaped_bk _ _, ?_⟩
    rw [eqv_bk]
    exact k _ s3
end
end K24
set_option maxHeartbeats 4000000
namespace K24
open PySem L2 PySem.EX PyProof.Rows TL
/-! ### plain: lines tell their deeds -/
theorem kind_free (d : De) : 32 ∉ tl d.kind ∧ 10 ∉ tl d.kind := by
  rcases kind_or d with h | h | h <;> rw [h] <;> exact ⟨by decide +kernel, by decide +kernel⟩
theorem dwords_free {n : Int} {d : De} (h : okD n d) (hn : n ≤ 5) : ∀ p ∈ d.words, 32 ∉ tl p ∧ 10 ∉ tl p := by
  cases d with
  | flip ns =>
    intro p hp
    obtain ⟨x, hx, rfl⟩ := List.mem_map.mp hp
    obtain ⟨x0, x1⟩ := h.1 x hx
    exact ⟨nS_free x0 (by omega) (by decide), nS_free x0 (by omega) (by decide)⟩
  | arr m a => exact words_free h hn
theorem split_lineD {n : Int} {d : De} (h : okD n d) (hn : n ≤ 5) : Txt.split (lineD d) sp = d.kind :: d.words := by
  unfold lineD
  rw [TL.join_eq]
  refine split_sp (by simp) fun p hp => ?_
  rcases List.mem_cons.mp hp with rfl | hp
  · exact (kind_free d).1
  · exact (dwords_free h hn p hp).1
theorem map_nS_inj : ∀ {ns ms : List Int}, (∀ x ∈ ns, 0 ≤ x ∧ x < 10) → (∀ x ∈ ms, 0 ≤ x ∧ x < 10) → ns.map nS = ms.map nS → ns = ms
  | [], [], _, _, _ => rfl
  | [], _ :: _, _, _, h => by simp at h
  | _ :: _, [], _, _, h => by simp at h
  | a :: ns, b :: ms, h1, h2, h => by
    rw [List.map_cons, List.map_cons] at h
    obtain ⟨e1, e2⟩ := List.cons.inj h
    have a1 := h1 a List.mem_cons_self
    have b1 := h2 b List.mem_cons_self
    rw [nS_inj a1.1 a1.2 b1.1 b1.2 e1, map_nS_inj (fun x hx => h1 x (List.mem_cons_of_mem _ hx)) (fun x hx => h2 x (List.mem_cons_of_mem _ hx)) e2]
theorem kind_words_inj {n : Int} {a b : De} (ha : okD n a) (hb : okD n b) (hn : n ≤ 5) (hk : a.kind = b.kind) (hw : a.words = b.words) : a = b := by
  cases a with
  | flip ns =>
    cases b with
    | flip ms => rw [map_nS_inj (fun x hx => ⟨(ha.1 x hx).1, by have := (ha.1 x hx).2; omega⟩) (fun x hx => ⟨(hb.1 x hx).1, by have := (hb.1 x hx).2; omega⟩) hw]
    | arr m x =>
      cases m
      · exact absurd hk n_fn
      · exact absurd hk n_fm
  | arr m x =>
    cases b with
    | flip ms =>
      cases m
      · exact absurd hk.symm n_fn
      · exact absurd hk.symm n_fm
    | arr m' y =>
      rw [wordsA_inj ha hb hn hw]
      cases m <;> cases m'
      · rfl
      · exact absurd hk.symm n_mn
      · exact absurd hk n_mn
      · rfl
theorem lineD_inj {n : Int} {a b : De} (ha : okD n a) (hb : okD n b) (hn : n ≤ 5) (h : lineD a = lineD b) : a = b := by
  have h1 := split_lineD ha hn
  rw [h, split_lineD hb hn] at h1
  obtain ⟨e1, e2⟩ := List.cons.inj h1
  exact kind_words_inj ha hb hn e1.symm e2.symm
theorem Run.uniq {n : Int} (hn : n ≤ 5) : ∀ {as bs cs : List Ar} {ls : List Str} {ds es : List De}, Run n as ls ds bs → Run n as ls es cs → ds = es ∧ bs = cs
  | _, _, _, _, _, _, .nil, h => by
    cases h
    exact ⟨rfl, rfl⟩
  | _, _, _, _, _, _, .cons r t, h => by
    generalize e : lineD _ :: _ = ls at h
    cases h with
    | nil => cases e
    | cons r2 t2 =>
      obtain ⟨e1, e2⟩ := List.cons.inj e
      have e3 := lineD_inj r.okD r2.okD hn e1
      subst e3
      subst e2
      obtain ⟨e4, e5⟩ := Run.uniq hn t t2
      exact ⟨by rw [e4], e5⟩
theorem Run.split {n : Int} : ∀ {as bs : List Ar} {xs ys : List Str} {ds : List De}, Run n as (xs ++ ys) ds bs → ∃ d1 d2 ms, ds = d1 ++ d2 ∧ Run n as xs d1 ms ∧ Run n ms ys d2 bs
  | _, _, [], _, _, h => ⟨[], _, _, rfl, .nil, h⟩
  | _, _, x :: xs, _, _, h => by
    generalize e : (x :: xs) ++ _ = ls at h
    cases h with
    | nil => cases e
    | cons r t =>
      obtain ⟨e1, e2⟩ := List.cons.inj e
      subst e2
      obtain ⟨d1, d2, ms, rfl, h1, h2⟩ := Run.split t
      subst e1
      exact ⟨_ :: d1, d2, ms, rfl, .cons r h1, h2⟩
/-- what read_planbook tells of lines: -1 for a book -/
def AtL (ls : List Str) (r : Int) : Prop := ∃ l rest', ls = l :: rest' ∧ ((r = 0 ∧ ∀ m : Int, 1 ≤ m → m ≤ 5 → l ≠ headS m) ∨
  ∃ n : Int, 1 ≤ n ∧ n ≤ 5 ∧ l = headS n ∧ ((r = 1 ∧ rest'.head? ≠ some "book") ∨
    ∃ rest, rest' = ("book" : Str) :: rest ∧ ((∃ (i : Nat) (q : Str) (ds : List De) (as : List Ar), rest[i]? = some q ∧ Run n [] (rest.take i) ds as ∧ (∀ d, Right n as d → lineD d ≠ q) ∧ r = (i : Int) + 2) ∨ (∃ ds as, Run n [] rest ds as ∧ r = -1))))
theorem stuck_not {n : Int} (hn : n ≤ 5) {rest : List Str} {i : Nat} {q : Str} {ds es : List De} {as bs : List Ar} {j : Nat} (hj : i < j) (hq : rest[i]? = some q) (h1 : Run n [] (rest.take i) ds as) (h2 : ∀ d, Right n as d → lineD d ≠ q) (h3 : Run n [] (rest.take j) es bs) : False := by
  have hi := (List.getElem?_eq_some_iff.mp hq).1
  have e : rest.take j = rest.take i ++ (q :: (rest.drop (i + 1)).take (j - (i + 1))) := by
    have e1 : rest.take j = (rest.take i) ++ (rest.drop i).take (j - i) := by
      conv => lhs; rw [show j = i + (j - i) by omega]
      rw [List.take_add]
    have e2 : rest.drop i = q :: rest.drop (i + 1) := by
      rw [List.drop_eq_getElem_cons hi]
      congr 1
      exact Option.some.inj ((List.getElem?_eq_getElem hi).symm.trans hq)
    rw [e1, e2, show j - i = (j - (i + 1)) + 1 by omega, List.take_succ_cons]
  rw [e] at h3
  obtain ⟨d1, d2, ms, _, r1, r2⟩ := Run.split h3
  obtain ⟨_, e3⟩ := Run.uniq hn h1 r1
  subst e3
  generalize e4 : q :: _ = ls at r2
  cases r2 with
  | nil => cases e4
  | cons r t => exact h2 _ r (List.cons.inj e4).1.symm
theorem AtL.uniq {ls : List Str} {r s : Int} (h1 : AtL ls r) (h2 : AtL ls s) : r = s := by
  obtain ⟨l, t, rfl, h1⟩ := h1
  obtain ⟨l', t', e, h2⟩ := h2
  obtain ⟨e1, e2⟩ := List.cons.inj e
  subst e1
  subst e2
  rcases h1 with ⟨rfl, a1⟩ | ⟨n, n0, n1, rfl, h1⟩
  · rcases h2 with ⟨rfl, _⟩ | ⟨m, m0, m1, e, _⟩
    · rfl
    · exact absurd e (a1 m m0 m1)
  · rcases h2 with ⟨rfl, a2⟩ | ⟨m, m0, m1, e, h2⟩
    · exact absurd rfl (a2 n n0 n1)
    have em := headS_inj n0 n1 m0 m1 e
    subst em
    rcases h1 with ⟨rfl, a1⟩ | ⟨rest, rfl, h1⟩
    · rcases h2 with ⟨rfl, _⟩ | ⟨rest, rfl, _⟩
      · rfl
      · exact absurd rfl a1
    · rcases h2 with ⟨rfl, a2⟩ | ⟨rest2, e2, h2⟩
      · exact absurd rfl a2
      obtain ⟨_, e3⟩ := List.cons.inj e2
      subst e3
      rcases h1 with ⟨i, q, ds, as, hq, r1, st, rfl⟩ | ⟨ds, as, r1, rfl⟩
      · rcases h2 with ⟨j, q2, es, bs, hq2, r2, st2, rfl⟩ | ⟨es, bs, r2, rfl⟩
        · rcases Nat.lt_trichotomy i j with hij | hij | hij
          · exact (stuck_not n1 hij hq r1 st r2).elim
          · rw [hij]
          · exact (stuck_not n1 hij hq2 r2 st2 r1).elim
        · have hi := (List.getElem?_eq_some_iff.mp hq).1
          exact (stuck_not n1 hi hq r1 st (by rw [List.take_of_length_le (Nat.le_refl _)]; exact r2)).elim
      · rcases h2 with ⟨j, q2, es, bs, hq2, r2, st2, rfl⟩ | ⟨es, bs, r2, rfl⟩
        · have hi := (List.getElem?_eq_some_iff.mp hq2).1
          exact (stuck_not n1 hi hq2 r2 st2 (by rw [List.take_of_length_le (Nat.le_refl _)]; exact r1)).elim
        · rfl
end K24
set_option maxHeartbeats 4000000
namespace K24
open PySem L2 PySem.EX PyProof.Rows
structure TxH (K : PySem.W.Frag) (mg : Str → Option Value) : Prop where
  some_ : Def K mg "_law_some" (top 72)
  arrow : Def K mg "_law_arrow" (top 73)
  line : Def K mg "_law_line" (top 74)
section
variable {P : Program} {w : World} {K : PySem.W.Frag} {mg : Str → Option Value} {base : Heap}
/-! ### a drawn arrow -/
def spArrow : Sp := fun vs H Q _ => ∃ (t l c : Addr) (n : Int), vs = [.ref t, .int n] ∧ Tape H t l c ∧ 1 ≤ n ∧ n ≤ 5 ∧ ∀ (p : Addr) (a : Ar) H', okA n a → H p = none → H' p = some (.tup ((arL a).map V.int)) → Tape H' t l c → But t l H H' → Q (.ref p) H'
theorem scArrow : FnScope ["tape", "many"] ["tape", "many"] (defScope (top 73)) := ⟨rfl, rfl, rfl, by decide +kernel, rfl, by decide +kernel, by decide +kernel⟩
theorem ok_arrow (L : TxL K mg) (X : TxH K mg) : Fnc P w K mg base CX0 4 "_law_arrow" ["tape", "many"] spArrow := by
  have GD : Fnc P w K mg base CX0 2 "_law_draw" ["tape", "size"] spDraw := ok_draw L
  have GP : Fnc P w K mg base CX0 3 "_law_pick" ["tape", "several"] (spPick K) := ok_pick L
  refine fnc0 X.arrow scArrow (fun vs H Q E h => ?_) (fun _ _ _ _ _ _ us hl => match us, hl with | [_, _], _ => rfl) (fun cdv A outer s H vs Q E hr h => ?_)
  · obtain ⟨t, l, c, n, rfl, _⟩ := h
    rfl
  · obtain ⟨t, l, c, n, rfl, TT, n0, n1, k⟩ := h
    have h2 := hr.mono (show 2 ≤ 3 by decide)
    have notT : ∀ {H2 : Hp} {p : Addr}, Tape H2 t l c → H2 p = none → p ≠ t ∧ p ≠ l := fun {H2 p} T2 hp => by
      obtain ⟨r, m, lg, cs, e1, e2, _⟩ := T2.ex
      exact ⟨fun e => (by rw [e, e1] at hp; cases hp), fun e => (by rw [e, e2] at hp; cases hp)⟩
    refine ⟨_, pss_one (ps_ret (pe_tup (pa_cons (pe_fn GD h2 pass0 (pa_cons (pv 0) (pa_cons (pv 1) pa_nil))) (pa_cons (pe_fn GD h2 pass0 (pa_cons (pv 0) (pa_cons (pv 1) pa_nil)))
      (pa_cons (pe_fn GP hr pass0 (pa_cons (pv 0) (pa_cons (pe_lst (pa_cons pe_int (pa_cons (pe_un un_neg pe_int) pa_nil))) pa_nil))) pa_nil))))), ?_⟩
    refine ⟨_, rfl, _, rfl, t, l, c, n, rfl, by omega, by omega, TT, fun d H1 d0 d1 T1 b1 => ?_⟩
    refine ⟨_, rfl, _, rfl, t, l, c, n, rfl, by omega, by omega, T1, fun e H2 e0 e1 T2 b2 => ?_⟩
    refine ⟨_, rfl, _, rfl, (by show 2 ≤ sizeLine; decide), fun q hq => ?_⟩
    have nq := notT T2 hq
    have sq : Same H2 (upd H2 q (.lst [V.int 1, V.int (-1)])) := Same.upd hq
    refine ⟨t, l, c, q, [V.int 1, V.int (-1)], rfl, SqL.of upd_same, by simp, by decide, nq.1, nq.2, sq.tape T2, fun io v H3 hv T3 b3 => ?_⟩
    obtain ⟨g, rfl, hg⟩ : ∃ g : Int, v = .int g ∧ (g = 1 ∨ g = -1) := by
      match io, hv with
      | 0, hv => cases hv; exact ⟨1, rfl, .inl rfl⟩
      | 1, hv => cases hv; exact ⟨-1, rfl, .inr rfl⟩
      | m + 2, hv => simp at hv
    refine ⟨(by show 3 ≤ sizeLine; decide), fun p hp => ?_⟩
    have np := notT T3 hp
    have bt : But t l H (upd H3 p (.tup [.int d, .int e, .int g])) := ((b1.trans b2).trans (But.of sq)).trans (b3.trans (But.of (Same.upd hp)))
    exact k p (d, e, g) _ ⟨d0, d1, e0, e1, hg⟩ (((b1.trans b2).trans (But.of sq)).trans b3 |>.free np.1 np.2 hp) upd_same ((Same.upd hp).tape T3) bt
/-! ### the law's own line of a deed -/
def spLL : Sp := fun vs H Q _ => ∃ v, vs = [v] ∧ ((∃ n ns, okF n ns ∧ n ≤ 5 ∧ DeedAt H v (.flip ns) ∧ ∀ H', Same H H' → Q (.str (lineD (.flip ns))) H') ∨
  ∃ n k a p q, v = .ref p ∧ H p = some (.tup [.str k, .ref q]) ∧ H q = some (.tup ((arL a).map V.int)) ∧ okA n a ∧ n ≤ 5 ∧ k ≠ "flip" ∧ k.length ≤ 10 ∧ ∀ H', Same H H' → Q (.str (k ++ sp ++ lineS a)) H')
theorem scLL : FnScope ["deed", "switch"] ["deed"] (defScope (top 74)) := ⟨rfl, rfl, rfl, by decide +kernel, rfl, by decide +kernel, by decide +kernel⟩
theorem ok_ll (T : TxP P K mg) (X : TxH K mg) : Fnc P w K mg base CX0 1 "_law_line" ["deed"] spLL := by
  refine fnc0 X.line scLL (fun vs H Q E h => ?_) (fun _ _ _ _ _ _ us hl => match us, hl with | [_], _ => rfl) (fun cdv A outer s H vs Q E hr h => ?_)
  · obtain ⟨v, rfl, _⟩ := h
    rfl
  · obtain ⟨v, rfl, h⟩ := h
    refine ⟨_, pss_cons (ps_if (pt_cmpR op_eq (pe_ix ix_tup (pv 0) pe_int (fun _ _ => rfl)) pe_str (nomark _)) (pss_one (ps_ret (pe_join pe_str (pe_op op_cat (pe_lst (pa_cons pe_str pa_nil))
        (pe_lc (own := [("switch", 1)]) (g := gName 1) (tt := tYes) rfl scLL.nd (pi_tup (pe_ix ix_tup (pv 0) pe_int (fun _ _ => rfl))) (blkOk_by (N := ["deed", "switch"]) (sc := defScope (top 74)) (by decide +kernel))
          (fun _ _ _ _ _ => pg_name (i := 1) scLL.nd rfl (Or.inl rfl)) (fun _ _ _ _ _ => pts_nil) (fun _ _ _ _ _ => pe_callTy call_str_int (by rfl) T.str (by decide +kernel) (pa_cons (pv 1) pa_nil))))))) pss_nil)
      (pss_one (ps_ret (pe_op op_add_str (pe_op op_add_str (pe_op op_add_str (pe_op op_add_str (pe_ix ix_tup (pv 0) pe_int (fun _ _ => rfl)) pe_str)
          (pe_callTy call_str_int (by rfl) T.str (by decide +kernel) (pa_cons (pe_ix ix_tup (pe_ix ix_tup (pv 0) pe_int (fun _ _ => rfl)) pe_int (fun _ _ => rfl)) pa_nil)))
          (pe_ifExp (pt_cmpR op_eq (pe_ix ix_tup (pe_ix ix_tup (pv 0) pe_int (fun _ _ => rfl)) pe_int (fun _ _ => rfl)) pe_int (nomark _)) pe_str pe_str))
          (pe_callTy call_str_int (by rfl) T.str (by decide +kernel) (pa_cons (pe_ix ix_tup (pe_ix ix_tup (pv 0) pe_int (fun _ _ => rfl)) pe_int (fun _ _ => rfl)) pa_nil))))), ?_⟩
    rcases h with ⟨n, ns, ok, hn, ⟨p, q, rfl, hp, hq⟩, k⟩ | ⟨n, kd, a, p, q, rfl, hp, hq, ok, hn, hk, hkl, k⟩
    · have hT := SqT.of (K := K) hp
      have sm := line_join_sm (d := .flip ns) ok hn
      obtain ⟨o1, o2, o3⟩ := id ok
      refine ⟨_, rfl, p, _, (0 : Int), .str (De.flip ns).kind, rfl, rfl, hT, rfl, rfl, _, rfl, ?_⟩
      rw [show decide (V.str (De.flip ns).kind = V.str (Str.ofString "flip")) = true from by show decide (V.str "flip" = V.str (Str.ofString "flip")) = true; decide +kernel]
      refine iteT ⟨⟨_, rfl⟩, (by show 1 ≤ sizeLine; decide), fun f hf => ?_⟩
      have sf : Same H (upd H f (.lst [V.str (Str.ofString "flip")])) := Same.upd hf
      have hT2 := SqT.of (K := K) (sf _ _ hp)
      refine ⟨_, rfl, p, _, (1 : Int), .ref q, rfl, rfl, hT2, rfl, q, rfl, ⟨_, SqT.of (sf _ _ hq)⟩, fun D hD => lc_tup (K := K) (a := q) (xs := ns.map V.int) (fun i H2 => Same (upd H f (.lst [V.str (Str.ofString "flip")])) H2 ∧ H2 D = some (.lst (((ns.take i).map nS).map V.str))) ⟨Same.upd hD, upd_same⟩ (fun i H2 _ h => SqT.of (h.1 _ _ (sf _ _ hq))) ?_ ?_⟩
      · rintro i x H2 hx ⟨s2, hz⟩
        obtain ⟨z, hz1, rfl⟩ := map_get hx
        have hi := (List.getElem?_eq_some_iff.mp hz1).1
        have zz := o1 z (List.mem_of_getElem? hz1)
        refine ⟨rfl, ?_⟩
        refine ⟨_, rfl, z, rfl, log_small (by omega), _, hz, small1000 (by rw [List.length_map, List.length_map, List.length_take]; omega), s2.put hD, ?_⟩
        rw [upd_same, List.take_succ, hz1, List.map_append, List.map_append]
        rfl
      · rintro H2 ⟨s2, hz⟩
        rw [List.length_map, List.take_of_length_le (Nat.le_refl _)] at hz
        have ec : [V.str (Str.ofString "flip")] ++ (ns.map nS).map V.str = ((De.flip ns).kind :: (De.flip ns).words).map V.str := rfl
        refine ⟨f, D, _, _, rfl, rfl, s2 _ _ upd_same, hz, line1000 (by rw [List.length_singleton, List.length_map, List.length_map]; omega), fun r hr2 => ?_⟩
        exact ⟨_, r, (De.flip ns).kind :: (De.flip ns).words, rfl, rfl, .inl (SqL.of (by rw [upd_same, ec])), Nat.le_trans sm (by decide), k _ ((sf.trans s2).trans (Same.upd hr2))⟩
    · have hT := SqT.of (K := K) hp
      have hT2 := SqT.of (K := K) hq
      obtain ⟨a1, a2, a3⟩ := a
      obtain ⟨o1, o2, o3, o4, o5⟩ := id ok
      simp only at o1 o2 o3 o4 o5
      have l1 := nS_len o1 (by omega)
      have l2 := nS_len o3 (by omega)
      have l3 := signS_len a3
      have e1 : (Str.ofString " ").length = 1 := by decide +kernel
      refine ⟨_, rfl, p, _, (0 : Int), .str kd, rfl, rfl, hT, rfl, rfl, _, rfl, ?_⟩
      rw [decide_eq_false (fun e => hk (V.str.inj e))]
      refine iteF ?_
      refine ⟨_, rfl, p, _, (0 : Int), .str kd, rfl, rfl, hT, rfl, _, _, rfl, rfl, line_small (by rw [e1]; omega), ?_⟩
      refine ⟨_, rfl, p, _, (1 : Int), .ref q, rfl, rfl, hT, rfl, q, _, (0 : Int), .int a1, rfl, rfl, hT2, rfl, a1, rfl, log_small (by omega), _, _, rfl, rfl, line_small ?_, ?_⟩
      · rw [app_len, e1, show (Str.ofString (toString a1)).length = 1 from l1]; omega
      refine ⟨_, rfl, p, _, (1 : Int), .ref q, rfl, rfl, hT, rfl, q, _, (2 : Int), .int a3, rfl, rfl, hT2, rfl, rfl, _, rfl, ?_⟩
      have len3 : ∀ z : Str, z = signS a3 → (kd ++ Str.ofString " " ++ Str.ofString (toString a1)).length + z.length ≤ 1000 ∧ (kd ++ Str.ofString " " ++ Str.ofString (toString a1) ++ z).length + (Str.ofString (toString a2)).length ≤ 1000 := by
        rintro z rfl
        have l1' : (Str.ofString (toString a1)).length = 1 := l1
        have l2' : (Str.ofString (toString a2)).length = 1 := l2
        simp only [app_len, e1, l1', l2']
        omega
      have fin : ∀ z : Str, z = signS a3 → kd ++ Str.ofString " " ++ Str.ofString (toString a1) ++ z ++ Str.ofString (toString a2) = kd ++ sp ++ lineS (a1, a2, a3) := by
        rintro z rfl
        unfold lineS
        show kd ++ sp ++ nS a1 ++ signS a3 ++ nS a2 = kd ++ sp ++ (nS a1 ++ signS a3 ++ nS a2)
        simp only [Str.append_assoc]
      refine ite2 (fun hc => ?_) (fun hc => ?_)
      · have h3 : a3 = 1 := V.int.inj (of_decide_eq_true hc)
        have es : Str.ofString " helps " = signS a3 := by unfold signS; rw [if_pos h3]
        refine ⟨_, _, rfl, rfl, line_small (len3 _ es).1, _, rfl, p, _, (1 : Int), .ref q, rfl, rfl, hT, rfl, q, _, (1 : Int), .int a2, rfl, rfl, hT2, rfl, a2, rfl, log_small (by omega), _, _, rfl, rfl, line_small (len3 _ es).2, ?_⟩
        rw [fin _ es]
        exact k _ same_refl
      · have h3 : ¬ a3 = 1 := fun e => hc (decide_eq_true (by rw [e]))
        have es : Str.ofString " hinders " = signS a3 := by unfold signS; rw [if_neg h3]
        refine ⟨_, _, rfl, rfl, line_small (len3 _ es).1, _, rfl, p, _, (1 : Int), .ref q, rfl, rfl, hT, rfl, q, _, (1 : Int), .int a2, rfl, rfl, hT2, rfl, a2, rfl, log_small (by omega), _, _, rfl, rfl, line_small (len3 _ es).2, ?_⟩
        rw [fin _ es]
        exact k _ same_refl
end
end K24
set_option maxHeartbeats 4000000
namespace K24
open PySem L2 PySem.EX PyProof.Rows
/-! ### all lots of switches, in the law's order -/
def encF (ns : List Int) : PyData := .tuple [.int ns.length, .tuple (ns.map .int)]
def extF : PyData → List Int
  | .tuple [_, .tuple xs] => xs.map fun
    | .int i => i
    | _ => 0
  | _ => []
theorem ext_enc (ns : List Int) : extF (encF ns) = ns := by
  show (ns.map PyData.int).map _ = ns
  rw [List.map_map]
  exact List.map_id' ns
theorem alike_enc (a b : List Int) : PySem.W.alike (encF a) (encF b) = true := by
  unfold encF
  rw [PySem.W.alike, PySem.W.alikeAll, PySem.W.alikeAll, PySem.W.alike, PySem.W.alikeAll]
  rw [PySem.W.alike, PySem.W.alike_ints]
  rfl
theorem dep_enc (ns : List Int) : (encF ns).depth ≤ 8 := by
  unfold encF
  rw [PyData.depth, PyData.depthAll, PyData.depthAll, PyData.depthAll, PyData.depth, PyData.depth]
  have := dep_map (f := PyData.int) (n := 0) (fun _ => Nat.le_refl _) ns
  omega
/-- a pair of a size and a lot -/
def PairV (H : Hp) (v : V) (ns : List Int) : Prop := ∃ p q, v = .ref p ∧ H p = some (.tup [.int (ns.length : Int), .ref q]) ∧ H q = some (.tup (ns.map V.int))
theorem PairV.keep {H H' : Hp} {v : V} {ns : List Int} (h : PairV H v ns) (k : ∀ b xs, H b = some (.tup xs) → H' b = some (.tup xs)) : PairV H' v ns := by
  obtain ⟨p, q, e, h1, h2⟩ := h
  exact ⟨p, q, e, k _ _ h1, k _ _ h2⟩
theorem PairV.dp {K : PySem.W.Frag} {H : Hp} {v : V} {ns : List Int} (h : PairV H v ns) : Dp K H v (encF ns) := by
  obtain ⟨p, q, rfl, h1, h2⟩ := h
  exact .tup (SqT.of h1) (.cons (.int _) (.cons (.tup (SqT.of h2) (dp_all (fun i => .int i) _)) .nil))
theorem zip_fst {α β : Type} : ∀ {l : List α} {m : List β}, l.length = m.length → (l.zip m).map (·.1) = l
  | [], _, _ => by simp
  | a :: l, [], h => by simp at h
  | a :: l, b :: m, h => by
    rw [List.zip_cons_cons, List.map_cons, zip_fst (by simpa using h)]
theorem zip_snd {α β : Type} : ∀ {l : List α} {m : List β}, l.length = m.length → (l.zip m).map (·.2) = m
  | [], [], _ => by simp
  | [], b :: m, h => by simp at h
  | a :: l, [], h => by simp at h
  | a :: l, b :: m, h => by
    rw [List.zip_cons_cons, List.map_cons, zip_snd (by simpa using h)]
theorem paired_zip {H : Hp} : ∀ {l : List V} {m : List (List Int)}, Paired (PairV H) l m → ∀ b ∈ l.zip (m.map encF), ∃ ns, PairV H b.1 ns ∧ b.2 = encF ns
  | _, _, .nil, b, h => by simp at h
  | _, _, .cons h t, b, hb => by
    rw [List.map_cons, List.zip_cons_cons] at hb
    rcases List.mem_cons.mp hb with rfl | hb
    · exact ⟨_, h, rfl⟩
    · exact paired_zip t b hb
section
variable {P : Program} {w : World} {K : PySem.W.Frag} {mg : Str → Option Value} {base : Heap}
def spSome (K : PySem.W.Frag) : Sp := fun vs H Q _ => ∃ N : Nat, vs = [.int (N : Int)] ∧ N ≤ 5 ∧ ∀ (l : Addr) (vs : List V) (ms : List (List Int)) H', Same H H' → H l = none → H' l = some (.lst vs) → IntsVs H' vs ms → ms.Perm (subs N) → Q (.ref l) H'
theorem scSome : FnScope ["many", "found", "switch", "asked", "size"] ["many"] (defScope (top 72)) := ⟨rfl, rfl, rfl, by decide +kernel, rfl, by decide +kernel, by decide +kernel⟩
theorem ok_some (T : TxP P K mg) (C : TxC K mg) (X : TxH K mg) : Fnc P w K mg base CX0 1 "_law_some" ["many"] (spSome K) := by
  refine fnc0 X.some_ scSome (fun vs H Q E h => ?_) (fun _ _ _ _ _ _ us hl => match us, hl with | [_], _ => rfl) (fun cdv A outer s H vs Q E hr h => ?_)
  · obtain ⟨N, rfl, _⟩ := h
    rfl
  · obtain ⟨N, rfl, hN, k⟩ := h
    refine ⟨_, pss_cons (ps_set (i := 1) scSome.nd rfl (Or.inl rfl) (pe_lst (pa_cons (pe_tup pa_nil) pa_nil)))
      (pss_cons (ps_for PassesOwn.never rfl (pi_range1 (by rfl) T.range (pa_cons (pv 0) pa_nil)) (pg_name (i := 2) scSome.nd rfl (Or.inr rfl))
        (pss_one (ps_set (i := 1) scSome.nd rfl (Or.inl rfl) (pe_op op_cat (pv 1)
          (pe_lc (own := [("asked", 3)]) (g := gName 3) (tt := tYes) (te := tOp (rCatA K) (tVar 3) (tTup (tCons (tVar 2) tNil))) rfl scSome.nd (pi_list (pv 1)) (blkOk_by (N := ["many", "found", "switch", "asked", "size"]) (sc := defScope (top 72)) (by decide +kernel))
            (fun _ _ _ _ _ => pg_name (i := 3) scSome.nd rfl (Or.inl rfl)) (fun _ _ _ _ _ => pts_nil) (fun _ _ _ _ _ => pe_op op_catA (pv 3) (pe_tup (pa_cons (pv 2) pa_nil))))))))
      (pss_one (ps_ret (pe_lc (own := [("size", 4), ("asked", 3)]) (g := gTup K 2 (gCons (gName 4) (gCons (gName 3) gNil))) (tt := tYes) rfl scSome.nd
          (pi_list (pe_callB (cr_sortG hr.units) (by rfl) C.sorted (by decide +kernel) (pa_cons
            (pe_lc (own := [("asked", 3)]) (g := gName 3) (tt := tYes) (te := tTup (tCons (tCB (fun xs H Q => ∃ p ys, xs = [V.ref p] ∧ (SqL K H p ys ∨ SqT K H p ys) ∧ Q (V.int ys.length) H) (tCons (tVar 3) tNil)) (tCons (tVar 3) tNil))) rfl scSome.nd (pi_list (pv 1)) (blkOk_by (N := ["many", "found", "switch", "asked", "size"]) (sc := defScope (top 72)) (by decide +kernel))
              (fun _ _ _ _ _ => pg_name (i := 3) scSome.nd rfl (Or.inl rfl)) (fun _ _ _ _ _ => pts_nil) (fun _ _ _ _ _ => pe_tup (pa_cons (pe_callB call_len_seq (by rfl) T.len PySem.boot_len (pa_cons (pv 3) pa_nil)) (pa_cons (pv 3) pa_nil)))) pa_nil)))
          (blkOk_by (N := ["many", "found", "switch", "asked", "size"]) (sc := defScope (top 72)) (by decide +kernel))
          (fun _ _ _ _ _ => pg_tup rfl (pgs_cons (pg_name (i := 4) scSome.nd rfl (Or.inl rfl)) (pgs_cons (pg_name (i := 3) scSome.nd rfl (Or.inl rfl)) pgs_nil))) (fun _ _ _ _ _ => pts_nil) (fun _ _ _ _ _ => pv 3))))), ?_⟩
    refine ⟨by decide, fun e he => ⟨(by show 1 ≤ sizeLine; decide), fun l hl => ?_⟩⟩
    have sl : Same H (upd (upd H e (.tup [])) l (.lst [.ref e])) := (Same.upd he).trans (Same.upd hl)
    have he1 : (upd (upd H e (.tup [])) l (.lst [.ref e])) e = some (.tup []) := (Same.upd hl) _ _ upd_same
    refine ⟨_, rfl, (N : Int), rfl, by omega, by omega, for_range (lo := 0) (n := N) (fun i σ H2 => ∃ u2 u3 u4 l vs, σ = [some (.int (N : Int)), some (.ref l), u2, u3, u4] ∧ Same H H2 ∧ H2 l = some (.lst vs) ∧ IntsVs H2 vs (subs i)) ⟨none, none, none, l, _, rfl, sl, upd_same, .cons ⟨e, rfl, he1⟩ .nil⟩ ?_ ?_⟩
    · rintro i σ H2 hi ⟨u2, u3, u4, l, vs, rfl, s2, hv, hp⟩
      have hlen : vs.length = 2 ^ i := by rw [hp.length, subs_len]
      have hlen32 : vs.length ≤ 32 := by rw [hlen]; exact Nat.pow_le_pow_right (by decide) (show i ≤ 5 by omega)
      refine ⟨_, rfl, _, rfl, l, rfl, ⟨_, SqL.of hv⟩, fun D hD => lc_list (K := K) (a := l) (xs := vs) (fun j H3 => Same H2 H3 ∧ ∃ ws, H3 D = some (.lst ws) ∧ IntsVs H3 ws (((subs i).take j).map fun ns => ns ++ [(i : Int)])) ⟨Same.upd hD, [], upd_same, .nil⟩ (fun j H3 _ h => SqL.of (h.1 _ _ hv)) ?_ ?_⟩
      · rintro j v H3 hvj ⟨s3, ws, hw, hwp⟩
        obtain ⟨ns, hns, p, rfl, hpp⟩ := Paired.at_ hp hvj
        have hj := (List.getElem?_eq_some_iff.mp hns).1
        refine ⟨rfl, ?_⟩
        refine ⟨_, rfl, _, rfl, (by show 1 ≤ sizeLine; decide), fun e2 he2 => ?_⟩
        have s4 : Same H3 (upd H3 e2 (.tup [V.int (0 + (i : Int))])) := Same.upd he2
        have small : ws.length < sizeLine := small1000 (by have := hwp.length; rw [List.length_map, List.length_take, subs_len] at this; rw [subs_len] at hj; omega)
        have fin : ∀ (H4 : Hp) (r : Addr), Same H3 H4 → H4 r = some (.tup ((ns ++ [(i : Int)]).map V.int)) → Same H2 (upd H4 D (.lst (ws ++ [.ref r]))) ∧ ∃ ws', (upd H4 D (.lst (ws ++ [.ref r]))) D = some (.lst ws') ∧ IntsVs (upd H4 D (.lst (ws ++ [.ref r]))) ws' (((subs i).take (j + 1)).map fun ns => ns ++ [(i : Int)]) := fun H4 r s5 hr4 => by
          have kt : ∀ b xs, H4 b = some (.tup xs) → (upd H4 D (.lst (ws ++ [.ref r]))) b = some (.tup xs) := fun b xs q => by
            rw [upd_ne (ne_of q (s5 _ _ hw) (by intro z; cases z))]; exact q
          refine ⟨(s3.trans s5).put hD, _, upd_same, ?_⟩
          rw [List.take_succ, hns, List.map_append]
          exact Paired.snoc ((hwp.keep s5.tups).keep kt) ⟨r, rfl, kt _ _ hr4⟩
        obtain ⟨_, _, q3⟩ := subs_ok i ns (List.mem_of_getElem? hns)
        refine ⟨p, e2, ns.map V.int, [V.int (0 + (i : Int))], rfl, rfl, SqT.of (s4 _ _ (s3 _ _ hpp)), SqT.of upd_same, line1000 (by rw [List.length_map, List.length_singleton]; omega), fun e0 => ?_, fun _ e0 => (by cases e0), fun _ _ r hr4 => ?_⟩
        · have en : ns = [] := by simpa using e0
          obtain ⟨f1, f2⟩ := fin _ e2 s4 (by rw [upd_same, en, Int.zero_add]; rfl)
          exact ⟨ws, s4 _ _ hw, small, f1, f2⟩
        · have s5 := s4.trans (Same.upd (o := .tup (ns.map V.int ++ [V.int (0 + (i : Int))])) hr4)
          obtain ⟨f1, f2⟩ := fin _ r s5 (by rw [upd_same, List.map_append, Int.zero_add]; rfl)
          exact ⟨ws, s5 _ _ hw, small, f1, f2⟩
      · rintro H3 ⟨s3, ws, hw, hwp⟩
        rw [hp.length, List.take_of_length_le (Nat.le_refl _)] at hwp
        have h3l := s3 _ _ hv
        have lw : ws.length ≤ 32 := by rw [hwp.length, List.length_map, subs_len, ← hlen]; exact hlen32
        refine ⟨l, D, vs, ws, rfl, rfl, h3l, hw, line1000 (by omega), fun p hp3 => ?_⟩
        have sp3 : Same H3 (upd H3 p (.lst (vs ++ ws))) := Same.upd hp3
        exact ⟨_, _, _, p, _, rfl, (s2.trans s3).trans sp3, upd_same, Paired.app ((hp.keep s3.tups).keep sp3.tups) (hwp.keep sp3.tups)⟩
    · rintro σ H2 ⟨u2, u3, u4, l, vs, rfl, s2, hv, hp⟩
      have hlen32 : vs.length ≤ 32 := by rw [hp.length, subs_len]; exact Nat.pow_le_pow_right (by decide) hN
      refine ⟨_, rfl, l, rfl, ⟨_, SqL.of hv⟩, fun D hD => lc_list (K := K) (a := l) (xs := vs) (fun j H3 => Same H2 H3 ∧ ∃ ws, H3 D = some (.lst ws) ∧ Paired (PairV H3) ws ((subs N).take j)) ⟨Same.upd hD, [], upd_same, .nil⟩ (fun j H3 _ h => SqL.of (h.1 _ _ hv)) ?_ ?_⟩
      · rintro j v H3 hvj ⟨s3, ws, hw, hwp⟩
        obtain ⟨ns, hns, p, rfl, hpp⟩ := Paired.at_ hp hvj
        have hj := (List.getElem?_eq_some_iff.mp hvj).1
        refine ⟨rfl, ?_⟩
        refine ⟨_, rfl, p, _, rfl, .inr (SqT.of (s3 _ _ hpp)), _, rfl, (by show 2 ≤ sizeLine; decide), fun e2 he2 => ?_⟩
        have s4 : Same H3 (upd H3 e2 (.tup [V.int ((ns.map V.int).length : Nat), V.ref p])) := Same.upd he2
        have kt : ∀ b xs, (upd H3 e2 (.tup [V.int ((ns.map V.int).length : Nat), V.ref p])) b = some (.tup xs) → (upd (upd H3 e2 (.tup [V.int ((ns.map V.int).length : Nat), V.ref p])) D (.lst (ws ++ [.ref e2]))) b = some (.tup xs) := fun b xs q => by
          rw [upd_ne (ne_of q (s4 _ _ hw) (by intro z; cases z))]; exact q
        refine ⟨ws, s4 _ _ hw, small1000 (by have := hwp.length; rw [List.length_take] at this; omega), (s3.trans s4).put hD, _, upd_same, ?_⟩
        rw [List.take_succ, hns]
        refine Paired.snoc (Paired.imp (fun _ _ h => (PairV.keep h s4.tups).keep kt) hwp) ⟨e2, p, rfl, kt _ _ ?_, kt _ _ (s4 _ _ (s3 _ _ hpp))⟩
        rw [upd_same, List.length_map]
      · rintro H3 ⟨s3, ws, hw, hwp⟩
        rw [hp.length, List.take_of_length_le (Nat.le_refl _)] at hwp
        have hl2 : ws.length = ((subs N).map encF).length := by rw [List.length_map]; exact hwp.length
        refine ⟨D, ws.zip ((subs N).map encF), rfl, ?_, fun b hb => ?_, ?_, ?_, fun b hb => ?_, fun r hr3 => ?_⟩
        · rw [zip_fst hl2]
          exact SqL.of hw
        · obtain ⟨ns, h1, h2⟩ := paired_zip hwp b hb
          rw [h2]
          exact h1.dp
        · rw [zip_snd hl2]
          exact .of alike_enc
        · rw [zip_snd hl2]
          exact .tuples fun b => ⟨_, _, rfl⟩
        · obtain ⟨ns, h1, h2⟩ := paired_zip hwp b hb
          rw [h2]
          exact dep_enc ns
        generalize hsd : (ws.zip ((subs N).map encF)).mergeSort (PySem.W.dataLe false (·.2)) = sd
        have perm : sd.Perm (ws.zip ((subs N).map encF)) := by rw [← hsd]; exact List.mergeSort_perm _ _
        have sr : Same H3 (upd H3 r (.lst (sd.map (·.1)))) := Same.upd hr3
        have each : ∀ b ∈ sd, ∃ ns, PairV H3 b.1 ns ∧ b.2 = encF ns := fun b hb => paired_zip hwp b (perm.mem_iff.mp hb)
        have len : sd.length ≤ 32 := by rw [perm.length_eq, List.length_zip, hl2, Nat.min_self, List.length_map, subs_len]; exact Nat.pow_le_pow_right (by decide) hN
        refine ⟨r, rfl, ⟨_, SqL.of upd_same⟩, fun D2 hD2 => lc_list (K := K) (a := r) (xs := sd.map (·.1)) (fun j H4 => Same (upd H3 r (.lst (sd.map (·.1)))) H4 ∧ ∃ zs, H4 D2 = some (.lst zs) ∧ IntsVs H4 zs ((sd.take j).map fun b => extF b.2)) ⟨Same.upd hD2, [], upd_same, .nil⟩ (fun j H4 _ h => SqL.of (h.1 _ _ upd_same)) ?_ ?_⟩
        · rintro j v H4 hvj ⟨s4, zs, hz, hzp⟩
          obtain ⟨b, hb, rfl⟩ := map_get hvj
          obtain ⟨ns, ⟨p, q, e1, h1, h2⟩, e2⟩ := each b (List.mem_of_getElem? hb)
          have hj := (List.getElem?_eq_some_iff.mp hb).1
          refine ⟨p, _, e1, SqT.of (s4 _ _ (sr _ _ h1)), rfl, _, _, rfl, _, _, rfl, rfl, ?_⟩
          refine ⟨rfl, _, rfl, zs, hz, small1000 (by have := hzp.length; rw [List.length_map, List.length_take] at this; omega), s4.put hD2, _, upd_same, ?_⟩
          have kt : ∀ b xs, H4 b = some (.tup xs) → (upd H4 D2 (.lst (zs ++ [.ref q]))) b = some (.tup xs) := fun b xs h => by
            rw [upd_ne (ne_of h hz (by intro z; cases z))]; exact h
          rw [List.take_succ, hb, List.map_append]
          refine Paired.snoc (hzp.keep kt) ⟨q, rfl, kt _ _ ?_⟩
          show H4 q = some (.tup ((extF b.2).map V.int))
          rw [e2, ext_enc]
          exact s4 _ _ (sr _ _ h2)
        · rintro H4 ⟨s4, zs, hz, hzp⟩
          rw [List.length_map, List.take_of_length_le (Nat.le_refl _)] at hzp
          have s24 := (s3.trans sr).trans s4
          have pm : (sd.map fun b => extF b.2).Perm (subs N) := by
            have h1 := perm.map (fun b => extF b.2)
            have h2 : (ws.zip ((subs N).map encF)).map (fun b => extF b.2) = subs N := by
              have h3 : (ws.zip ((subs N).map encF)).map (fun b => extF b.2) = ((ws.zip ((subs N).map encF)).map (·.2)).map extF := by rw [List.map_map]; rfl
              rw [h3, zip_snd hl2, List.map_map]
              have h4 : (extF ∘ encF) = id := by
                funext ns
                exact ext_enc ns
              rw [h4, List.map_id]
            rw [h2] at h1
            exact h1
          exact k D2 zs _ H4 (s2.trans s24) ((s2.trans (s3.trans sr)).free hD2) hz hzp pm
end
end K24
set_option maxHeartbeats 4000000
namespace K24
open PySem L2 PySem.EX PyProof.Rows
structure TxZ (K : PySem.W.Frag) (mg : Str → Option Value) : Prop where
  wrong : Def K mg "_law_wrong" (top 75)
  dict : mg "dict" = none
section
variable {P : Program} {w : World} {K : PySem.W.Frag} {mg : Str → Option Value} {base : Heap}
abbrev nW : List Str := ["lines", "many", "heads", "there", "flips", "spot", "line", "words", "arrow", "asked", "word", "switch", "other"]
theorem pt_any {X : Cx} {e : Expr} : PT X e (fun _ _ _ => False) := ⟨fun _ _ _ _ _ _ h => h.elim⟩
theorem pe_any {X : Cx} {e : Expr} : PE X e (fun _ _ _ => False) := ⟨fun _ _ _ _ _ _ h => h.elim⟩
theorem scW : FnScope nW ["lines"] (defScope (top 75)) := ⟨rfl, rfl, rfl, by decide +kernel, rfl, by decide +kernel, by decide +kernel⟩
theorem blkW : BlkOk nW { kind := .function, names := [(".0", .local), ("word", .local), ("range", .globalImplicit), ("many", .cell)], isGenerator := false, isCoroutine := false } { kind := .function, names := [(".0", .local), ("switch", .local), ("str", .globalImplicit)], isGenerator := false, isCoroutine := false } [("switch", 11)] := blkOk_by (by decide +kernel)
def spW : Sp := fun vs H Q _ => ∃ (L : Addr) (ls : List Str), vs = [.ref L] ∧ H L = some (.lst (ls.map V.str)) ∧ ls ≠ [] ∧ ls.length ≤ 100 ∧ (∀ l ∈ ls, l.length + 2 ≤ sizeLine ∧ (Txt.split l sp).length ≤ 1000 ∧ ∀ u ∈ Txt.split l sp, (PyData.str u).canLay0 = true) ∧ ∀ (j : Int) H', Same H H' → AtL ls j → Q (if j = -1 then .non else .int j) H'
theorem mem_merge : ∀ {more kvs : List (Key × V)} {p : Key × V}, p ∈ mergeK kvs more → p ∈ kvs ∨ p ∈ more
  | [], _, _, h => .inl h
  | q :: r, kvs, p, h => by
    rcases mem_merge (more := r) (kvs := putK kvs q.1 q.2) h with h | h
    · rcases mem_putK h with h | rfl
      · exact .inl h
      · exact .inr List.mem_cons_self
    · exact .inr (List.mem_cons_of_mem _ h)
theorem key_merge {j : Key} : ∀ {more kvs : List (Key × V)}, ((∃ p ∈ kvs, p.1 = j) ∨ ∃ p ∈ more, p.1 = j) → ∃ p ∈ mergeK kvs more, p.1 = j
  | [], _, h => by
    rcases h with h | ⟨p, hp, _⟩
    · exact h
    · cases hp
  | q :: r, kvs, h => by
    refine key_merge (more := r) (kvs := putK kvs q.1 q.2) ?_
    rcases h with h | ⟨p, hp, e⟩
    · exact .inl (key_putK (.inl h))
    · rcases List.mem_cons.mp hp with rfl | hp
      · exact .inl (key_putK (.inr e.symm))
      · exact .inr ⟨p, hp, e⟩
/-- a dict from the lines of flips to their lots -/
structure FDic (H : Hp) (kvs : List (Key × V)) (n : Int) : Prop where
  snd : ∀ p ∈ kvs, ∃ ns, p.1 = .inr (lineD (.flip ns)) ∧ IntsV H p.2 ns ∧ okF n ns
  cmp : ∀ ns, okF n ns → ∃ p ∈ kvs, p.1 = Sum.inr (lineD (.flip ns))
theorem FDic.at_ {H : Hp} {n : Int} {kvs : List (Key × V)} (h : FDic H kvs n) (l : Str) : (∃ v ns, valV kvs (.inr l) = some v ∧ lineD (.flip ns) = l ∧ IntsV H v ns ∧ okF n ns) ∨ (valV kvs (.inr l) = none ∧ ∀ ns, okF n ns → lineD (.flip ns) ≠ l) := by
  cases q : valV kvs (.inr l) with
  | some v =>
    obtain ⟨ns, e1, e2, e3⟩ := h.snd _ (valV_mem q)
    exact .inl ⟨v, ns, rfl, (Sum.inr.inj e1).symm, e2, e3⟩
  | none =>
    refine .inr ⟨rfl, fun ns hd e => ?_⟩
    obtain ⟨p, hp, e1⟩ := h.cmp ns hd
    have h2 := valV_any (.inr l) kvs
    rw [q] at h2
    have h3 : (kvs.any fun kv => decide (kv.1 = Sum.inr l)) = true := List.any_eq_true.mpr ⟨p, hp, decide_eq_true (by rw [e1, e])⟩
    rw [h3] at h2
    cases h2
theorem FDic.of {H : Hp} {N : Nat} (hN : N ≤ 5) {ms : List (List Int)} (perm : ms.Perm (subs N)) {kvs : List (Key × V)} (h : Paired (fun (kv : Key × V) ns => kv.1 = .inr (lineD (.flip ns)) ∧ IntsV H kv.2 ns) kvs ms) : FDic H (mergeK [] kvs) N := by
  have mem1 : ∀ {kvs : List (Key × V)} {ms : List (List Int)}, Paired (fun (kv : Key × V) ns => kv.1 = .inr (lineD (.flip ns)) ∧ IntsV H kv.2 ns) kvs ms → ∀ p ∈ kvs, ∃ ns ∈ ms, p.1 = .inr (lineD (.flip ns)) ∧ IntsV H p.2 ns := by
    intro kvs ms h
    induction h with
    | nil => intro p hp; cases hp
    | cons h t ih =>
      intro p hp
      rcases List.mem_cons.mp hp with rfl | hp
      · exact ⟨_, List.mem_cons_self, h⟩
      · obtain ⟨ns, h1, h2⟩ := ih p hp
        exact ⟨ns, List.mem_cons_of_mem _ h1, h2⟩
  have mem2 : ∀ {kvs : List (Key × V)} {ms : List (List Int)}, Paired (fun (kv : Key × V) ns => kv.1 = .inr (lineD (.flip ns)) ∧ IntsV H kv.2 ns) kvs ms → ∀ ns ∈ ms, ∃ p ∈ kvs, p.1 = Sum.inr (lineD (.flip ns)) := by
    intro kvs ms h
    induction h with
    | nil => intro p hp; cases hp
    | cons h t ih =>
      intro ns hp
      rcases List.mem_cons.mp hp with rfl | hp
      · exact ⟨_, List.mem_cons_self, h.1⟩
      · obtain ⟨p, h1, h2⟩ := ih ns hp
        exact ⟨p, List.mem_cons_of_mem _ h1, h2⟩
  refine ⟨fun p hp => ?_, fun ns hns => ?_⟩
  · rcases mem_merge hp with hp | hp
    · cases hp
    · obtain ⟨ns, h1, h2, h3⟩ := mem1 h p hp
      exact ⟨ns, h2, h3, (mem_subs_iff hN).mp (perm.mem_iff.mp h1)⟩
  · exact key_merge (.inr (mem2 h ns (perm.mem_iff.mpr ((mem_subs_iff hN).mpr hns))))
theorem FDic.keep {H H' : Hp} {n : Int} {kvs : List (Key × V)} (h : FDic H kvs n) (k : ∀ b xs, H b = some (.tup xs) → H' b = some (.tup xs)) : FDic H' kvs n :=
  ⟨fun p hp => (by obtain ⟨d, h1, h2, h3⟩ := h.snd p hp; exact ⟨d, h1, h2.keep k, h3⟩), h.cmp⟩
def hdsS : List Str := (List.range 5).map fun i : Nat => headS (1 + (i : Int))
theorem mem_hds {l : Str} : l ∈ hdsS ↔ ∃ i : Nat, i < 5 ∧ l = headS (1 + (i : Int)) := by
  unfold hdsS
  constructor
  · intro h
    obtain ⟨i, h1, h2⟩ := List.mem_map.mp h
    exact ⟨i, List.mem_range.mp h1, h2.symm⟩
  · rintro ⟨i, h1, rfl⟩
    exact List.mem_map_of_mem (List.mem_range.mpr h1)
theorem eqV_str (a b : Str) : eqV (V.str a) (V.str b) = decide (a = b) := by
  unfold eqV
  by_cases e : a = b
  · subst e; simp
  · simp [e]
theorem flat_strs (us : List Str) : (us.map V.str).all flatV = true := by
  rw [List.all_map, List.all_eq_true]
  intro x _
  rfl
theorem ok_wrong (T : TxP P K mg) (C : TxC K mg) (X : TxH K mg) (Z : TxZ K mg) : Fnc P w K mg base CX0 2 "_law_wrong" ["lines"] (spW) := by
  have GL : Fnc P w K mg base CX0 1 "_law_line" ["deed"] spLL := ok_ll T X
  have GS : Fnc P w K mg base CX0 1 "_law_some" ["many"] (spSome K) := ok_some T C X
  refine fnc0 Z.wrong scW (fun vs H Q E h => ?_) (fun _ _ _ _ _ _ us hl => match us, hl with | [_], _ => rfl) (fun cdv A outer s H vs Q E hr h => ?_)
  · obtain ⟨L, ls, rfl, _⟩ := h
    rfl
  · have hu : (cxOf CX0 P w K mg base nW "_law_wrong" (defScope (top 75)) (He.ga K "_law_wrong") cdv A outer s H E).A.units + 1 < cLine := Nat.lt_of_le_of_lt (Nat.add_le_add_left (by decide : 1 ≤ 64) _) hr.units
    have hu65 : (A.deeper (envOfC "_law_wrong" (defScope (top 75)) s.heap.objs.size (He.ga K "_law_wrong") cdv)).units + 65 < cLine := by
      have := hr.un
      omega
    refine ⟨_, pss_cons (ps_setLc (i := 2) (own := [("many", 1)]) (g := gName 1) (tt := tYes) rfl scW.nd rfl rfl (sw_true rfl rfl rfl (by decide +kernel)) (pi_range2 (by rfl) T.range (pa_cons pe_int (pa_cons pe_int pa_nil))) (blkOk_by (N := nW) (sc := defScope (top 75)) (by decide +kernel))
          (fun _ _ _ _ _ => pg_name (i := 1) scW.nd rfl (Or.inl rfl)) (fun _ _ _ _ _ => pts_nil) (fun _ _ _ _ _ => pe_op op_add_str pe_str (pe_callTy call_str_int (by rfl) T.str (by decide +kernel) (pa_cons (pv 1) pa_nil))))
      (pss_cons (ps_if (pt_cmpR op_notIn_seq (pe_ix ix_list (pv 0) pe_int (fun _ _ => rfl)) (pv 2) (by with_unfolding_all rfl)) (pss_one (ps_ret pe_int)) pss_nil)
      (pss_cons (ps_if (PW.pt (pw_or (pt_cmpR op_eq (pe_callB call_len_seq (by rfl) T.len PySem.boot_len (pa_cons (pv 0) pa_nil)) pe_int (nomark _)) (pw_or1 (pt_cmpR op_ne (pe_ix ix_list (pv 0) pe_int (fun _ _ => rfl)) pe_str (nomark _))))) (pss_one (ps_ret pe_int)) pss_nil)
      (pss_cons (ps_asg (pe_tup (pa_cons (pe_op op_add (pe_bm PySem.F.plainAttrs_list PySem.F.slot_list_index PySem.F.type_list_index mt_index (pv 2) (pa_cons (pe_ix ix_list (pv 0) pe_int (fun _ _ => rfl)) pa_nil)) pe_int) (pa_cons (pe_lst pa_nil) pa_nil))) (pg_tup rfl (pgs_cons (pg_name (i := 1) scW.nd rfl (Or.inr rfl)) (pgs_cons (pg_name (i := 3) scW.nd rfl (Or.inl rfl)) pgs_nil))))
      (pss_cons (ps_set (i := 4) scW.nd rfl (Or.inr rfl) (pe_callTy (call_dictP rfl) (by rfl) Z.dict (by decide +kernel) (pa_cons
          (pe_lc (own := [("asked", 9)]) (g := gName 9) (tt := tYes) rfl scW.nd (pi_list (pe_fn GS hr pass0 (pa_cons (pv 1) pa_nil))) (blkOk_by (N := nW) (sc := defScope (top 75)) (by decide +kernel))
            (fun _ _ _ _ _ => pg_name (i := 9) scW.nd rfl (Or.inl rfl)) (fun _ _ _ _ _ => pts_nil) (fun _ _ _ _ _ => pe_tup (pa_cons (pe_fn GL hr pass0 (pa_cons (pe_tup (pa_cons pe_str (pa_cons (pv 9) pa_nil))) pa_nil)) (pa_cons (pv 9) pa_nil)))) pa_nil)))
      (pss_cons (ps_for PassesOwn.never rfl (pi_enum (by rfl) T.enum (pa_cons (pe_slice sl_list (pv 0) (po_some pe_int) po_none) pa_nil)) (pg_tup rfl (pgs_cons (pg_name (i := 5) scW.nd rfl (Or.inl rfl)) (pgs_cons (pg_name (i := 6) scW.nd rfl (Or.inr rfl)) pgs_nil)))
        (pss_cons (ps_set (i := 7) scW.nd rfl (Or.inl rfl) (pe_split (pv 6) pe_str))
        (pss_cons (ps_if (pt_cmp (pc_din hu (pv 6) (pv 4)) (by with_unfolding_all rfl))
          (pss_cons (ps_setLc (i := 3) (own := [("arrow", 8)]) (g := gName 8) (tt := tYes) rfl scW.nd rfl rfl (sw_true rfl rfl rfl (by decide +kernel)) (pi_list (pv 3)) (blkOk_by (N := nW) (sc := defScope (top 75)) (by decide +kernel))
              (fun _ _ _ _ _ => pg_name (i := 8) scW.nd rfl (Or.inl rfl)) (fun _ _ _ _ _ => pts_nil) (fun _ _ _ _ _ => pe_tup (pa_cons (pe_ix (r := rIxT K) ix_tup (pv 8) pe_int (fun _ _ => rfl)) (pa_cons (pe_ix (r := rIxT K) ix_tup (pv 8) pe_int (fun _ _ => rfl)) (pa_cons (pe_ifExp (pt_cmpR op_eq (pe_cmpR (r := rIn K false) op_in_seq (pe_ix (r := rIxT K) ix_tup (pv 8) pe_int (fun _ _ => rfl)) (pe_dget hu (pv 4) (pv 6) (fun _ _ => rfl)) (by with_unfolding_all rfl)) (pe_cmpR (r := rIn K false) op_in_seq (pe_ix (r := rIxT K) ix_tup (pv 8) pe_int (fun _ _ => rfl)) (pe_dget hu (pv 4) (pv 6) (fun _ _ => rfl)) (by with_unfolding_all rfl)) (nomark _)) (pe_ix (r := rIxT K) ix_tup (pv 8) pe_int (fun _ _ => rfl)) (pe_op op_sub pe_int (pe_ix (r := rIxT K) ix_tup (pv 8) pe_int (fun _ _ => rfl)))) pa_nil)))))
          (pss_one ps_continue)) pss_nil)
        (pss_cons (ps_if (PW.pt (pw_or (pt_cmpR op_ne (pe_callB call_len_seq (by rfl) T.len PySem.boot_len (pa_cons (pv 7) pa_nil)) pe_int (nomark _))
            (pw_or (pt_cmpR op_notIn_seq (pe_ix ix_list (pv 7) pe_int (fun _ _ => rfl)) (pe_lst (pa_cons pe_str (pa_cons pe_str pa_nil))) (by with_unfolding_all rfl))
            (pw_or1 (pt_cmpR op_notIn_seq (pe_ix ix_list (pv 7) pe_int (fun _ _ => rfl)) (pe_lst (pa_cons pe_str (pa_cons pe_str pa_nil))) (by with_unfolding_all rfl))))))
          (pss_one (ps_ret (pe_op op_add (pv 5) pe_int))) pss_nil)
        (pss_cons (ps_if (pt_cmpR (op_neD hr.units) (pe_lc (own := [("word", 10)]) (g := gName 10) rfl scW.nd (pi_list (pe_lst (pa_cons (pe_ix ix_list (pv 7) pe_int (fun _ _ => rfl)) (pa_cons (pe_ix ix_list (pv 7) pe_int (fun _ _ => rfl)) pa_nil)))) (blkOk_by (N := nW) (sc := defScope (top 75)) (by decide +kernel))
              (fun _ _ _ _ _ => pg_name (i := 10) scW.nd rfl (Or.inl rfl)) (fun _ _ _ _ _ => pts_one (pt_cmpR (r := rIn K true) op_notIn_seq (pv 10)
                (pe_lc (own := [("switch", 11)]) (g := gName 11) (tt := tYes) rfl scW.nd (pi_range1 (by rfl) T.range (pa_cons (pv 1) pa_nil)) blkW
                  (fun _ _ _ _ _ => pg_name (i := 11) scW.nd rfl (Or.inl rfl)) (fun _ _ _ _ _ => pts_nil) (fun _ _ _ _ _ => pe_callTy call_str_int (by rfl) T.str (by decide +kernel) (pa_cons (pv 11) pa_nil))) (by with_unfolding_all rfl))) (fun _ _ _ _ _ => pv 10)) (pe_lst pa_nil) (nomark _))
          (pss_one (ps_ret (pe_op op_add (pv 5) pe_int))) pss_nil)
        (pss_cons (ps_set (i := 8) scW.nd rfl (Or.inr rfl) (pe_tup (pa_cons (pe_callTy call_int_str (by rfl) T.int (by decide +kernel) (pa_cons (pe_ix ix_list (pv 7) pe_int (fun _ _ => rfl)) pa_nil))
          (pa_cons (pe_callTy call_int_str (by rfl) T.int (by decide +kernel) (pa_cons (pe_ix ix_list (pv 7) pe_int (fun _ _ => rfl)) pa_nil))
          (pa_cons (pe_ifExp (pt_cmpR op_eq (pe_ix ix_list (pv 7) pe_int (fun _ _ => rfl)) pe_str (nomark _)) pe_int (pe_un un_neg pe_int)) pa_nil)))))
        (pss_cons (ps_if (pt_cmpR op_ne (pe_cmpR (op_inD hu65) (pv 8) (pv 3) (by with_unfolding_all rfl)) (pe_cmpR op_eq (pe_ix ix_list (pv 7) pe_int (fun _ _ => rfl)) pe_str (nomark _)) (nomark _))
          (pss_one (ps_ret (pe_op op_add (pv 5) pe_int))) pss_nil)
        (pss_one (ps_set (i := 3) scW.nd rfl (Or.inl rfl) (pe_op op_cat
          (pe_lc (own := [("other", 12)]) (g := gName 12) rfl scW.nd (pi_list (pv 3)) (blkOk_by (N := nW) (sc := defScope (top 75)) (by decide +kernel))
            (fun _ _ _ _ _ => pg_name (i := 12) scW.nd rfl (Or.inl rfl)) (fun _ _ _ _ _ => pts_one (pt_cmpR (r := rNeD K) (op_neD hr.units) (pv 12) (pv 8) (nomark _))) (fun _ _ _ _ _ => pv 12))
          (pe_ifExp (pt_cmpR op_eq (pe_ix ix_list (pv 7) pe_int (fun _ _ => rfl)) pe_str (nomark _)) (pe_lst (pa_cons (pv 8) pa_nil)) (pe_lst pa_nil))))))))))))
      (pss_one (ps_ret pe_non))))))), ?_⟩
    obtain ⟨L, ls, rfl, hL, hne, hlen, hsz, k⟩ := h
    obtain ⟨l, rest', rfl⟩ : ∃ l rest', ls = l :: rest' := by
      cases ls with
      | nil => exact absurd rfl hne
      | cons l t => exact ⟨l, t, rfl⟩
    refine ⟨1, 6, rfl, ⟨by decide, by decide, by decide, by decide⟩, fun F hF => lc_range (lo := 1) (n := 5) (fun i H2 => Same H H2 ∧ H2 F = some (.lst (((List.range i).map fun i : Nat => headS (1 + (i : Int))).map V.str))) ⟨Same.upd hF, upd_same⟩ ?_ ?_⟩
    · rintro i H2 hi ⟨s2, hz⟩
      have hl10 : (headS (1 + (i : Int))).length = 10 := headS_len (by omega) (by omega)
      refine ⟨rfl, ?_⟩
      refine ⟨_, rfl, _, rfl, log_small (by omega), _, _, rfl, rfl, (by
        have e : (Str.ofString "switches ").length + (nS (1 + (i : Int))).length = (headS (1 + (i : Int))).length := by unfold headS; rw [PySem.Str.length_append]
        show (Str.ofString "switches ").length + (nS (1 + (i : Int))).length ≤ sizeLine
        rw [e, hl10]
        decide), _, hz, small1000 (by rw [List.length_map, List.length_map, List.length_range]; omega), s2.put hF, ?_⟩
      rw [upd_same, List.range_succ, List.map_append, List.map_append]
      rfl
    rintro H2 ⟨s2, hz⟩
    have hF2 : H2 F = some (.lst (hdsS.map V.str)) := hz
    have hL2 := s2 _ _ hL
    refine ⟨_, rfl, L, _, (0 : Int), .str l, rfl, rfl, SqL.of hL2, atI_int (by decide) rfl, _, rfl, F, _, rfl, .inl (SqL.of hF2), rfl, flat_strs _, _, rfl, ?_⟩
    rw [inV_strs]
    by_cases hl : l ∈ hdsS
    case neg =>
      rw [decide_eq_false hl]
      refine iteT ?_
      exact k 0 H2 s2 ⟨l, rest', rfl, .inl ⟨rfl, fun m m0 m1 e => hl (mem_hds.mpr ⟨(m - 1).toNat, by omega, by rw [e, show (1 : Int) + ((m - 1).toNat : Int) = m by omega]⟩)⟩⟩
    rw [decide_eq_true hl]
    refine iteF ?_
    obtain ⟨j, hj5, rfl⟩ := mem_hds.mp hl
    have en : (1 : Int) + (j : Int) = ((j + 1 : Nat) : Int) := by omega
    have hN : j + 1 ≤ 5 := by omega
    -- the second line
    refine ⟨_, rfl, L, _, rfl, .inl (SqL.of hL2), rfl, _, rfl, ?_⟩
    by_cases hbk : ∃ rest, rest' = ("book" : Str) :: rest
    case neg =>
      have one : Q (.int 1) H2 := k 1 H2 s2 ⟨_, rest', rfl, .inr ⟨1 + j, by omega, by omega, rfl, .inl ⟨rfl, fun e => hbk (by
        cases rest' with
        | nil => cases e
        | cons a t => exact ⟨t, by rw [Option.some.inj e]⟩)⟩⟩⟩
      refine ite2 (fun hc => ?_) (fun hc => ?_)
      · exact iteT one
      · cases rest' with
        | nil => exact absurd (decide_eq_true rfl) hc
        | cons m ms =>
          refine ⟨_, rfl, L, _, (1 : Int), V.str m, rfl, rfl, SqL.of hL2, atI_int (by decide) rfl, rfl, _, rfl, ?_⟩
          have hm : ¬ m = Str.ofString "book" := fun e => hbk ⟨ms, by rw [e]⟩
          rw [decide_eq_false (fun e => hm (V.str.inj e))]
          exact iteT one
    obtain ⟨rest, rfl⟩ := hbk
    refine ite2 (fun hc => ?_) (fun hc => ?_)
    · exfalso
      have := of_decide_eq_true hc
      simp at this
      omega
    refine ⟨_, rfl, L, _, (1 : Int), V.str "book", rfl, rfl, SqL.of hL2, atI_int (by decide) rfl, rfl, _, rfl, ?_⟩
    rw [show decide (V.str "book" = V.str (Str.ofString "book")) = true from decide_eq_true rfl]
    refine iteF ?_
    -- many, there
    have hjx : hdsS[j]? = some (headS (1 + (j : Int))) := by
      unfold hdsS
      rw [List.getElem?_map, List.getElem?_range hj5]
      rfl
    refine ⟨_, rfl, .inl ⟨rfl, _, SqL.of hF2⟩, _, rfl, L, _, (0 : Int), .str (headS (1 + j)), rfl, rfl, SqL.of hL2, atI_int (by decide) rfl, F, _, .str (headS (1 + j)), j, .str (headS (1 + j)), rfl, rfl, SqL.of hF2, rfl, flat_strs _, by rw [List.getElem?_map, hjx]; rfl, (eqV_str _ _).trans (decide_eq_true rfl), ?_, _, _, rfl, rfl, ?_⟩
    · intro m z hm hz2
      obtain ⟨y, hy, rfl⟩ := map_get hz2
      have hy2 : y = headS (1 + (m : Int)) := by
        have : hdsS[m]? = some (headS (1 + (m : Int))) := by
          unfold hdsS
          rw [List.getElem?_map, List.getElem?_range (by omega)]
          rfl
        exact Option.some.inj (hy.symm.trans this)
      rw [eqV_str, hy2]
      refine decide_eq_false fun e => ?_
      have := headS_inj (by omega) (by omega) (by omega) (by omega) e
      omega
    refine ⟨by decide, fun th hth => ?_⟩
    have s3 : Same H2 (upd H2 th (.lst [])) := Same.upd hth
    refine ⟨(by show 2 ≤ sizeLine; decide), fun pt hpt => ?_⟩
    have s4 : Same (upd H2 th (.lst [])) (upd (upd H2 th (.lst [])) pt (.tup [.int ((j : Int) + 1), .ref th])) := Same.upd hpt
    refine ⟨pt, _, rfl, SqT.of upd_same, rfl, _, _, rfl, _, _, rfl, rfl, ?_⟩
    have hth4 := s4 _ _ (upd_same (H := H2) (a := th) (o := .lst []))
    have s24 := s2.trans (s3.trans s4)
    generalize (upd (upd H2 th (.lst [])) pt (.tup [.int ((j : Int) + 1), .ref th])) = H4 at s4 hth4 s24 ⊢
    -- flips
    refine ⟨_, rfl, j + 1, rfl, hN, fun lo vs ms H5 s5 hlo hv hms perm => ?_⟩
    refine ⟨lo, rfl, ⟨_, SqL.of hv⟩, fun D hD => lc_list (K := K) (a := lo) (xs := vs) (fun i H6 => Same H5 H6 ∧ ∃ (ps : List Addr) (kvs : List (Key × V)), H6 D = some (.lst (ps.map V.ref)) ∧ Paired (fun p (kv : Key × V) => H6 p = some (.tup [kV kv.1, kv.2])) ps kvs ∧ Paired (fun (kv : Key × V) ns => kv.1 = .inr (lineD (.flip ns)) ∧ IntsV H6 kv.2 ns) kvs (ms.take i)) ⟨Same.upd hD, [], [], upd_same, .nil, .nil⟩ (fun i H6 _ h => SqL.of (h.1 _ _ hv)) ?_ ?_⟩
    · rintro i v H6 hvi ⟨s6, ps, kvs, hps, p1, p2⟩
      obtain ⟨ns, hns, q, rfl, hq⟩ := Paired.at_ hms hvi
      have okn : okF ((j + 1 : Nat) : Int) ns := (mem_subs_iff hN).mp (perm.mem_iff.mp (List.mem_of_getElem? hns))
      have hi := (List.getElem?_eq_some_iff.mp hns).1
      have lm : ms.length ≤ 32 := by rw [perm.length_eq, subs_len]; exact Nat.pow_le_pow_right (by decide) hN
      refine ⟨rfl, ?_⟩
      refine ⟨_, rfl, (by show 2 ≤ sizeLine; decide), fun c hc => ?_⟩
      have sc : Same H6 (upd H6 c (.tup [.str "flip", .ref q])) := Same.upd hc
      refine ⟨.ref c, rfl, .inl ⟨_, ns, okn, by omega, ⟨c, q, rfl, upd_same, sc _ _ (s6 _ _ hq)⟩, fun H7 s7 => ?_⟩⟩
      refine ⟨_, rfl, (by show 2 ≤ sizeLine; decide), fun e he => ?_⟩
      have s67 := (sc.trans s7).trans (Same.upd (o := .tup [.str (lineD (.flip ns)), .ref q]) he)
      have lp : ps.length ≤ 32 := by
        have a1 := p1.length
        have a2 := p2.length
        rw [List.length_take] at a2
        omega
      have h8 := s67 _ _ hps
      have kt : ∀ b xs, (upd H7 e (.tup [.str (lineD (.flip ns)), .ref q])) b = some (.tup xs) → (upd (upd H7 e (.tup [.str (lineD (.flip ns)), .ref q])) D (.lst (ps.map V.ref ++ [.ref e]))) b = some (.tup xs) := fun b xs h => by
        rw [upd_ne (ne_of h h8 (by intro z; cases z))]; exact h
      refine ⟨_, h8, small1000 (by rw [List.length_map]; omega), (s6.trans s67).put hD, ps ++ [e], kvs ++ [(.inr (lineD (.flip ns)), .ref q)], ?_, ?_, ?_⟩
      · rw [upd_same, List.map_append]
        rfl
      · exact Paired.snoc (Paired.imp (fun _ _ h => kt _ _ (s67 _ _ h)) p1) (kt _ _ upd_same)
      · rw [List.take_succ, hns]
        exact Paired.snoc (Paired.imp (fun _ _ h => ⟨h.1, (h.2.keep s67.tups).keep kt⟩) p2) ⟨rfl, q, rfl, kt _ _ (s67 _ _ (s6 _ _ hq))⟩
    rintro H6 ⟨s6, ps, kvs, hps, p1, p2⟩
    rw [hms.length, List.take_of_length_le (Nat.le_refl _)] at p2
    refine ⟨D, ps, kvs, rfl, SqL.of hps, Paired.imp (fun _ _ h => SqT.of h) p1, fun d hd => ?_⟩
    have sd : Same H6 (upd H6 d (.dK (mergeK [] kvs))) := Same.upd hd
    have fd : FDic (upd H6 d (.dK (mergeK [] kvs))) (mergeK [] kvs) ((j + 1 : Nat) : Int) := (FDic.of hN perm p2).keep sd.tups
    have hdd : (upd H6 d (.dK (mergeK [] kvs))) d = some (.dK (mergeK [] kvs)) := upd_same
    have s46 := s5.trans (s6.trans sd)
    generalize hfk : mergeK [] kvs = fk at fd hdd sd s46 ⊢
    generalize (upd H6 d (.dK fk)) = H7 at fd hdd sd s46 ⊢
    have sH7 := s24.trans s46
    have hth7 := s46 _ _ hth4
    have hL7 := sH7 _ _ hL
    clear s6 p1 p2 hps s5 hv hms s4 s3 hz hF2
    -- the lines
    refine ⟨_, rfl, _, rfl, L, _, rfl, SqL.of hL7, fun q hq => ?_⟩
    have ecut : cutV ((headS (1 + (j : Int)) :: "book" :: rest).map V.str) (some 2) none = rest.map V.str := by
      unfold cutV
      rw [HT.sIx_none, show (some (2 : Int)) = some ((2 : Nat) : Int) from rfl, HT.sIx_nat, List.take_of_length_le (by rw [List.length_drop]; omega)]
      rw [show min 2 ((headS (1 + (j : Int)) :: "book" :: rest).map V.str).length = 2 by rw [List.length_map, List.length_cons, List.length_cons]; omega]
      rfl
    rw [ecut]
    have sq : Same H7 (upd H7 q (.lst (rest.map V.str))) := Same.upd hq
    have hqq : (upd H7 q (.lst (rest.map V.str))) q = some (.lst (rest.map V.str)) := upd_same
    have fd8 := fd.keep sq.tups
    have hdd8 := sq _ _ hdd
    have hth8 := sq _ _ hth7
    have sH8 := sH7.trans sq
    generalize (upd H7 q (.lst (rest.map V.str))) = H8 at hqq fd8 hdd8 hth8 sH8 ⊢
    clear sq fd hdd sd s46 sH7 hth7 hL7
    have lrest : rest.length ≤ 98 := by rw [List.length_cons, List.length_cons] at hlen; omega
    have n1 : (1 : Int) + (j : Int) ≤ 5 := by omega
    have atl : ∀ (r : Int), ((∃ (i : Nat) (q : Str) (ds : List De) (as : List Ar), rest[i]? = some q ∧ Run (1 + (j : Int)) [] (rest.take i) ds as ∧ (∀ d, Right (1 + (j : Int)) as d → lineD d ≠ q) ∧ r = (i : Int) + 2) ∨ (∃ ds as, Run (1 + (j : Int)) [] rest ds as ∧ r = -1)) → AtL (headS (1 + (j : Int)) :: "book" :: rest) r := fun r h =>
      ⟨_, _, rfl, .inr ⟨1 + j, by omega, n1, rfl, .inr ⟨rest, rfl, h⟩⟩⟩
    rw [show (((j + 1 : Nat) : Int)) = 1 + (j : Int) by omega] at fd8
    refine ⟨q, rest.map V.str, rfl, SqL.of hqq, ?_⟩
    refine for_it (walk_enum (K := K) (a := q) (xs := rest.map V.str)) (fun i σ G => (∃ th u5 u6 u7 u8 u9 u10 u11 u12, σ = [some (.ref L), some (.int ((j : Int) + 1)), some (.ref F), some (.ref th), some (.ref d), u5, u6, u7, u8, u9, u10, u11, u12] ∧ ∃ xs ts, G th = some (.lst xs) ∧ Ars G xs ts ∧ ts.length ≤ i ∧ ∃ ds as, Run (1 + (j : Int)) [] (rest.take i) ds as ∧ ∀ a, a ∈ ts ↔ a ∈ as) ∧ Same H8 G) ⟨⟨th, _, _, _, _, _, _, _, _, rfl, [], [], hth8, .nil, Nat.le_refl _, [], [], .nil, fun a => Iff.rfl⟩, same_refl⟩ (fun i σ G _ h => SqL.of (h.2 _ _ hqq)) ?_ ?_
    · rintro i x σ G G1 hi ⟨⟨th, u5, u6, u7, u8, u9, u10, u11, u12, rfl, xs, ts, hxs, hts, ltl, ds, as, hrun, hmem⟩, s8⟩ ⟨p2, x1, x2, rfl, hp2, rfl, e1, e2⟩
      cases e1
      obtain ⟨ln, hln, rfl⟩ := map_get e2
      obtain ⟨z1, z2, z3⟩ := hsz ln (List.mem_cons_of_mem _ (List.mem_cons_of_mem _ (List.mem_of_getElem? hln)))
      have hi98 := (List.getElem?_eq_some_iff.mp hln).1
      have sp2 : Same G (upd G p2 (.tup [.int ((i : Nat) : Int), .str ln])) := Same.upd hp2
      refine ⟨p2, _, rfl, SqT.of upd_same, rfl, ?_⟩
      refine ⟨_, _, rfl, ⟨_, _, rfl, rfl, ?_⟩⟩
      have s8a := s8.trans sp2
      have hxs1 := sp2 _ _ hxs
      have hts1 := hts.keep sp2.tups
      generalize (upd G p2 (.tup [.int ((i : Nat) : Int), .str ln])) = G1 at s8a hxs1 hts1 ⊢
      clear hxs hts s8 sp2 hp2
      refine ⟨_, rfl, ⟨ln, rfl⟩, ln, _, rfl, rfl, by decide, z1, fun W hW => ?_⟩
      have sW : Same G1 (upd G1 W (.lst ((Txt.split ln sp).map V.str))) := Same.upd hW
      have hWW : (upd G1 W (.lst ((Txt.split ln sp).map V.str))) W = some (.lst ((Txt.split ln sp).map V.str)) := upd_same
      have s8b := s8a.trans sW
      have hxs2 := sW _ _ hxs1
      have hts2 := hts1.keep sW.tups
      generalize (upd G1 W (.lst ((Txt.split ln sp).map V.str))) = G2 at s8b hxs2 hts2 hWW ⊢
      clear hxs1 hts1 s8a sW hW
      have fd2 := fd8.keep s8b.tups
      have hdd2 := s8b _ _ hdd8
      have lxs : xs.length ≤ 98 := by rw [hts2.length]; omega
      have stk : ∀ G5, Same G2 G5 → (∀ ns, okF (1 + (j : Int)) ns → lineD (.flip ns) ≠ ln) → (∀ m a, Right (1 + (j : Int)) as (.arr m a) → lineD (.arr m a) ≠ ln) → Q (.int ((i : Int) + 2)) G5 := fun G5 s5 h1 h2 => by
        have := k ((i : Int) + 2) G5 (sH8.trans (s8b.trans s5)) (atl _ (.inl ⟨i, ln, ds, as, hln, hrun, fun dd hd e => by
          cases dd with
          | flip ns => exact h1 ns hd e
          | arr m a => exact h2 m a hd e, rfl⟩))
        rw [if_neg (by omega)] at this
        exact this
      refine ⟨_, rfl, _, rfl, d, _, rfl, DGet.k (k := .inr ln) hdd2, _, rfl, ?_⟩
      rcases fd2.at_ ln with ⟨v, ns, hv, hl, ⟨qv, rfl, hqv⟩, okn⟩ | ⟨hv, hno⟩
      · rw [hv]
        refine iteT ?_
        refine ⟨_, rfl, th, rfl, ⟨_, SqL.of hxs2⟩, fun D hD => lc_list (K := K) (a := th) (xs := xs) (fun m G3 => Same G2 G3 ∧ ∃ zs, G3 D = some (.lst zs) ∧ Ars G3 zs ((ts.take m).map (flipA ns))) ⟨Same.upd hD, [], upd_same, .nil⟩ (fun m G3 _ h => SqL.of (h.1 _ _ hxs2)) ?_ ?_⟩
        · rintro m y G3 hy ⟨s3, zs, hz, hzA⟩
          obtain ⟨b, hb, pb, rfl, hvb⟩ := Ars.get hts2 hy
          obtain ⟨b1, b2, b3⟩ := b
          have hm := (List.getElem?_eq_some_iff.mp hb).1
          have hT := SqT.of (K := K) (s3 _ _ hvb)
          have hQ := SqT.of (K := K) (s3 _ _ hqv)
          have hdg : DGet G3 d (.str ln) (some (.ref qv)) := by rw [← hv]; exact DGet.k (k := .inr ln) (s3 _ _ hdd2)
          have lz : zs.length ≤ 1000 := by
            have := hzA.length
            rw [List.length_map, List.length_take] at this
            omega
          have adv : ∀ (T : Addr) (z : Int), G3 T = none → z = (flipA ns (b1, b2, b3)).2.2 → Same G2 (upd (upd G3 T (.tup [.int b1, .int b2, .int z])) D (.lst (zs ++ [.ref T]))) ∧ ∃ zs', (upd (upd G3 T (.tup [.int b1, .int b2, .int z])) D (.lst (zs ++ [.ref T]))) D = some (.lst zs') ∧
              Ars (upd (upd G3 T (.tup [.int b1, .int b2, .int z])) D (.lst (zs ++ [.ref T]))) zs' ((ts.take (m + 1)).map (flipA ns)) := fun T z hT ez => by
            have sT : Same G3 (upd G3 T (.tup [.int b1, .int b2, .int z])) := Same.upd hT
            have kt : ∀ b xs, (upd G3 T (.tup [.int b1, .int b2, .int z])) b = some (.tup xs) → (upd (upd G3 T (.tup [.int b1, .int b2, .int z])) D (.lst (zs ++ [.ref T]))) b = some (.tup xs) := fun b xs e => by
              rw [upd_ne (ne_of e (sT _ _ hz) (by intro q; cases q))]
              exact e
            refine ⟨(s3.trans sT).put hD, _, upd_same, ?_⟩
            rw [List.take_succ, hb, List.map_append]
            refine Paired.snoc ((hzA.keep sT.tups).keep kt) ⟨T, rfl, kt _ _ ?_⟩
            rw [upd_same, ez]
            rfl
          refine ⟨rfl, ?_⟩
          refine ⟨_, rfl, pb, _, (0 : Int), .int b1, rfl, rfl, hT, rfl, _, rfl, pb, _, (1 : Int), .int b2, rfl, rfl, hT, rfl, ?_⟩
          refine ⟨_, rfl, pb, _, (0 : Int), .int b1, rfl, rfl, hT, rfl, _, rfl, _, rfl, d, .ref qv, rfl, hdg, qv, _, rfl, .inr hQ, rfl, flat_ints ns, ?_⟩
          refine ⟨_, rfl, pb, _, (1 : Int), .int b2, rfl, rfl, hT, rfl, _, rfl, _, rfl, d, .ref qv, rfl, hdg, qv, _, rfl, .inr hQ, rfl, flat_ints ns, rfl, _, rfl, ?_⟩
          refine ite2 (fun hc => ?_) (fun hc => ?_)
          · have hc2 := of_decide_eq_true hc
            refine ⟨_, rfl, pb, _, (2 : Int), .int b3, rfl, rfl, hT, rfl, (by show 3 ≤ sizeLine; decide), fun T hTn => ⟨zs, (Same.upd hTn) _ _ hz, small1000 lz, adv T b3 hTn ?_⟩⟩
            have h3 : inV (.int b1) (ns.map V.int) = inV (.int b2) (ns.map V.int) := V.bl.inj hc2
            rw [inV_ints, inV_ints] at h3
            show b3 = if decide (b1 ∈ ns) = decide (b2 ∈ ns) then b3 else -b3
            rw [if_pos h3]
          · have hc2 : ¬ V.bl (inV (.int b1) (ns.map V.int)) = V.bl (inV (.int b2) (ns.map V.int)) := fun e => hc (decide_eq_true e)
            refine ⟨_, rfl, pb, _, (2 : Int), .int b3, rfl, rfl, hT, rfl, _, _, rfl, rfl, (by show 3 ≤ sizeLine; decide), fun T hTn => ⟨zs, (Same.upd hTn) _ _ hz, small1000 lz, adv T (0 - b3) hTn ?_⟩⟩
            have h3 : ¬ decide (b1 ∈ ns) = decide (b2 ∈ ns) := fun e => hc2 (by rw [inV_ints, inV_ints, e])
            show 0 - b3 = if decide (b1 ∈ ns) = decide (b2 ∈ ns) then b3 else -b3
            rw [if_neg h3]
            omega
        · rintro G3 ⟨s3, zs, hz, hzA⟩
          rw [hts2.length, List.take_of_length_le (Nat.le_refl _)] at hzA
          refine ⟨⟨D, _, _, _, _, _, _, _, _, rfl, zs, ts.map (flipA ns), hz, hzA, by rw [List.length_map]; omega, ds ++ [.flip ns], nextA as (.flip ns), ?_, fun a => ?_⟩, s8b.trans s3⟩
          · have e : rest.take (i + 1) = rest.take i ++ [lineD (.flip ns)] := by rw [List.take_succ, hln, hl]; rfl
            rw [e]
            exact hrun.snoc okn
          · show a ∈ ts.map (flipA ns) ↔ a ∈ (as.map (flipA ns)).mergeSort le3
            rw [List.mem_mergeSort, List.mem_map, List.mem_map]
            exact ⟨fun ⟨b, hb, e⟩ => ⟨b, (hmem b).mp hb, e⟩, fun ⟨b, hb, e⟩ => ⟨b, (hmem b).mpr hb, e⟩⟩
      · rw [hv]
        refine iteF ?_
        generalize hws : Txt.split ln sp = ws at hWW z2 z3
        have stk2 : ∀ G5, Same G2 G5 → (∀ m a, Right (1 + (j : Int)) as (.arr m a) → ws ≠ (De.arr m a).kind :: wordsA a) → Q (.int ((i : Int) + 2)) G5 := fun G5 s5 h => stk G5 s5 hno fun m a r e => h m a r (by rw [← hws, ← e]; exact split_lineD r.okD n1)
        by_cases h4 : ws.length = 4
        case neg =>
          refine ⟨_, rfl, W, _, rfl, .inl (SqL.of hWW), rfl, true, ?_, iteT (iteT ⟨_, rfl, _, _, rfl, rfl, stk2 G2 same_refl fun m a r e => h4 (by rw [e]; rfl)⟩)⟩
          rw [List.length_map]
          have e : decide (V.int (ws.length : Int) = V.int 4) = false := by
            refine decide_eq_false fun z => h4 ?_
            have := V.int.inj z
            omega
          rw [e]
          rfl
        obtain ⟨w0, w1, w2, w3, rfl⟩ : ∃ a b c d, ws = [a, b, c, d] := match ws, h4 with
          | [a, b, c, d], _ => ⟨a, b, c, d, rfl⟩
        refine ⟨_, rfl, W, _, rfl, .inl (SqL.of hWW), rfl, _, rfl, iteF ?_⟩
        refine ⟨_, rfl, W, _, (0 : Int), .str w0, rfl, rfl, SqL.of hWW, atI_int (by decide) rfl, (by show 2 ≤ sizeLine; decide), fun A1 hA1 => ⟨A1, _, rfl, .inl (SqL.of upd_same), rfl, rfl, _, rfl, ?_⟩⟩
        have sA1 : Same G2 (upd G2 A1 (.lst [.str (Str.ofString "may"), .str (Str.ofString "not")])) := Same.upd hA1
        rw [show inV (.str w0) [.str (Str.ofString "may"), .str (Str.ofString "not")] = decide (w0 ∈ ([Str.ofString "may", Str.ofString "not"] : List Str)) from inV_strs w0 [Str.ofString "may", Str.ofString "not"]]
        by_cases h0 : w0 ∈ ([Str.ofString "may", Str.ofString "not"] : List Str)
        case neg =>
          rw [decide_eq_false h0]
          refine iteT (iteT ⟨_, rfl, _, _, rfl, rfl, stk2 _ sA1 fun m a r e => h0 ?_⟩)
          rw [(List.cons.inj e).1]
          cases m
          · exact List.mem_cons_of_mem _ List.mem_cons_self
          · exact List.mem_cons_self
        rw [decide_eq_true h0]
        refine iteF ?_
        refine ⟨_, rfl, W, _, (2 : Int), .str w2, rfl, rfl, SqL.of (sA1 _ _ hWW), atI_int (by decide) rfl, (by show 2 ≤ sizeLine; decide), fun A2 hA2 => ⟨A2, _, rfl, .inl (SqL.of upd_same), rfl, rfl, _, rfl, ?_⟩⟩
        have sA2 := sA1.trans (Same.upd (o := .lst [.str (Str.ofString "helps"), .str (Str.ofString "hinders")]) hA2)
        rw [show inV (.str w2) [.str (Str.ofString "helps"), .str (Str.ofString "hinders")] = decide (w2 ∈ ([Str.ofString "helps", Str.ofString "hinders"] : List Str)) from inV_strs w2 [Str.ofString "helps", Str.ofString "hinders"]]
        by_cases h2 : w2 ∈ ([Str.ofString "helps", Str.ofString "hinders"] : List Str)
        case neg =>
          rw [decide_eq_false h2]
          refine iteT ⟨_, rfl, _, _, rfl, rfl, stk2 _ sA2 fun m a r e => h2 ?_⟩
          have e2 : w2 = wordS a.2.2 := (List.cons.inj (List.cons.inj (List.cons.inj e).2).2).1
          rw [e2]
          unfold wordS
          split
          · exact List.mem_cons_self
          · exact List.mem_cons_of_mem _ List.mem_cons_self
        rw [decide_eq_true h2]
        refine iteF ?_
        have hW3 := sA2 _ _ hWW
        generalize (upd (upd G2 A1 (.lst [.str (Str.ofString "may"), .str (Str.ofString "not")])) A2 (.lst [.str (Str.ofString "helps"), .str (Str.ofString "hinders")])) = G3 at sA2 hW3 ⊢
        clear sA1 hA1 hA2
        -- the figures
        refine ⟨_, rfl, W, _, (1 : Int), .str w1, rfl, rfl, SqL.of hW3, atI_int (by decide) rfl, _, rfl, W, _, (3 : Int), .str w3, rfl, rfl, SqL.of hW3, atI_int (by decide) rfl, (by show 2 ≤ sizeLine; decide), fun A3 hA3 => ⟨A3, rfl, ⟨_, SqL.of upd_same⟩, fun D hD => ?_⟩⟩
        have sA3 := sA2.trans (Same.upd (o := .lst [.str w1, .str w3]) hA3)
        have hA33 : (upd G3 A3 (.lst [.str w1, .str w3])) A3 = some (.lst [.str w1, .str w3]) := upd_same
        generalize (upd G3 A3 (.lst [.str w1, .str w3])) = G4 at sA3 hA33 hD ⊢
        clear hA3
        refine lc_list (K := K) (a := A3) (xs := ([w1, w3] : List Str).map V.str) (fun m G5 => Same G4 G5 ∧ G5 D = some (.lst ((([w1, w3].take m).filter fun u => !decide (u ∈ figs (1 + (j : Int)))).map V.str))) ⟨Same.upd hD, upd_same⟩ (fun m G5 _ h => SqL.of (h.1 _ _ hA33)) ?_ ?_
        · rintro m y G5 hy ⟨s5, hz⟩
          obtain ⟨u, hu1, rfl⟩ := map_get hy
          have hm := (List.getElem?_eq_some_iff.mp hu1).1
          have hm2 : m < 2 := hm
          refine ⟨rfl, ?_⟩
          refine ⟨_, rfl, _, rfl, ((j : Int) + 1), rfl, by omega, by omega, fun F2 hF3 => lc_range (lo := 0) (n := ((j : Int) + 1).toNat) (fun i2 G6 => Same G5 G6 ∧ G6 F2 = some (.lst (((List.range i2).map fun i : Nat => nS (i : Int)).map V.str))) ⟨Same.upd hF3, upd_same⟩ ?_ ?_⟩
          · rintro i2 G6 hi2 ⟨s6, hz6⟩
            refine ⟨rfl, ?_⟩
            refine ⟨_, rfl, _, rfl, log_small (by omega), _, hz6, small1000 (by rw [List.length_map, List.length_map, List.length_range]; omega), s6.put hF3, ?_⟩
            rw [upd_same, List.range_succ, List.map_append, List.map_append]
            have e : (0 : Int) + i2 = i2 := by omega
            rw [e]
            rfl
          · rintro G6 ⟨s6, hz6⟩
            have hf6 : G6 F2 = some (.lst ((figs (1 + (j : Int))).map V.str)) := by
              rw [hz6]
              unfold figs
              rw [show (1 : Int) + (j : Int) = (j : Int) + 1 by omega]
            refine ⟨F2, _, rfl, .inl (SqL.of hf6), rfl, flat_strs _, _, rfl, ?_⟩
            rw [inV_strs]
            have stp : ([w1, w3].take (m + 1)).filter (fun u => !decide (u ∈ figs (1 + (j : Int)))) = ([w1, w3].take m).filter (fun u => !decide (u ∈ figs (1 + (j : Int)))) ++ if (!decide (u ∈ figs (1 + (j : Int)))) = true then [u] else [] := by
              rw [List.take_succ, hu1, List.filter_append]
              congr 1
              simp [List.filter_cons]
            have hz7 := s6 _ _ hz
            refine ite2 (fun hc => ?_) (fun hc => ?_)
            · have hc2 : (!decide (u ∈ figs (1 + (j : Int)))) = true := hc
              rw [if_pos hc2] at stp
              refine ⟨_, rfl, _, hz7, small1000 (by rw [List.length_map]; have := List.length_filter_le (fun u => !decide (u ∈ figs (1 + (j : Int)))) ([w1, w3].take m); rw [List.length_take] at this; simp at this; omega), (s5.trans s6).put hD, ?_⟩
              rw [upd_same, stp, List.map_append]
              rfl
            · have hc2 : ¬ (!decide (u ∈ figs (1 + (j : Int)))) = true := hc
              rw [if_neg hc2, List.append_nil] at stp
              exact ⟨s5.trans s6, by rw [stp]; exact hz7⟩
        rintro G5 ⟨s5, hz⟩
        have hz : G5 D = some (.lst ((([w1, w3] : List Str).filter fun u => !decide (u ∈ figs (1 + (j : Int)))).map V.str)) := hz
        refine ⟨by decide, fun e0 he0 => ?_⟩
        have s6 := (sA3.trans s5).trans (Same.upd (o := .lst []) he0)
        have hz6 := (Same.upd (o := .lst []) he0) _ _ hz
        have lay : ∀ x ∈ (([w1, w3] : List Str).filter fun u => !decide (u ∈ figs (1 + (j : Int)))), (PyData.str x).canLay0 = true := fun x hx => z3 x (by
          have h1 := (List.mem_filter.mp hx).1
          simp only [List.mem_cons, List.not_mem_nil, or_false] at h1 ⊢
          rcases h1 with rfl | rfl <;> simp)
        refine ⟨.list ((([w1, w3] : List Str).filter fun u => !decide (u ∈ figs (1 + (j : Int)))).map .str), .list [], dp_strs (SqL.of hz6), dp_nil (SqL.of upd_same), shaped_strs lay, shaped_nil, _, rfl, ?_⟩
        rw [eqv_nilL]
        by_cases hfig : w1 ∈ figs (1 + (j : Int)) ∧ w3 ∈ figs (1 + (j : Int))
        case neg =>
          have hne2 : (List.map PyData.str (([w1, w3] : List Str).filter fun u => !decide (u ∈ figs (1 + (j : Int))))).isEmpty = false := by
            by_cases f1 : w1 ∈ figs (1 + (j : Int))
            · have f3 : ¬ w3 ∈ figs (1 + (j : Int)) := fun h => hfig ⟨f1, h⟩
              simp [f1, f3]
            · simp [f1]
          rw [hne2]
          refine iteT ⟨_, rfl, _, _, rfl, rfl, stk2 _ s6 fun m a r e => hfig ?_⟩
          obtain ⟨o1, o2, o3, o4, o5⟩ := r.1
          have e1 : w1 = nS a.1 := (List.cons.inj (List.cons.inj e).2).1
          have e3 : w3 = nS a.2.1 := (List.cons.inj (List.cons.inj (List.cons.inj (List.cons.inj e).2).2).2).1
          exact ⟨mem_figs.mpr ⟨a.1, o1, o2, e1⟩, mem_figs.mpr ⟨a.2.1, o3, o4, e3⟩⟩
        obtain ⟨f1, f3⟩ := hfig
        rw [show (List.map PyData.str (([w1, w3] : List Str).filter fun u => !decide (u ∈ figs (1 + (j : Int))))).isEmpty = true by simp [f1, f3]]
        refine iteF ?_
        have hW6 := s6 _ _ hWW
        have hxs6 := s6 _ _ hxs2
        have hts6 := hts2.keep s6.tups
        generalize (upd G5 e0 (.lst [])) = G6 at s6 hW6 hxs6 hts6 ⊢
        clear hz6 hz s5 he0 sA3 sA2 hD hA33
        obtain ⟨a1, o1, o2, rfl⟩ := mem_figs.mp f1
        obtain ⟨a2, o3, o4, rfl⟩ := mem_figs.mp f3
        refine ⟨_, rfl, W, _, (1 : Int), .str (nS a1), rfl, rfl, SqL.of hW6, atI_int (by decide) rfl, _, a1, rfl, intS o1 (by omega), by rw [nS_len o1 (by omega)]; decide, ?_⟩
        refine ⟨_, rfl, W, _, (3 : Int), .str (nS a2), rfl, rfl, SqL.of hW6, atI_int (by decide) rfl, _, a2, rfl, intS o3 (by omega), by rw [nS_len o3 (by omega)]; decide, ?_⟩
        refine ⟨_, rfl, W, _, (2 : Int), .str w2, rfl, rfl, SqL.of hW6, atI_int (by decide) rfl, rfl, _, rfl, ?_⟩
        have hw2 : w2 = Str.ofString "helps" ∨ w2 = Str.ofString "hinders" := by simpa using h2
        have nhh : ¬ (Str.ofString "hinders" : Str) = Str.ofString "helps" := by decide +kernel
        refine ite2 (fun hc => ?yes) (fun hc => ?no)
        case' yes =>
          have e2 : w2 = Str.ofString "helps" := V.str.inj (of_decide_eq_true hc)
          refine ⟨(by show 3 ≤ sizeLine; decide), fun T hT => ?_⟩
          have sT : Same G6 (upd G6 T (.tup [.int a1, .int a2, .int 1])) := Same.upd hT
          obtain ⟨g, hTT, hg, hwg⟩ : ∃ g : Int, (upd G6 T (.tup [.int a1, .int a2, .int 1])) T = some (.tup ((arL (a1, a2, g)).map V.int)) ∧ (g = 1 ∨ g = -1) ∧ w2 = wordS g := ⟨1, upd_same, .inl rfl, e2⟩
          generalize (upd G6 T (.tup [.int a1, .int a2, .int 1])) = G7 at sT hTT ⊢
        case' no =>
          have e2 : w2 = Str.ofString "hinders" := hw2.resolve_left fun e => hc (decide_eq_true (by rw [e]))
          refine ⟨_, rfl, (by show 3 ≤ sizeLine; decide), fun T hT => ?_⟩
          have sT : Same G6 (upd G6 T (.tup [.int a1, .int a2, .int (-1)])) := Same.upd hT
          obtain ⟨g, hTT, hg, hwg⟩ : ∃ g : Int, (upd G6 T (.tup [.int a1, .int a2, .int (-1)])) T = some (.tup ((arL (a1, a2, g)).map V.int)) ∧ (g = 1 ∨ g = -1) ∧ w2 = wordS g := ⟨-1, upd_same, .inr rfl, e2⟩
          generalize (upd G6 T (.tup [.int a1, .int a2, .int (-1)])) = G7 at sT hTT ⊢
        all_goals
          have s7 := s6.trans sT
          have hW7 := sT _ _ hW6
          have hxs7 := sT _ _ hxs6
          have hts7 := hts6.keep sT.tups
          have okar : okA (1 + (j : Int)) (a1, a2, g) := ⟨o1, o2, o3, o4, hg⟩
          obtain ⟨mm, hmm⟩ : ∃ mm : Bool, w0 = (De.arr mm (a1, a2, g)).kind := by
            have h := h0
            simp only [List.mem_cons, List.not_mem_nil, or_false] at h
            rcases h with h | h
            · exact ⟨true, h⟩
            · exact ⟨false, h⟩
          have hwords : [w0, nS a1, w2, nS a2] = (De.arr mm (a1, a2, g)).kind :: (De.arr mm (a1, a2, g)).words := by rw [hmm, hwg]; rfl
          have hline : lineD (.arr mm (a1, a2, g)) = ln := by
            unfold lineD
            rw [← hwords, ← hws, TL.join_eq]
            exact StrLaws.join_split ln sp
          have enot : decide (V.str w0 = V.str (Str.ofString "not")) = !mm := by
            rw [hmm]
            cases mm
            · exact decide_eq_true rfl
            · exact decide_eq_false fun e => n_mn (V.str.inj e)
          refine ⟨_, rfl, _, rfl, arD (a1, a2, g), ts.map arD, ArV.dp ⟨T, rfl, hTT⟩, .lst (SqL.of hxs7) hts7.dp, shaped_ar _, shaped_arsL ts, ?_⟩
          refine ⟨_, rfl, W, _, (0 : Int), .str w0, rfl, rfl, SqL.of hW7, atI_int (by decide) rfl, rfl, rfl, _, rfl, ?_⟩
          rw [eqv_mem, enot]
          have hmt : decide ((a1, a2, g) ∈ ts) = decide ((a1, a2, g) ∈ as) := by
            by_cases h : (a1, a2, g) ∈ ts
            · rw [decide_eq_true h, decide_eq_true ((hmem _).mp h)]
            · rw [decide_eq_false h, decide_eq_false fun q => h ((hmem _).mpr q)]
          rw [hmt]
          by_cases hin : decide ((a1, a2, g) ∈ as) = !mm
          case neg =>
            rw [show decide (V.bl (decide ((a1, a2, g) ∈ as)) = V.bl (!mm)) = false from decide_eq_false fun e => hin (V.bl.inj e)]
            refine iteT ⟨_, rfl, _, _, rfl, rfl, stk2 G7 s7 fun m a r e => hin ?_⟩
            have e3 : De.arr m a = De.arr mm (a1, a2, g) := by
              rw [hwords] at e
              obtain ⟨k1, k2⟩ := List.cons.inj e
              exact kind_words_inj r.okD okar n1 k1.symm k2.symm
            cases e3
            exact r.2
          rw [show decide (V.bl (decide ((a1, a2, g) ∈ as)) = V.bl (!mm)) = true from decide_eq_true (by rw [hin])]
          refine iteF ?_
          have rt : Right (1 + (j : Int)) as (.arr mm (a1, a2, g)) := ⟨okar, hin⟩
          have erun : Run (1 + (j : Int)) [] (rest.take (i + 1)) (ds ++ [.arr mm (a1, a2, g)]) (nextA as (.arr mm (a1, a2, g))) := by
            have e : rest.take (i + 1) = rest.take i ++ [lineD (.arr mm (a1, a2, g))] := by rw [List.take_succ, hln, hline]; rfl
            rw [e]
            exact hrun.snoc rt
          refine ⟨_, rfl, th, rfl, ⟨_, SqL.of hxs7⟩, fun D2 hD2 => lc_list (K := K) (a := th) (xs := xs) (fun m G8 => Same G7 G8 ∧ ∃ zs, G8 D2 = some (.lst zs) ∧ Ars G8 zs ((ts.take m).filter fun b => !decide (b = (a1, a2, g)))) ⟨Same.upd hD2, [], upd_same, .nil⟩ (fun m G8 _ h => SqL.of (h.1 _ _ hxs7)) ?_ ?_⟩
          · rintro m z G8 hz ⟨s8, zs, hzl, hzA⟩
            obtain ⟨b, hb, pb, rfl, hvb⟩ := Ars.get hts7 hz
            have hm := (List.getElem?_eq_some_iff.mp hb).1
            refine ⟨rfl, ?_⟩
            refine ⟨_, rfl, _, rfl, arD b, arD (a1, a2, g), ArV.dp ⟨pb, rfl, s8 _ _ hvb⟩, ArV.dp ⟨T, rfl, s8 _ _ hTT⟩, shaped_ar b, shaped_ar _, _, rfl, ?_⟩
            rw [eqv_ar]
            have stp : (ts.take (m + 1)).filter (fun b => !decide (b = (a1, a2, g))) = (ts.take m).filter (fun b => !decide (b = (a1, a2, g))) ++ if (!decide (b = (a1, a2, g))) = true then [b] else [] := by
              rw [List.take_succ, hb, List.filter_append]
              congr 1
              simp [List.filter_cons]
            refine ite2 (fun hc => ?_) (fun hc => ?_)
            · rw [if_pos hc] at stp
              refine ⟨_, rfl, zs, hzl, small1000 (by have h9 : zs.length ≤ (ts.take m).length := Nat.le_trans (Nat.le_of_eq hzA.length) (List.length_filter_le _ _); rw [List.length_take] at h9; omega), s8.put hD2, zs ++ [.ref pb], upd_same, ?_⟩
              rw [stp]
              refine Paired.snoc (hzA.keep fun b xs e => ?_) ⟨pb, rfl, ?_⟩
              · rw [upd_ne (ne_of e hzl (by intro q; cases q))]; exact e
              · have e := s8 _ _ hvb
                rw [upd_ne (ne_of e hzl (by intro q; cases q))]; exact e
            · rw [if_neg hc, List.append_nil] at stp
              exact ⟨s8, zs, hzl, by rw [stp]; exact hzA⟩
          · rintro G8 ⟨s8, zs, hzl, hzA⟩
            rw [hts7.length, List.take_of_length_le (Nat.le_refl _)] at hzA
            have lz0 : zs.length ≤ ts.length := Nat.le_trans (Nat.le_of_eq hzA.length) (List.length_filter_le _ _)
            have lz : zs.length ≤ 98 := by omega
            refine ⟨_, rfl, W, _, (0 : Int), .str w0, rfl, rfl, SqL.of (s8 _ _ hW7), atI_int (by decide) rfl, rfl, _, rfl, ?_⟩
            cases mm
            · rw [show decide (V.str w0 = V.str (Str.ofString "may")) = false from decide_eq_false fun e => n_mn (by rw [hmm] at e; exact (V.str.inj e).symm)]
              refine iteF ⟨by decide, fun E2 hE2 => ?_⟩
              have s9 : Same G8 (upd G8 E2 (.lst [])) := Same.upd hE2
              refine ⟨D2, E2, zs, [], rfl, rfl, s9 _ _ hzl, upd_same, line1000 (by rw [List.length_nil]; omega), fun r hr2 => ?_⟩
              have s10 := s9.trans (Same.upd (o := .lst (zs ++ [])) hr2)
              refine ⟨⟨r, _, _, _, _, _, _, _, _, rfl, zs ++ [], ts.filter (fun b => !decide (b = (a1, a2, g))) ++ [], upd_same, Paired.app (hzA.keep s10.tups) .nil, by rw [List.append_nil]; exact Nat.le_trans (List.length_filter_le _ _) (by omega), _, _, erun, fun a => ?_⟩, s8b.trans (s7.trans (s8.trans s10))⟩
              show a ∈ ts.filter (fun b => !decide (b = (a1, a2, g))) ++ [] ↔ a ∈ (as.filter fun b => !decide (b = (a1, a2, g))).mergeSort le3
              rw [List.append_nil, List.mem_mergeSort, List.mem_filter, List.mem_filter, hmem]
            · rw [show decide (V.str w0 = V.str (Str.ofString "may")) = true from decide_eq_true (by rw [hmm]; rfl)]
              refine iteT ⟨_, rfl, (by show 1 ≤ sizeLine; decide), fun E2 hE2 => ?_⟩
              have s9 : Same G8 (upd G8 E2 (.lst [.ref T])) := Same.upd hE2
              refine ⟨D2, E2, zs, [.ref T], rfl, rfl, s9 _ _ hzl, upd_same, line1000 (by rw [List.length_singleton]; omega), fun r hr2 => ?_⟩
              have s10 := s9.trans (Same.upd (o := .lst (zs ++ [.ref T])) hr2)
              refine ⟨⟨r, _, _, _, _, _, _, _, _, rfl, zs ++ [.ref T], ts.filter (fun b => !decide (b = (a1, a2, g))) ++ [(a1, a2, g)], upd_same, Paired.snoc (hzA.keep s10.tups) ⟨T, rfl, s10 _ _ (s8 _ _ hTT)⟩, by rw [List.length_append, List.length_singleton]; exact Nat.succ_le_succ (Nat.le_trans (List.length_filter_le _ _) (by omega)), _, _, erun, fun a => ?_⟩, s8b.trans (s7.trans (s8.trans s10))⟩
              show a ∈ ts.filter (fun b => !decide (b = (a1, a2, g))) ++ [(a1, a2, g)] ↔ a ∈ (as ++ [(a1, a2, g)]).mergeSort le3
              rw [List.mem_mergeSort, List.mem_append, List.mem_append, List.mem_filter, hmem, List.mem_singleton]
              by_cases ea : a = (a1, a2, g) <;> simp [ea]
    · rintro σ G ⟨⟨th, u5, u6, u7, u8, u9, u10, u11, u12, rfl, xs, ts, hxs, hts, ltl, ds, as, hrun, hmem⟩, s8⟩
      rw [List.length_map, List.take_of_length_le (Nat.le_refl _)] at hrun
      exact k (-1) G (sH8.trans s8) (atl (-1) (.inr ⟨ds, as, hrun, rfl⟩))
end
end K24
set_option maxHeartbeats 4000000
namespace K24
open PySem L2 PySem.EX PyProof.Rows
open LamX (Tabs ExtN TabB LamS lamEnv lamCx lamS_by)
/-- a lambda's qualified name -/
abbrev lamQ (x : Str) : Str := x ++ Str.ofString ".<locals>." ++ Str.ofString "<lambda>"
abbrev sAtLine : Stmt := top 76
abbrev cT (K : PySem.W.Frag) : Addr := He.ga K "BadText"
abbrev cU (K : PySem.W.Frag) : Addr := He.ga K "NothingUndone"
abbrev cN (K : PySem.W.Frag) : Addr := He.ga K "NoPlanbook"
structure TxW (K : PySem.W.Frag) (mg : Str → Option Value) (c1 : Addr) : Prop where
  caught : Def K mg "_law_caught" sCaught
  atLine : DefT K mg "_law_at_line" sAtLine c1
  net : mg "NetError" = some (.ref (He.ga K "NetError"))
  exT : PySem.W.exmOne K (.ref (He.ga K "BadText")) (.ref (He.ga K "NetError")) = some true
  exU : PySem.W.exmOne K (.ref (He.ga K "NothingUndone")) (.ref (He.ga K "NetError")) = some true
  exN : PySem.W.exmOne K (.ref (He.ga K "NoPlanbook")) (.ref (He.ga K "NetError")) = some true
  xcT : XC K (He.ga K "BadText")
  xcU : XC K (He.ga K "NothingUndone")
  xcN : XC K (He.ga K "NoPlanbook")
  noI : PySem.W.findIn K (.ref (He.ga K "BadText")) "index" = some none
section
variable {P : Program} {w : World} {K : PySem.W.Frag} {mg : Str → Option Value} {base : Heap} {c1 : Addr}
theorem scCaught : FnScope ["work", "found", "error"] ["work"] (defScope sCaught) := ⟨rfl, rfl, rfl, by decide +kernel, rfl, by decide +kernel, by decide +kernel⟩
theorem takes_caught (W : TxW K mg c1) (k : Nat) : Takes1 P w K mg base (He.ga K "_law_caught") 1 k (TCaught K (He.ga K "NetError")) := by
  obtain ⟨⟨fd, F⟩, g⟩ := W.caught
  obtain ⟨oc, od, dV, kV, doc, pm, an, cdv, ct, osl, rfl, lk, hcd, hD, _⟩ := F.ex
  rcases hD with ⟨_, rfl⟩ | ⟨e, _⟩
  · exact caught_takes lk hcd scCaught rfl (fun us hl => match us, hl with | [_], _ => rfl) rfl rfl rfl rfl W.net
  · exact absurd rfl e
theorem kp_caught (W : TxW K mg c1) : PySem.W.keepIn K (.ref (He.ga K "_law_caught")) = true := by
  obtain ⟨⟨fd, F⟩, g⟩ := W.caught
  exact F.kp
theorem read_any {t : Str} {l : Str} {ls : List Str} {H : Hp} {Q : VK} {E : XK} (hz : t.length + 2 ≤ sizeLine) (hsp : Txt.split t nl = l :: ls) (hlen : ls.length ≤ 800)
    (kx : ∀ j : Int, AtL (l :: ls) j → j ≠ -1 → XOut (He.ga K "BadText") .index (.int j) H E) (kq : AtL (l :: ls) (-1) → ∀ b H', Same H H' → Q (.ref b) H') : spRd K [.str t] H Q E := by
  refine ⟨_, rfl, .inr ⟨t, l, ls, rfl, hz, hsp, ?_⟩⟩
  by_cases h1 : ∃ m : Int, 1 ≤ m ∧ m ≤ 5 ∧ l = headS m
  case neg =>
    have hn : ∀ m : Int, 1 ≤ m → m ≤ 5 → l ≠ headS m := fun m m0 m1 e => h1 ⟨m, m0, m1, e⟩
    exact .inl ⟨hn, kx 0 ⟨l, ls, rfl, .inl ⟨rfl, hn⟩⟩ (by decide)⟩
  obtain ⟨n, n0, n1, rfl⟩ := h1
  refine .inr ⟨n, n0, n1, rfl, ?_⟩
  by_cases h2 : ∃ rest, ls = ("book" : Str) :: rest
  case neg =>
    have hn : ls.head? ≠ some "book" := fun e => h2 (by
      cases ls with
      | nil => cases e
      | cons a r => exact ⟨r, by rw [Option.some.inj e]⟩)
    exact .inl ⟨hn, kx 1 ⟨_, ls, rfl, .inr ⟨n, n0, n1, rfl, .inl ⟨rfl, hn⟩⟩⟩ (by decide)⟩
  obtain ⟨rest, rfl⟩ := h2
  refine .inr ⟨rest, rfl, by rw [List.length_cons] at hlen; omega, fun i r ds as hr hrun hno => ?_, fun ds as b l1 l2 H' hrun s _ _ _ _ => ?_⟩
  · exact kx _ ⟨_, _, rfl, .inr ⟨n, n0, n1, rfl, .inr ⟨rest, rfl, .inl ⟨i, r, ds, as, hr, hrun, hno, rfl⟩⟩⟩⟩ (by omega)
  · exact kq ⟨_, _, rfl, .inr ⟨n, n0, n1, rfl, .inr ⟨rest, rfl, .inr ⟨ds, as, hrun, rfl⟩⟩⟩⟩ b H' s
def spAL (K : PySem.W.Frag) (T : List (Addr × Str)) : Sp := fun vs H Q _ => ∃ v, vs = [v] ∧ Tabs T H ∧ ((∃ ty, (∀ H1, ExtN H H1 → TyX K H1 v ty) ∧ PySem.W.kitOne K ty (.type "str") = some false ∧ ∀ H', ExtN H H' → Tabs T H' → Q .non H') ∨
  ∃ t l ls, v = .str t ∧ t.length + 2 ≤ sizeLine ∧ Txt.split t nl = l :: ls ∧ ls.length ≤ 800 ∧ ∀ (j : Int) H', AtL (l :: ls) j → ExtN H H' → Tabs T H' → Q (.int j) H')
theorem scAL : FnScope ["text", "caught"] ["text"] (defScope sAtLine) := ⟨rfl, rfl, rfl, by decide +kernel, rfl, by decide +kernel, by decide +kernel⟩
theorem ok_al {T : List (Addr × Str)} {P1 : Addr} (X : TxP P K mg) (C : TxC K mg) (D : TxD K mg) (B : TxB P K mg) (Y : TxT K mg) (F : TxF K mg) (W : TxW K mg c1) (TB : TabB base mg c1 P1) (hmT : (P1, lamQ "_law_at_line") ∈ T) (hu : ∀ p ∈ T, p.1 = P1 → p.2 = lamQ "_law_at_line") :
    Fnc P w K mg base CX0 12 "_law_at_line" ["text"] (spAL K T) := by
  have GR : Fnc P w K mg base (L2.CX P w) 9 "read_planbook" ["text"] (spRd K) := ok_rd X C D B Y F
  obtain ⟨gB, _⟩ := X.badText
  refine fncT' W.atLine scAL (fun vs H Q E h => ?_) (fun _ _ _ _ _ _ us hl => match us, hl with | [_], _ => rfl) (fun A outer s H vs Q E hr h => ?_)
  · obtain ⟨v, rfl, _⟩ := h
    rfl
  · obtain ⟨v, rfl, hT, h⟩ := h
    refine ⟨_, pss_cons (ps_set (i := 1) scAL.nd rfl (Or.inl rfl) (pe_lam1 (T := T) (Pt := P1) (j := 1) (k := 9) (t := fun E => tFn (spRd K) E (tCons (tVar 0) tNil)) (takes_caught W 10) W.caught.2 (kp_caught W) TB rfl hmT hu hr (lamS_by (sc := defScope sAtLine) (by decide +kernel))
        (fun A outer s H E f c' hr2 => pe_fn GR hr2 (passes_call (takes_of rfl rfl rfl rfl) (fun _ _ _ _ h => h)) (pa_cons (pv 0) pa_nil))))
      (pss_one (ps_ret (pe_ifExp (pt_cmpR op_isN (pv 1) pe_non (nomark _)) (pe_un un_neg pe_int) (pe_ifExp (pt_not (pt_val (pe_callB call_isA (by rfl) X.isinst (by decide +kernel) (pa_cons (pv 1) (pa_cons (pe_glob (v := .ref (cT K)) (by rfl) gB rfl) pa_nil))))) (pe_un un_neg pe_int) (pe_xfld (pv 1)))))), ?_⟩
    refine ⟨hT, fun H1 e1 T1 => ?_⟩
    rcases h with ⟨ty, h1, h2, k⟩ | ⟨t, l, ls, rfl, hz, hsp, hlen, k⟩
    · refine ⟨_, rfl, ?_⟩
      dsimp only [tNil]
      refine ⟨v, rfl, .inl ⟨ty, h1 H1 e1, h2, fun d H2 s2 hd => ?_⟩⟩
      refine ⟨true, W.exT, fun _ a ha => ?_, fun z => nomatch z⟩
      have da : d ≠ a := ne_of_none hd ha
      have hd' : (upd H2 a (ExV (.ref (cT K)) (some d) a)) d = some (.xd [(Fk.index.name, .non)]) := by rw [upd_ne da]; exact hd
      have e2 : Same H1 (upd H2 a (ExV (.ref (cT K)) (some d) a)) := s2.trans (Same.upd ha)
      refine ⟨_, rfl, rfl, _, rfl, ?_⟩
      rw [show decide (V.ref a = V.non) = false from decide_eq_false fun z => by cases z]
      refine iteF ⟨_, rfl, .inl ⟨a, cT K, some d, _, .ref (cT K), _, true, rfl, .own _, upd_same, .inr ⟨d, rfl, hd'⟩, W.xcT, kit_same, _, rfl, iteF ?_⟩⟩
      exact ⟨_, rfl, a, cT K, d, _, .non, rfl, upd_same, hd', W.xcT, W.noI, rfl, k _ (e1.trans (ExtN.of e2)) (T1.ext e2)⟩
    · refine ⟨_, rfl, ?_⟩
      dsimp only [tNil]
      refine read_any hz hsp hlen (fun j hj _ => fun d H2 s2 hd => ?_) (fun hj b H2 s2 => ?_)
      · refine ⟨true, W.exT, fun _ a ha => ?_, fun z => nomatch z⟩
        have da : d ≠ a := ne_of_none hd ha
        have hd' : (upd H2 a (ExV (.ref (cT K)) (some d) a)) d = some (.xd [(Fk.index.name, .int j)]) := by rw [upd_ne da]; exact hd
        have e2 : Same H1 (upd H2 a (ExV (.ref (cT K)) (some d) a)) := s2.trans (Same.upd ha)
        refine ⟨_, rfl, rfl, _, rfl, ?_⟩
        rw [show decide (V.ref a = V.non) = false from decide_eq_false fun z => by cases z]
        refine iteF ⟨_, rfl, .inl ⟨a, cT K, some d, _, .ref (cT K), _, true, rfl, .own _, upd_same, .inr ⟨d, rfl, hd'⟩, W.xcT, kit_same, _, rfl, iteF ?_⟩⟩
        exact ⟨_, rfl, a, cT K, d, _, .int j, rfl, upd_same, hd', W.xcT, W.noI, rfl, k j _ hj (e1.trans (ExtN.of e2)) (T1.ext e2)⟩
      · refine ⟨_, rfl, rfl, _, rfl, ?_⟩
        rw [show decide (V.non = V.non) = true from decide_eq_true rfl]
        exact iteT ⟨_, rfl, k (-1) H2 hj (e1.trans (ExtN.of s2)) (T1.ext s2)⟩
end
end K24
set_option maxHeartbeats 4000000
namespace K24
open PySem L2 PySem.EX PyProof.Rows TL
open LamX (Tabs ExtN)
/-! ### plain: lines that may be laid, joined, split -/
theorem ok_tl (x : Str) : (PyData.str x).canLay0 = (TL.tl x).all (· < 0x110000) := by
  rw [PyData.canLay0]
  unfold PyData.strOk TL.tl
  simp
theorem nS_ok {i : Int} (h0 : 0 ≤ i) (h1 : i < 10) : (PyData.str (nS i)).canLay0 = true := by
  rw [ok_tl, nS_tl h0 h1]
  simp
  omega
theorem mem_joinL {S : List Nat} {x : Nat} : ∀ {l : List (List Nat)}, x ∈ joinL S l → x ∈ S ∨ ∃ p ∈ l, x ∈ p
  | [], h => by cases h
  | [a], h => .inr ⟨a, List.mem_cons_self, h⟩
  | a :: b :: l, h => by
    have h : x ∈ a ++ (S ++ joinL S (b :: l)) ∨ x ∈ (a ++ S) ++ joinL S (b :: l) := by first | exact .inl h | exact .inr h
    have h : x ∈ a ∨ x ∈ S ∨ x ∈ joinL S (b :: l) := by
      rcases h with h | h
      · rcases List.mem_append.mp h with h | h
        · exact .inl h
        · rcases List.mem_append.mp h with h | h
          · exact .inr (.inl h)
          · exact .inr (.inr h)
      · rcases List.mem_append.mp h with h | h
        · rcases List.mem_append.mp h with h | h
          · exact .inl h
          · exact .inr (.inl h)
        · exact .inr (.inr h)
    rcases h with h | h | h
    · exact .inr ⟨a, List.mem_cons_self, h⟩
    · exact .inl h
    · rcases mem_joinL h with h | ⟨p, hp, h⟩
      · exact .inl h
      · exact .inr ⟨p, List.mem_cons_of_mem _ hp, h⟩
theorem joinL_snoc {S : List Nat} : ∀ {l : List (List Nat)}, l ≠ [] → joinL S (l ++ [[]]) = joinL S l ++ S
  | [], h => absurd rfl h
  | [a], _ => by simp [joinL]
  | a :: b :: l, _ => by
    have h := joinL_snoc (S := S) (l := b :: l) (by simp)
    have e : joinL S (a :: (b :: l ++ [[]])) = a ++ S ++ joinL S (b :: l ++ [[]]) := by simp [joinL]
    rw [List.cons_append, e, h]
    simp [joinL]
theorem joinL_front {S : List Nat} : ∀ {l : List (List Nat)}, l ≠ [] → joinL S ([] :: l) = S ++ joinL S l
  | [], h => absurd rfl h
  | a :: l, _ => by simp [joinL]
structure Prt (l : Str) (ps : List Str) : Prop where
  e : l = Txt.join sp ps
  ne : ps ≠ []
  p : ∀ p ∈ ps, 32 ∉ tl p ∧ 10 ∉ tl p ∧ (PyData.str p).canLay0 = true ∧ p.length ≤ 9
  n : ps.length ≤ 103
structure LOk (l : Str) : Prop where
  len : l.length ≤ 2000
  free : 10 ∉ tl l
  sp : (Txt.split l sp).length ≤ 103
  lay : ∀ u ∈ Txt.split l K24.sp, (PyData.str u).canLay0 = true
  lay0 : (PyData.str l).canLay0 = true
theorem Prt.split {l : Str} {ps : List Str} (h : Prt l ps) : Txt.split l sp = ps := by
  rw [h.e, TL.join_eq]
  exact split_sp h.ne fun p hp => (h.p p hp).1
theorem Prt.ok {l : Str} {ps : List Str} (h : Prt l ps) : LOk l := by
  refine ⟨?_, ?_, by rw [h.split]; exact h.n, by rw [h.split]; exact fun u hu => (h.p u hu).2.2.1, ?_⟩
  · rw [h.e, TL.join_eq]
    have h1 := join_len sp ps
    have h2 := sum_le (f := fun x : Str => x.length) (m := 9) (l := ps) fun p hp => (h.p p hp).2.2.2
    have e : sp.length = 1 := by decide +kernel
    have h3 := h.n
    rw [e] at h1
    omega
  · rw [h.e, TL.join_eq, TL.tl_join]
    intro hm
    rcases mem_joinL hm with hm | ⟨p, hp, hm⟩
    · rw [tl_sp] at hm
      simp at hm
    · obtain ⟨q, hq, rfl⟩ := List.mem_map.mp hp
      exact (h.p q hq).2.1 hm
  · rw [h.e, TL.join_eq, ok_tl, TL.tl_join, List.all_eq_true]
    intro x hx
    rcases mem_joinL hx with hm | ⟨p, hp, hm⟩
    · rw [tl_sp] at hm
      rw [List.mem_singleton.mp hm]
      decide
    · obtain ⟨q, hq, rfl⟩ := List.mem_map.mp hp
      have h2 := (h.p q hq).2.2.1
      rw [ok_tl, List.all_eq_true] at h2
      exact h2 x hm
theorem Prt.snoc {l : Str} {ps : List Str} (h : Prt l ps) (hn : ps.length ≤ 102) : Prt (l ++ sp) (ps ++ [("" : Str)]) := by
  refine ⟨?_, by simp, fun p hp => ?_, by rw [List.length_append]; exact Nat.succ_le_succ hn⟩
  · refine TL.ext_tl ?_
    rw [TL.join_eq, TL.tl_join, TL.tl_append, h.e, TL.join_eq, TL.tl_join, List.map_append]
    exact (joinL_snoc (l := ps.map tl) (by simpa using h.ne)).symm
  · rcases List.mem_append.mp hp with hp | hp
    · exact h.p p hp
    · rw [List.mem_singleton.mp hp]
      decide +kernel
theorem Prt.front {l : Str} {ps : List Str} (h : Prt l ps) (hn : ps.length ≤ 102) : Prt (sp ++ l) ("" :: ps) := by
  refine ⟨?_, by simp, fun p hp => ?_, Nat.succ_le_succ hn⟩
  · refine TL.ext_tl ?_
    rw [TL.join_eq, TL.tl_join, TL.tl_append, h.e, TL.join_eq, TL.tl_join, List.map_cons]
    exact (joinL_front (l := ps.map tl) (by simpa using h.ne)).symm
  · rcases List.mem_cons.mp hp with rfl | hp
    · decide +kernel
    · exact h.p p hp
theorem prt_head {n : Int} (n0 : 1 ≤ n) (n1 : n ≤ 5) : Prt (headS n) ["switches", nS n] := by
  refine ⟨?_, by simp, fun p hp => ?_, (by show 2 ≤ 103; decide)⟩
  · refine TL.ext_tl ?_
    unfold headS
    rw [TL.join_eq, TL.tl_join, TL.tl_append]
    have e : tl (Str.ofString "switches ") = tl "switches" ++ tl sp := by decide +kernel
    rw [e]
    simp [joinL]
  · simp only [List.mem_cons, List.not_mem_nil, or_false] at hp
    rcases hp with rfl | rfl
    · decide +kernel
    · exact ⟨nS_free (by omega) (by omega) (by decide), nS_free (by omega) (by omega) (by decide), nS_ok (by omega) (by omega), by rw [nS_len (by omega) (by omega)]; decide⟩
theorem prt_book : Prt "book" ["book"] := ⟨by decide +kernel, by simp, by decide +kernel, by decide⟩
theorem words_lay {n : Int} {d : De} (h : okD n d) (hn : n ≤ 5) : ∀ x ∈ d.words, (PyData.str x).canLay0 = true := by
  cases d with
  | flip ns =>
    intro x hx
    obtain ⟨z, hz, rfl⟩ := List.mem_map.mp hx
    obtain ⟨z0, z1⟩ := h.1 z hz
    exact nS_ok z0 (by omega)
  | arr m a =>
    intro x hx
    obtain ⟨h1, h2, h3, h4, h5⟩ := h
    have hx' : x ∈ [nS a.1, wordS a.2.2, nS a.2.1] := hx
    simp only [List.mem_cons, List.not_mem_nil, or_false] at hx'
    rcases hx' with rfl | rfl | rfl
    · exact nS_ok h1 (by omega)
    · unfold wordS
      split <;> decide +kernel
    · exact nS_ok h3 (by omega)
theorem prt_line {n : Int} {d : De} (h : okD n d) (hn : n ≤ 5) : Prt (lineD d) (d.kind :: d.words) := by
  obtain ⟨w1, w2⟩ := words_sm h hn
  refine ⟨rfl, by simp, fun p hp => ?_, by rw [List.length_cons]; omega⟩
  rcases List.mem_cons.mp hp with rfl | hp
  · exact ⟨(kind_free d).1, (kind_free d).2, lay_kind d, Nat.le_trans (kind_len d) (by decide)⟩
  · exact ⟨(dwords_free h hn p hp).1, (dwords_free h hn p hp).2, words_lay h hn p hp, w1 p hp⟩
/-- a line of a book -/
theorem prt_lines {n : Int} {ds : List De} (n0 : 1 ≤ n) (n1 : n ≤ 5) (ok : ∀ d ∈ ds, okD n d) : ∀ l ∈ linesB n ds, ∃ ps, Prt l ps ∧ ps.length ≤ 102 := by
  intro l hl
  unfold linesB at hl
  rcases List.mem_cons.mp hl with rfl | hl
  · exact ⟨_, prt_head n0 n1, (by show 2 ≤ 102; decide)⟩
  rcases List.mem_cons.mp hl with rfl | hl
  · exact ⟨_, prt_book, by decide⟩
  · obtain ⟨d, hd, rfl⟩ := List.mem_map.mp hl
    exact ⟨_, prt_line (ok d hd) n1, by have := (words_sm (ok d hd) n1).2; rw [List.length_cons]; omega⟩
def oddB (l : Str) : List Str := ["", "may", "may 0 helps 0", "not 0 helps 0", "flip 0 0", "flip 9", "flip ", "may 0 aids 0", "book", l ++ Str.ofString " ", Str.ofString " " ++ l, "may 0  helps 0"]
theorem lok_by {l : Str} (h : (decide (l.length ≤ 2000) && decide (10 ∉ tl l) && decide ((Txt.split l sp).length ≤ 103) && (tl l).all (· < 0x110000) && (Txt.split l sp).all fun u => (tl u).all (· < 0x110000)) = true) : LOk l := by
  rw [Bool.and_eq_true, Bool.and_eq_true, Bool.and_eq_true, Bool.and_eq_true] at h
  obtain ⟨⟨⟨⟨h1, h2⟩, h3⟩, h5⟩, h4⟩ := h
  refine ⟨of_decide_eq_true h1, of_decide_eq_true h2, of_decide_eq_true h3, fun u hu => ?_, by rw [ok_tl]; exact h5⟩
  rw [ok_tl]
  exact List.all_eq_true.mp h4 u hu
theorem oddB_ok {n : Int} {ds : List De} (n0 : 1 ≤ n) (n1 : n ≤ 5) (ok : ∀ d ∈ ds, okD n d) {l o : Str} (hl : l ∈ linesB n ds) (ho : o ∈ oddB l) : LOk o := by
  obtain ⟨ps, hp, hn⟩ := prt_lines n0 n1 ok l hl
  unfold oddB at ho
  simp only [List.mem_cons, List.not_mem_nil, or_false] at ho
  rcases ho with rfl | rfl | rfl | rfl | rfl | rfl | rfl | rfl | rfl | rfl | rfl | rfl
  case inr.inr.inr.inr.inr.inr.inr.inr.inr.inl => exact (hp.snoc hn).ok
  case inr.inr.inr.inr.inr.inr.inr.inr.inr.inr.inl => exact (hp.front hn).ok
  all_goals exact lok_by (by decide +kernel)
theorem loks_split {ls : List Str} (ne : ls ≠ []) (h : ∀ l ∈ ls, LOk l) : Txt.split (Txt.join nl ls) nl = ls := split_nl ne fun l hl => (h l hl).free
theorem loks_small {ls : List Str} (h : ∀ l ∈ ls, LOk l) (hl : ls.length ≤ 1000) : (ls.map (·.length)).sum + ls.length * nl.length ≤ 16777216 ∧ (Txt.join nl ls).length + 2 ≤ sizeLine := by
  have h1 := sum_le (f := fun x : Str => x.length) (m := 2000) fun l hl => (h l hl).len
  have e : nl.length = 1 := by decide +kernel
  have h2 := join_len nl ls
  rw [TL.join_eq]
  rw [sizeLine_eq]
  rw [e] at h2 ⊢
  omega
/-! ### the arrows of a book ascend -/
theorem next_asc {n : Int} {as : List Ar} {d : De} (P : PlOk n as) (R : Right n as d) : Asc (nextA as d) := by
  have h := (next_ok P R).1.nd
  cases d with
  | flip ns => exact sort_asc ((List.mergeSort_perm _ le3).nodup_iff.mp h)
  | arr m a => cases m <;> exact sort_asc ((List.mergeSort_perm _ le3).nodup_iff.mp h)
theorem run_asc {n : Int} : ∀ {as bs : List Ar} {ls : List Str} {ds : List De}, PlOk n as → Asc as → Run n as ls ds bs → Asc bs
  | _, _, _, _, _, h, .nil => h
  | _, _, _, _, p, h, .cons r t => run_asc (next_ok p r).1 (next_asc p r) t
/-! ### a plan's own text -/
structure Pl (n : Int) (as : List Ar) : Prop where
  n0 : 1 ≤ n
  n1 : n ≤ 5
  ok : ∀ a ∈ as, okA n a
  asc : Asc as
  len : as.length ≤ 60
theorem linesS_len (n : Int) (as : List Ar) : (linesS n as).length = as.length + 1 := by unfold linesS; rw [List.length_cons, List.length_map]
theorem linesS_mem {n : Int} {as : List Ar} (h : Pl n as) : ∀ l ∈ linesS n as, 10 ∉ tl l ∧ l.length ≤ 20 := by
  intro l hl
  refine ⟨lines_free h.n0 h.n1 h.ok l hl, ?_⟩
  unfold linesS at hl
  rcases List.mem_cons.mp hl with rfl | hl
  · rw [headS_len h.n0 h.n1]; decide
  · obtain ⟨a, ha, rfl⟩ := List.mem_map.mp hl
    exact Nat.le_trans (lineS_len (h.ok a ha) h.n1) (by decide)
theorem read_good {K : PySem.W.Frag} {n : Int} {as : List Ar} (h : Pl n as) {H : Hp} {Q : VK} {E : XK} (q : ∀ x H', Same H H' → PlanAt K H' x n as → Q (.ref x) H') : spRead K [.str (textS n as)] H Q E := by
  have ne : linesS n as ≠ [] := by unfold linesS; simp
  have sm := lines_small (ls := linesS n as) (fun l hl => (linesS_mem h l hl).2) (by rw [linesS_len]; have := h.len; omega)
  refine ⟨_, rfl, .inr ⟨textS n as, rfl, sm.2, .inr ⟨n, as, [], h.n0, h.n1, ?_, by have := h.len; rw [List.length_nil]; omega, h.ok, h.asc, (fun l hl => nomatch hl), .inl ⟨rfl, q⟩⟩⟩⟩
  unfold textS
  rw [split_nl ne fun l hl => (linesS_mem h l hl).1, List.append_nil]
  rfl
end K24
set_option maxHeartbeats 4000000
namespace K24
open PySem L2 PySem.EX PyProof.Rows
open LamX (Tabs ExtN)
/-! ### what stands through a lap of the law -/
theorem seq_alt {t u : TS} {D : Ends} {σ : L2.St} {H : Hp} (Sh : L2.St → Hp → Prop) (h : ∀ G : L2.St → Hp → Prop, (∀ σ' H', Sh σ' H' → G σ' H') → t { D with nx := G } σ H) (hu : ∀ σ' H', Sh σ' H' → u D σ' H') : tSeq t u D σ H := h (u D) hu
def Chg (X : Addr → Prop) (H H' : Hp) : Prop := ∀ a o, ¬ X a → H a = some o → H' a = some o
def NoIT (o : HO) : Prop := (∃ q, o = .lst q) ∨ (∃ q, o = .dK q) ∨ ∃ q, o = .tbl q
section
variable {K : PySem.W.Frag}
theorem PlanAt.keepX {X : Addr → Prop} {H H' : Hp} (k : Chg X H H') (xt : ∀ a, X a → ∀ o, H a = some o → NoIT o) {x : Addr} {n : Int} {as : List Ar} (h : PlanAt K H x n as) : PlanAt K H' x n as := by
  obtain ⟨d, t, ys, q1, q2, q3⟩ := h
  refine ⟨d, t, ys, k _ _ (fun z => ?_) q1, k _ _ (fun z => ?_) q2, q3.keep fun b xs e => k _ _ (fun z => ?_) e⟩
  · rcases xt _ z _ q1 with ⟨q, e⟩ | ⟨q, e⟩ | ⟨q, e⟩ <;> cases e
  · rcases xt _ z _ q2 with ⟨q, e⟩ | ⟨q, e⟩ | ⟨q, e⟩ <;> cases e
  · rcases xt _ z _ e with ⟨q, e⟩ | ⟨q, e⟩ | ⟨q, e⟩ <;> cases e
theorem BookAt.keepX {X : Addr → Prop} {H H' : Hp} (k : Chg X H H') (xt : ∀ a, X a → ∀ o, H a = some o → NoIT o) {b l1 l2 : Addr} {n : Int} {ds : List De} {as : List Ar} (h : BookAt K H b l1 l2 n ds as) (n1 : ¬ X l1) (n2 : ¬ X l2)
    (n3 : ∀ dx a1 a2 a3, H b = some (.ins (cB K) dx (bF a1 a2 a3)) → ¬ X a3) : BookAt K H' b l1 l2 n ds as := by
  obtain ⟨dx, l3, ps, dv, x0, as0, x, h1, h2, h3, h4, h5, h6, h7, h8, h9, h10⟩ := h
  refine ⟨dx, l3, ps, dv, x0, as0, x, k _ _ (fun z => ?_) h1, k _ _ n1 h2, k _ _ n2 h3, k _ _ (n3 _ _ _ _ h1) h4, h5, h6.keepX k xt, h7, h8.keepX k xt, Paired.imp (fun _ _ h => h.keep fun b xs e => k _ _ (fun z => ?_) e) h9, h10⟩
  · rcases xt _ z _ h1 with ⟨q, e⟩ | ⟨q, e⟩ | ⟨q, e⟩ <;> cases e
  · rcases xt _ z _ e with ⟨q, e⟩ | ⟨q, e⟩ | ⟨q, e⟩ <;> cases e
theorem BookAt.at_ {H : Hp} {b l1 l2 : Addr} {n : Int} {ds : List De} {as : List Ar} (h : BookAt K H b l1 l2 n ds as) : ∃ dx l3 ps dv, H b = some (.ins (cB K) dx (bF l1 l2 l3)) ∧ H l1 = some (.lst ps) ∧ H l2 = some (.lst dv) ∧ H l3 = some (.lst []) := by
  obtain ⟨dx, l3, ps, dv, x0, as0, x, h1, h2, h3, h4, _⟩ := h
  exact ⟨dx, l3, ps, dv, h1, h2, h3, h4⟩
theorem BookAt.ext {H H' : Hp} (e : ExtN H H') {b l1 l2 : Addr} {n : Int} {ds : List De} {as : List Ar} (h : BookAt K H b l1 l2 n ds as) : BookAt K H' b l1 l2 n ds as := by
  obtain ⟨dx, l3, ps, dv, x0, as0, x, h1, h2, h3, h4, h5, h6, h7, h8, h9, h10⟩ := h
  have pl : ∀ {x as}, PlanAt K H x n as → PlanAt K H' x n as := fun ⟨d, t, ys, q1, q2, q3⟩ => ⟨d, t, ys, e _ _ q1 (by intro ps z; cases z), e _ _ q2 (by intro ps z; cases z), q3.keep (L2.ExtN.tups e)⟩
  exact ⟨dx, l3, ps, dv, x0, as0, x, e _ _ h1 (by intro ps z; cases z), e _ _ h2 (by intro ps z; cases z), e _ _ h3 (by intro ps z; cases z), e _ _ h4 (by intro ps z; cases z), h5, pl h6, h7, pl h8, Paired.imp (fun _ _ h => h.keep (L2.ExtN.tups e)) h9, h10⟩
theorem tape_keepX {X : Addr → Prop} {H H' : Hp} (k : Chg X H H') {t l c : Addr} (h : Tape H t l c) (nt : ¬ X t) (nl : ¬ X l) (nc : ¬ X c) : Tape H' t l c := by
  obtain ⟨r, n, lg, cs, h1, h2, h3⟩ := h.ex
  exact ⟨⟨r, n, lg, cs, k _ _ nt h1, k _ _ nl h2, k _ _ nc h3⟩, h.lc⟩
theorem tabs_keepX {T : List (Addr × Str)} {X : Addr → Prop} {H H' : Hp} (k : Chg X H H') (xt : ∀ a, X a → ∀ o, H a = some o → (∃ q, o = .lst q) ∨ ∃ c d f, o = .ins c d f) (h : Tabs T H) : Tabs T H' := by
  intro p hp
  obtain ⟨ps, e, ok, g⟩ := h p hp
  refine ⟨ps, k _ _ (fun z => ?_) e, ok, fun pos cv hc => ?_⟩
  · rcases xt _ z _ e with ⟨q, e⟩ | ⟨_, _, _, e⟩ <;> cases e
  · obtain ⟨c', e1, e2⟩ := g pos cv hc
    refine ⟨c', e1, k _ _ (fun z => ?_) e2⟩
    rcases xt _ z _ e2 with ⟨q, e⟩ | ⟨_, _, _, e⟩ <;> cases e
structure BJ (K : PySem.W.Frag) (T : List (Addr × Str)) (t l c b l1 l2 M : Addr) (n : Int) (ds : List De) (as : List Ar) (ls : List Str) (H : Hp) : Prop where
  tp : Tape H t l c
  tb : Tabs T H
  bk : BookAt K H b l1 l2 n ds as
  ln : H M = some (.lst (ls.map V.str))
  ne : M ≠ l ∧ M ≠ c ∧ M ≠ l1 ∧ M ≠ l2 ∧ l1 ≠ l ∧ l1 ≠ c ∧ l2 ≠ l ∧ l2 ≠ c
  l3 : ∀ dx a1 a2 a3, H b = some (.ins (cB K) dx (bF a1 a2 a3)) → a3 ≠ l ∧ a3 ≠ M
variable {T : List (Addr × Str)} {t l c b l1 l2 M : Addr} {n : Int} {ds ds' : List De} {as as' : List Ar} {ls ls' : List Str} {H H' : Hp}
theorem BJ.same (J : BJ K T t l c b l1 l2 M n ds as ls H) (s : Same H H') : BJ K T t l c b l1 l2 M n ds as ls H' := by
  refine ⟨s.tape J.tp, J.tb.ext s, J.bk.same s, s _ _ J.ln, J.ne, fun dx a1 a2 a3 e => ?_⟩
  obtain ⟨dx', l3, ps, dv, e1, _⟩ := J.bk.at_
  have e2 := s _ _ e1
  rw [e] at e2
  exact J.l3 dx _ _ _ (e1.trans e2.symm)
theorem BJ.ext (J : BJ K T t l c b l1 l2 M n ds as ls H) (s : ExtN H H') (T' : Tabs T H') : BJ K T t l c b l1 l2 M n ds as ls H' := by
  refine ⟨L2.ExtN.tape s J.tp, T', J.bk.ext s, s _ _ J.ln (by intro ps z; cases z), J.ne, fun dx a1 a2 a3 e => ?_⟩
  obtain ⟨dx', l3, ps, dv, e1, _⟩ := J.bk.at_
  have e2 := s _ _ e1 (by intro ps z; cases z)
  rw [e] at e2
  exact J.l3 dx _ _ _ (e1.trans e2.symm)
theorem BJ.but (J : BJ K T t l c b l1 l2 M n ds as ls H) (s : But t l H H') (T' : Tape H' t l c) : BJ K T t l c b l1 l2 M n ds as ls H' := by
  obtain ⟨r, m, lg, cs, t1, t2, t3⟩ := J.tp.ex
  obtain ⟨dx', l3, ps, dv, e1, e2, e3, e4⟩ := J.bk.at_
  obtain ⟨z1, z2, z3, z4, z5, z6, z7, z8⟩ := J.ne
  have k : Chg (fun a => a = t ∨ a = l) H H' := fun a o ha h => s a o h (fun z => ha (.inl z)) (fun z => ha (.inr z))
  have bt : b ≠ t := ne_of e1 t1 (by intro z; cases z)
  have bl : b ≠ l := ne_of e1 t2 (by intro z; cases z)
  refine ⟨T', Tabs.but J.tb s J.tp, J.bk.keepX k (fun a ha o ho => ?_) (fun z => ?_) (fun z => ?_) (fun dx a1 a2 a3 e z => ?_), s _ _ J.ln (ne_of J.ln t1 (by intro z; cases z)) z1, J.ne, fun dx a1 a2 a3 e => ?_⟩
  · rcases ha with rfl | rfl
    · rw [t1] at ho; exact .inr (.inl ⟨_, (Option.some.inj ho).symm⟩)
    · rw [t2] at ho; exact .inl ⟨_, (Option.some.inj ho).symm⟩
  · exact z.elim (ne_of e2 t1 (by intro z; cases z)) z5
  · exact z.elim (ne_of e3 t1 (by intro z; cases z)) z7
  · rw [e1] at e
    have ee := (HO.ins.inj (Option.some.inj e)).2.2
    have e5 : l3 = a3 := bF_3 ee
    subst e5
    exact z.elim (ne_of e4 t1 (by intro z; cases z)) (J.l3 _ _ _ _ e1).1
  · have e5 := s _ _ e1 bt bl
    rw [e] at e5
    exact J.l3 dx _ _ _ (e1.trans e5.symm)
theorem BJ.done (J : BJ K T t l c b l1 l2 M n ds as ls H) (s : But3 b l1 l2 H H') (B : BookAt K H' b l1 l2 n ds' as') (L : Later K H H' b) : BJ K T t l c b l1 l2 M n ds' as' ls H' := by
  obtain ⟨r, m, lg, cs, t1, t2, t3⟩ := J.tp.ex
  obtain ⟨dx', l3, ps, dv, e1, e2, e3, e4⟩ := J.bk.at_
  obtain ⟨z1, z2, z3, z4, z5, z6, z7, z8⟩ := J.ne
  have k : Chg (fun a => a = b ∨ a = l1 ∨ a = l2) H H' := fun a o ha h => s a o (fun z => ha (.inl z)) (fun z => ha (.inr (.inl z))) (fun z => ha (.inr (.inr z))) h
  have xt : ∀ a, (a = b ∨ a = l1 ∨ a = l2) → ∀ o, H a = some o → (∃ q, o = .lst q) ∨ ∃ c d f, o = .ins c d f := fun a ha o h => by
    rcases ha with rfl | rfl | rfl
    · rw [e1] at h; exact .inr ⟨_, _, _, (Option.some.inj h).symm⟩
    · rw [e2] at h; exact .inl ⟨_, (Option.some.inj h).symm⟩
    · rw [e3] at h; exact .inl ⟨_, (Option.some.inj h).symm⟩
  refine ⟨tape_keepX k J.tp (fun z => ?_) (fun z => ?_) (fun z => ?_), tabs_keepX k xt J.tb, B, s _ _ (ne_of J.ln e1 (by intro z; cases z)) z3 z4 J.ln, J.ne, fun dx a1 a2 a3 e => ⟨?_, ?_⟩⟩
  · rcases z with z | z | z
    · exact ne_of t1 e1 (by intro z; cases z) z
    · exact ne_of t1 e2 (by intro z; cases z) z
    · exact ne_of t1 e3 (by intro z; cases z) z
  · rcases z with z | z | z
    · exact ne_of t2 e1 (by intro z; cases z) z
    · exact z5 z.symm
    · exact z7 z.symm
  · rcases z with z | z | z
    · exact ne_of t3 e1 (by intro z; cases z) z
    · exact z6 z.symm
    · exact z8 z.symm
  · exact (ne_of_none t2 (L _ _ _ _ e)).symm
  · exact (ne_of_none J.ln (L _ _ _ _ e)).symm
theorem BJ.put (J : BJ K T t l c b l1 l2 M n ds as ls H) {zs : List V} (hz : zs = ls'.map V.str) : BJ K T t l c b l1 l2 M n ds as ls' (upd H M (.lst zs)) := by
  subst hz
  obtain ⟨r, m, lg, cs, t1, t2, t3⟩ := J.tp.ex
  obtain ⟨dx', l3, ps, dv, e1, e2, e3, e4⟩ := J.bk.at_
  obtain ⟨z1, z2, z3, z4, z5, z6, z7, z8⟩ := J.ne
  have k : Chg (fun a => a = M) H (upd H M (.lst (ls'.map V.str))) := fun a o ha h => by rw [upd_ne ha]; exact h
  refine ⟨tape_keepX k J.tp (fun z => ?_) z1.symm z2.symm, tabs_keepX k (fun a ha o h => ?_) J.tb, J.bk.keepX k (fun a ha o ho => ?_) z3.symm z4.symm (fun dx a1 a2 a3 e => (J.l3 _ _ _ _ e).2), upd_same, J.ne, fun dx a1 a2 a3 e => ?_⟩
  · exact ne_of t1 J.ln (by intro z; cases z) z
  · rw [show a = M from ha, J.ln] at h; exact .inl ⟨_, (Option.some.inj h).symm⟩
  · rw [show a = M from ha, J.ln] at ho; exact .inl ⟨_, (Option.some.inj ho).symm⟩
  · rw [upd_ne (ne_of e1 J.ln (by intro z; cases z))] at e
    exact J.l3 _ _ _ _ e
theorem BJ.mk0 {G H3 H4 : Hp} (T3 : Tape H3 t l c) (hT3 : Tabs T H3) (sG : Same H3 G) (hl1 : G l1 = none) (hl2 : G l2 = none) (s34 : Same H3 H4) (bk : BookAt K H4 b l1 l2 n ds as) (lat : Later K G H4 b) (hM : H4 M = none) {zs : List V} (hz : zs = ls.map V.str) : BJ K T t l c b l1 l2 M n ds as ls (upd H4 M (.lst zs)) := by
  subst hz
  obtain ⟨r, m, lg, cs, t1, t2, t3⟩ := T3.ex
  obtain ⟨dx', l3, ps, dv, e1, e2, e3, e4⟩ := bk.at_
  have sM : Same H4 (upd H4 M (.lst (ls.map V.str))) := Same.upd hM
  refine ⟨(s34.trans sM).tape T3, hT3.ext (s34.trans sM), bk.same sM, upd_same, ⟨(ne_of_none (s34 _ _ t2) hM).symm, (ne_of_none (s34 _ _ t3) hM).symm, (ne_of_none e2 hM).symm, (ne_of_none e3 hM).symm, (ne_of_none (sG _ _ t2) hl1).symm, (ne_of_none (sG _ _ t3) hl1).symm, (ne_of_none (sG _ _ t2) hl2).symm, (ne_of_none (sG _ _ t3) hl2).symm⟩, fun dx a1 a2 a3 e => ?_⟩
  rw [upd_ne (ne_of_none e1 hM)] at e
  refine ⟨(ne_of_none (sG _ _ t2) (lat _ _ _ _ e)).symm, ?_⟩
  rw [e1] at e
  have e5 : l3 = a3 := bF_3 (HO.ins.inj (Option.some.inj e)).2.2
  subst e5
  exact ne_of_none e4 hM
theorem line_arr {m : Bool} {a : Ar} : lineD (.arr m a) = (De.arr m a).kind ++ sp ++ lineS a := by
  refine TL.ext_tl ?_
  unfold lineD
  rw [line_join, TL.join_eq, TL.tl_join, TL.tl_append, TL.tl_append, TL.tl_join]
  show TL.joinL _ (TL.tl _ :: (wordsA a).map TL.tl) = _
  unfold wordsA
  simp [TL.joinL]
theorem ll_deed {E : XK} {Q : VK} {v : V} {d : De} (h : DeedAt H v d) (ok : okD n d) (hn : n ≤ 5) (q : ∀ H', Same H H' → Q (.str (lineD d)) H') : spLL [v] H Q E := by
  refine ⟨v, rfl, ?_⟩
  cases d with
  | flip ns => exact .inl ⟨n, ns, ok, hn, h, q⟩
  | arr m a =>
    obtain ⟨p, r, e, h1, h2⟩ := h
    refine .inr ⟨n, _, a, p, r, e, h1, h2, ok, hn, (by cases m <;> first | exact fun z => n_fn z.symm | exact fun z => n_fm z.symm), Nat.le_trans (kind_len _) (by decide), fun H' s => ?_⟩
    rw [← line_arr]
    exact q H' s
theorem but_tups (T : Tape H t l c) (k : But t l H H') : ∀ q xs, H q = some (.tup xs) → H' q = some (.tup xs) := fun q xs e => by
  obtain ⟨r, m, lg, cs, t1, t2, t3⟩ := T.ex
  exact k _ _ e (ne_of e t1 (by intro z; cases z)) (ne_of e t2 (by intro z; cases z))
theorem okF_toNat {ns : List Int} (n0 : 1 ≤ n) (h : okF (n.toNat : Int) ns) : okF n ns := by
  rw [Int.toNat_of_nonneg (by omega)] at h
  exact h
theorem read_book {E : XK} {Q : VK} {x : Str} (n0 : 1 ≤ n) (n1 : n ≤ 5) (hrun : Run n [] (ds.map lineD) ds as) (hz : x.length + 2 ≤ sizeLine) (spl : Txt.split x nl = linesB n ds) (hl : ds.length ≤ 800) (q : ∀ b l1 l2 H', Same H H' → H b = none → H l1 = none → H l2 = none → BookAt K H' b l1 l2 n ds as → Q (.ref b) H') : spRd K [.str x] H Q E := by
  refine ⟨_, rfl, .inr ⟨x, headS n, ("book" : Str) :: ds.map lineD, rfl, hz, spl, .inr ⟨n, n0, n1, rfl, .inr ⟨ds.map lineD, rfl, by rw [List.length_map]; exact hl, fun i r es bs hr h1 h2 => ?_, fun es bs b l1 l2 H' h1 s f1 f2 f3 bk => ?_⟩⟩⟩⟩
  · exfalso
    refine stuck_not n1 (j := (ds.map lineD).length) (List.getElem?_eq_some_iff.mp hr).1 hr h1 h2 (es := ds) (bs := as) ?_
    rw [List.take_of_length_le (Nat.le_refl _)]
    exact hrun
  · obtain ⟨e1, e2⟩ := Run.uniq n1 h1 hrun
    subst e1
    subst e2
    exact q b l1 l2 H' s f1 f2 f3 bk
def telD (x : Bool × Bool × Bool) : PyData := .tuple [.bool x.1, .bool x.2.1, .bool x.2.2]
theorem tel_dp {p : Addr} {x : Bool × Bool × Bool} (h : H p = some (.tup [.bl x.1, .bl x.2.1, .bl x.2.2])) : Dp K H (.ref p) (telD x) := .tup (SqT.of h) (.cons (.bl _) (.cons (.bl _) (.cons (.bl _) .nil)))
theorem tel_shaped : ∀ x, SeqAt.shaped (telD x) = true
  | (true, true, true) => by decide +kernel
  | (true, true, false) => by decide +kernel
  | (true, false, true) => by decide +kernel
  | (true, false, false) => by decide +kernel
  | (false, true, true) => by decide +kernel
  | (false, true, false) => by decide +kernel
  | (false, false, true) => by decide +kernel
  | (false, false, false) => by decide +kernel
theorem tel_eqv : ∀ x, (telD x).eqv (telD x) = true
  | (true, true, true) => by decide +kernel
  | (true, true, false) => by decide +kernel
  | (true, false, true) => by decide +kernel
  | (true, false, false) => by decide +kernel
  | (false, true, true) => by decide +kernel
  | (false, true, false) => by decide +kernel
  | (false, false, true) => by decide +kernel
  | (false, false, false) => by decide +kernel
theorem tabs_but3 (bk : BookAt K H b l1 l2 n ds as) (k3 : But3 b l1 l2 H H') (h : Tabs T H) : Tabs T H' := by
  obtain ⟨dx', l3, ps, dv, e1, e2, e3, e4⟩ := bk.at_
  refine tabs_keepX (X := fun a => a = b ∨ a = l1 ∨ a = l2) (fun a o ha h => k3 a o (fun z => ha (.inl z)) (fun z => ha (.inr (.inl z))) (fun z => ha (.inr (.inr z))) h) (fun a ha o h => ?_) h
  rcases ha with rfl | rfl | rfl
  · rw [e1] at h; exact .inr ⟨_, _, _, (Option.some.inj h).symm⟩
  · rw [e2] at h; exact .inl ⟨_, (Option.some.inj h).symm⟩
  · rw [e3] at h; exact .inl ⟨_, (Option.some.inj h).symm⟩
theorem line_flip0 : lineD (.flip []) = "flip" := by decide +kernel
theorem linesB_snoc (n : Int) (ds : List De) (d : De) : linesB n (ds ++ [d]) = linesB n ds ++ [lineD d] := by unfold linesB; simp
theorem ok_flip0 (n : Int) : okF n [] := ⟨fun x h => (by cases h), by unfold Rises; first | exact List.Pairwise.nil | trivial | simp, by decide⟩
theorem app_neD (ds : List De) (d : De) : ¬ ds ++ [d] = ds := fun h => by
  have := congrArg List.length h
  rw [List.length_append, List.length_singleton] at this
  omega
theorem cut_x (a : Str) : cutS (Str.ofString "x" ++ sp ++ a) (some 2) none = a := by
  refine TL.ext_tl ?_
  have e : (Str.ofString "x" ++ sp ++ a).cps.toList = 120 :: 32 :: a.cps.toList := by
    show TL.tl (Str.ofString "x" ++ sp ++ a) = 120 :: 32 :: TL.tl a
    rw [TL.tl_append, TL.tl_append, show TL.tl (Str.ofString "x") = [120] by decide +kernel, tl_sp]
    rfl
  have hl : (Str.ofString "x" ++ sp ++ a).length = a.cps.toList.length + 2 := by
    show (Str.ofString "x" ++ sp ++ a).cps.size = _
    rw [← Array.length_toList, e]
    rfl
  unfold cutS
  show (List.take _ (List.drop _ (Str.ofString "x" ++ sp ++ a).cps.toList)) = a.cps.toList
  have e2 : HT.sIx (Str.ofString "x" ++ sp ++ a).length 0 (some 2) = 2 := by
    show min (2 : Nat) _ = 2
    rw [hl]
    omega
  rw [e2, e, HT.sIx_none, hl]
  show List.take (a.cps.toList.length + 2 - 2) a.cps.toList = _
  rw [show a.cps.toList.length + 2 - 2 = a.cps.toList.length by omega, List.take_length]
theorem cut_to {xs : List V} {s : Nat} (h : s ≤ xs.length) : cutV xs none (some (s : Int)) = xs.take s := by
  unfold cutV
  rw [HT.sIx_none, HT.sIx_nat, Nat.min_eq_left h, Nat.sub_zero, List.drop_zero]
theorem cut_from {xs : List V} {s : Nat} (h : s ≤ xs.length) : cutV xs (some (s : Int)) none = xs.drop s := by
  unfold cutV
  rw [HT.sIx_none, HT.sIx_nat, Nat.min_eq_left h, List.take_of_length_le (by rw [List.length_drop]; exact Nat.le_refl _)]
/-- xs[:a] + mid + xs[b:] -/
theorem cut3 {xs : List Str} {a b : Nat} (ha : a ≤ xs.length) (hb : b ≤ xs.length) : cutV (xs.map V.str) none (some (a : Int)) = (xs.take a).map V.str ∧ cutV (xs.map V.str) (some (b : Int)) none = (xs.drop b).map V.str := by
  rw [cut_to (by rw [List.length_map]; exact ha), cut_from (by rw [List.length_map]; exact hb), List.map_take, List.map_drop]
  exact ⟨rfl, rfl⟩
/-- the lines that a bent text has -/
structure Bent (H : Hp) (B : Addr) (bs : List Str) : Prop where
  at_ : H B = some (.lst (bs.map V.str))
  ok : ∀ x ∈ bs, LOk x
  n : bs.length ≤ 20
theorem Bent.of {B : Addr} {ls mid : List Str} {a b : Nat} {zs : List V} (hB : H B = some (.lst zs)) (hz : zs = (ls.take a ++ mid ++ ls.drop b).map V.str) (hl : ∀ x ∈ ls, LOk x) (hm : ∀ x ∈ mid, LOk x) (h1 : ls.length ≤ 10) (h2 : mid.length ≤ 0 + 0 ∨ mid.length = 1) (h3 : a ≤ b + 1) : Bent H B (ls.take a ++ mid ++ ls.drop b) := by
  subst hz
  refine ⟨hB, fun x hx => ?_, ?_⟩
  · rcases List.mem_append.mp hx with hx | hx
    · rcases List.mem_append.mp hx with hx | hx
      · exact hl x (List.mem_of_mem_take hx)
      · exact hm x hx
    · exact hl x (List.mem_of_mem_drop hx)
  · rw [List.length_append, List.length_append, List.length_take, List.length_drop]
    omega
theorem ixN_nat {k S : Nat} (h : S < k) : ixN k (S : Int) = some S := by
  unfold ixN
  rw [if_pos (by omega), if_pos (by omega)]
  rfl
theorem Bent.swap {B : Addr} {ls : List Str} {S O : Nat} {x y : Str} {zs : List V} (hB : H B = some (.lst zs)) (hz : zs = ((ls.map V.str).set S (V.str x)).set O (V.str y)) (hl : ∀ x ∈ ls, LOk x) (h1 : ls.length ≤ 10) (hx : x ∈ ls) (hy : y ∈ ls) : Bent H B ((ls.set S x).set O y) := by
  subst hz
  refine ⟨by rw [hB, List.map_set, List.map_set], fun z hz => ?_, by rw [List.length_set, List.length_set]; omega⟩
  rcases List.mem_or_eq_of_mem_set hz with h | rfl
  · rcases List.mem_or_eq_of_mem_set h with h | rfl
    · exact hl z h
    · exact hl _ hx
  · exact hl _ hy
theorem plan_but {x : Addr} (P : PlanAt K H x n as) (tp : Tape H t l c) (k : But t l H H') : PlanAt K H' x n as := by
  obtain ⟨r, m, lg, cs, t1, t2, t3⟩ := tp.ex
  refine P.keepX (X := fun a => a = t ∨ a = l) (fun a o ha h => k a o h (fun z => ha (.inl z)) (fun z => ha (.inr z))) (fun a ha o ho => ?_)
  rcases ha with rfl | rfl
  · rw [t1] at ho; exact .inr (.inl ⟨_, (Option.some.inj ho).symm⟩)
  · rw [t2] at ho; exact .inl ⟨_, (Option.some.inj ho).symm⟩
theorem told_sort : ([(1, 0, -1), (0, 1, -1)] : List Ar).mergeSort le3 = [(0, 1, -1), (1, 0, -1)] := by
  have h := sort_idA (as := ([(0, 1, -1), (1, 0, -1)] : List Ar)) (by unfold Asc lt3; decide)
  rw [← h]
  first
    | decide +kernel
    | simp [List.mergeSort, le3, lt3]
def a01 : Ar := (0, 1, -1)
def a10 : Ar := (1, 0, -1)
theorem ok01 : okA 2 a01 ∧ okA 2 a10 := by unfold okA a01 a10; decide
theorem next_1 : nextA [] (.arr true a01) = [a01] := by
  show (([] : List Ar) ++ [a01]).mergeSort le3 = [a01]
  rw [List.nil_append, List.mergeSort_singleton]
theorem next_2 : nextA [a01] (.arr true a10) = [a01, a10] := sort_idA (as := [a01, a10]) (by unfold Asc lt3 a01 a10; decide)
theorem right_1 : Right 2 [] (.arr true a01) := ⟨ok01.1, by decide⟩
theorem right_2 : Right 2 [a01] (.arr true a10) := ⟨ok01.2, by unfold a01 a10; decide⟩
theorem told_text : textB 2 [.arr true a01, .arr true a10] = Str.ofString "switches 2\nbook\nmay 0 hinders 1\nmay 1 hinders 0" := by decide +kernel
end
end K24
set_option maxHeartbeats 8000000
namespace K24
open PySem L2 PySem.EX PyProof.Rows
open LamX (Tabs ExtN TabB LamS lamEnv lamCx lamS_by)
abbrev sLaw : Stmt := top 77
abbrev nLaw : List Str := ["script", "lap", "many", "lines", "step", "arrow", "asked", "deed", "turn", "spot", "other", "way", "bent", "line", "wrong", "again", "book", "tape"]
theorem scLaw : FnScope nLaw ["script"] (defScope sLaw) := ⟨rfl, rfl, rfl, by decide +kernel, rfl, by decide +kernel, by decide +kernel⟩
def spLaw (K : PySem.W.Frag) (T : List (Addr × Str)) : Sp := fun vs H Q _ => ∃ (a : Addr) (ns : List Int), vs = [.ref a] ∧ SqL K H a (ns.map V.int) ∧ ns.length ≤ 63 ∧ Tabs T H ∧ ∀ H', Q (.bl true) H'
/-- telling: a function of the arrows -/
def spTel (K : PySem.W.Frag) (T : List (Addr × Str)) (f : List Ar → Bool × Bool × Bool) : Sp := fun vs H Q _ => ∃ b l1 l2 n ds as, vs = [.ref b] ∧ BookAt K H b l1 l2 n ds as ∧ PlOk n as ∧ as.length ≤ 100 ∧ Tabs T H ∧ ∀ p H', ExtN H H' → Tabs T H' → H' p = some (.tup [.bl (f as).1, .bl (f as).2.1, .bl (f as).2.2]) → Q (.ref p) H'
structure Txs (P : Program) (w : World) (K : PySem.W.Frag) (mg : Str → Option Value) (c1 c2 : Addr) : Prop where
  l : TxL K mg
  p : TxP P K mg
  c : TxC K mg
  u : TxQ K mg
  s : TxS K w mg
  d : TxD K mg
  b : TxB P K mg
  t : TxT K mg
  f : TxF K mg
  h : TxH K mg
  z : TxZ K mg
  w : TxW K mg c1
  law : DefT K mg "law" sLaw c2
  min : mg "min" = none
  netB : PySem.W.kitOne K (.ref (cB K)) (.ref (He.ga K "NetError")) = some false
section
variable {P : Program} {w : World} {K : PySem.W.Frag} {mg : Str → Option Value} {base : Heap} {c1 c2 : Addr}
theorem ok_law {T : List (Addr × Str)} {P1 P2 : Addr} {f : List Ar → Bool × Bool × Bool} {fdT : FuncData} (GT : FnOk P w K mg base CX0 12 (He.ma K (cB K) "telling") fdT ["self"] (spTel K T f)) (hbT : Binds K fdT ["self"] []) (Z : Txs P w K mg c1 c2) (TB1 : TabB base mg c1 P1) (TB2 : TabB base mg c2 P2) (hm1 : (P1, lamQ "_law_at_line") ∈ T) (hu1 : ∀ p ∈ T, p.1 = P1 → p.2 = lamQ "_law_at_line")
    (hm2 : (P2, lamQ "law") ∈ T) (hu2 : ∀ p ∈ T, p.1 = P2 → p.2 = lamQ "law") : ∃ fd, FnOk P w K mg base CX0 13 (He.ga K "law") fd ["script"] (spLaw K T) ∧ Binds K fd ["script"] [] ∧ FunD K "law" "law" (defArgs sLaw) (defBody sLaw) (defScope sLaw) [] [] (He.ga K "law") fd := by
  obtain ⟨L, X, C, U, S, D, B, Y, F, Hh, Zz, W, hlaw, hmin, hnet⟩ := Z
  have GB : Fnc P w K mg base CX0 1 "_law_begun" ["script"] (spBegun K) := ok_begun L
  have GD : Fnc P w K mg base CX0 2 "_law_draw" ["tape", "size"] spDraw := ok_draw L
  have GP : Fnc P w K mg base CX0 3 "_law_pick" ["tape", "several"] (spPick K) := ok_pick L
  have GA : Fnc P w K mg base CX0 4 "_law_arrow" ["tape", "many"] spArrow := ok_arrow L Hh
  have GS : Fnc P w K mg base CX0 1 "_law_some" ["many"] (spSome K) := ok_some X C Hh
  have GL : Fnc P w K mg base CX0 1 "_law_line" ["deed"] spLL := ok_ll X Hh
  have GW : Fnc P w K mg base CX0 2 "_law_wrong" ["lines"] spW := ok_wrong X C Hh Zz
  have GQ : Fnc P w K mg base CX0 12 "_law_at_line" ["text"] (spAL K T) := ok_al X C D B Y F W TB1 hm1 hu1
  have GBT : Fnc P w K mg base (L2.CX P w) 5 "planbook_text" ["book"] (spBT K) := ok_bt X C B Y
  have KBT : Kw1 P w K mg base (L2.CX P w) 5 "planbook_text" "book" (spBT K) := (ok_btX X C B Y).kw (fun _ _ _ _ _ _ _ => rfl)
  have KRD : Kw1 P w K mg base (L2.CX P w) 9 "read_planbook" "text" (spRd K) := (ok_rdX X C D B Y F).kw (fun _ _ _ _ _ _ _ => rfl)
  have GPT : Fnc P w K mg base (L2.CX P w) 3 "plan_text" ["plan"] (spText K) := ok_text X C U
  have GPR : Fnc P w K mg base (L2.CX P w) 7 "read_plan" ["text"] (spRead K) := ok_read X C S
  obtain ⟨fdI, FI, hbI⟩ := ok_init (P := P) (w := w) (base := base) X C
  obtain ⟨fdE, FE, hbE⟩ := ok_eqP (P := P) (w := w) (base := base) X C
  obtain ⟨fdB, FB, hbB⟩ := ok_bI (P := P) (w := w) (base := base) X C B
  obtain ⟨fdO, FO, hbO⟩ := ok_do (P := P) (w := w) (base := base) X C D B
  obtain ⟨fdR, FR, hbR⟩ := ok_redo (P := P) (w := w) (base := base) X B
  obtain ⟨fdQ, FQ, hbQ⟩ := ok_eqB (P := P) (w := w) (base := base) X C B
  have RP : PrB P w K mg base (cB K) 1 "plan" (spBpl K) := pr_bpl B
  refine fncT (k := 12) hlaw scLaw (fun vs H Q E h => ?_) (fun _ _ _ _ _ _ us hl => match us, hl with | [_], _ => rfl) (fun A outer s H vs Q E hr h => ?_)
  · obtain ⟨a, ns, rfl, _⟩ := h
    rfl
  · obtain ⟨a, ns, rfl, hS, hlen, hT, k⟩ := h
    have nd := scLaw.nd
    have r1 := hr.mono (show 1 ≤ 12 by decide)
    have r2 := hr.mono (show 2 ≤ 12 by decide)
    have r3 := hr.mono (show 3 ≤ 12 by decide)
    have r4 := hr.mono (show 4 ≤ 12 by decide)
    have r5 := hr.mono (show 5 ≤ 12 by decide)
    have r6 := hr.mono (show 6 ≤ 12 by decide)
    have r7 := hr.mono (show 7 ≤ 12 by decide)
    have r8 := hr.mono (show 8 ≤ 12 by decide)
    have r9 := hr.mono (show 9 ≤ 12 by decide)
    have pE : Passes (L2.CX P w) (cxOf CX0 P w K mg base nLaw "law" (defScope sLaw) (He.ga K "law") (.ref c2) A outer s H E).nox E0 := passes_call LamX.takes0 (fun _ _ _ _ h => h)
    have hu65 : (A.deeper (envOfC "law" (defScope sLaw) s.heap.objs.size (He.ga K "law") (.ref c2))).units + 65 < cLine := by
      have := hr.un
      omega
    refine ⟨_, pss_cons (ps_set (i := 17) nd rfl (Or.inr rfl) (pe_fn GB r1 pass0 (pa_cons (pv 0) pa_nil)))
      (pss_cons (ps_for PassesOwn.never rfl (pi_range1 (by rfl) X.range (pa_cons (pe_op op_add pe_int (pe_callB (call_min2 rfl) (by rfl) hmin (by decide +kernel) (pa_cons (pe_callB call_len_seq (by rfl) X.len PySem.boot_len (pa_cons (pv 0) pa_nil)) (pa_cons pe_int pa_nil)))) pa_nil)) (pg_name (i := 1) nd rfl (Or.inl rfl))
        (pss_cons (ps_set (i := 2) nd rfl (Or.inl rfl) (pe_op op_add pe_int (pe_fn GD r2 pass0 (pa_cons (pv 17) (pa_cons pe_int pa_nil)))))
        (pss_cons (ps_asg (pe_tup (pa_cons (pe_make (E := E0) B.bMk FB r8 (by rfl) B.bGlo hbB .nil pass0 (pa_cons (pv 2) pa_nil)) (pa_cons (pe_lst (pa_cons (pe_op op_add_str pe_str (pe_callTy call_str_int (by rfl) X.str (by decide +kernel) (pa_cons (pv 2) pa_nil))) (pa_cons pe_str pa_nil))) pa_nil)))
            (pg_tup rfl (pgs_cons (pg_name (i := 16) nd rfl (Or.inr rfl)) (pgs_cons (pg_name (i := 3) nd rfl (Or.inl rfl)) pgs_nil))))
        (pss_cons (ps_for PassesOwn.never rfl (pi_range1 (by rfl) X.range (pa_cons (pe_fn GD r2 pass0 (pa_cons (pv 17) (pa_cons pe_int pa_nil))) pa_nil)) (pg_name (i := 4) nd rfl (Or.inl rfl))
          (pss_cons (ps_par (by rfl) nd (i := 5) (j := 6) rfl rfl (by decide) rfl rfl (pa_cons (pe_fn GA r4 pass0 (pa_cons (pv 17) (pa_cons (pv 2) pa_nil))) (pa_cons (pe_fn GP r3 pass0 (pa_cons (pv 17) (pa_cons (pe_fn GS r1 pass0 (pa_cons (pv 2) pa_nil)) pa_nil))) pa_nil)) (by rfl))
          (pss_cons (ps_set (i := 7) nd rfl (Or.inl rfl) (pe_ifExp (pt_cmpR op_eq (pe_fn GD r2 pass0 (pa_cons (pv 17) (pa_cons pe_int pa_nil))) pe_int (nomark _)) (pe_tup (pa_cons pe_str (pa_cons (pv 6) pa_nil)))
              (pe_tup (pa_cons (pe_ifExp (pt_cmpR (op_inDT hu65) (pv 5) (pe_prp (pe_prb (pv 16) B.bCls RP r2) C (prp_ar C) r2) (by with_unfolding_all rfl)) pe_str pe_str) (pa_cons (pv 5) pa_nil)))))
          (pss_cons (ps_expr (pe_meth (pv 16) B.bCls B.mDo FO r8 hbO .nil pass0 (pa_cons (pv 7) pa_nil)))
          (pss_one (ps_expr (pe_bm PySem.F.plainAttrs_list PySem.F.slot_list_append PySem.F.type_list_append mt_append (pv 3) (pa_cons (pe_fn GL r1 pass0 (pa_cons (pv 7) pa_nil)) pa_nil))))))))
        (pss_cons (ps_if (PW.pt (pw_or (pt_cmpR op_ne (pe_fn GBT r5 pE (pa_cons (pv 16) pa_nil)) (pe_join pe_str (pv 3)) (nomark _)) (pw_or1 (pt_cmpR op_ne (pe_kw1 KBT r5 pE (pv 16)) (pe_join pe_str (pv 3)) (nomark _))))) (pss_one (ps_ret pe_bl)) pss_nil)
        (pss_cons (ps_set (i := 15) nd rfl (Or.inr rfl) (pe_kw1 KRD r9 pE (pe_join pe_str (pv 3))))
        (pss_cons (ps_if (PW.pt (pw_or (pt_cmpR (op_neI (E := E0) FQ B.eqf B.eqn B.ne B.ob hbQ pass0 r6) (pv 15) (pv 16) (nomark _))
            (pw_or (pt_cmpR (op_neI (E := E0) FE C.eqf C.eqn C.ne C.ob hbE pass0 r2) (pe_prb (pv 15) B.bCls RP r2) (pe_prb (pv 16) B.bCls RP r2) (nomark _))
            (pw_or (pt_cmpR (op_neD hr.units) (pe_meth0 (pv 15) B.bCls B.mTel GT hr hbT .nil pass0) (pe_meth0 (pv 16) B.bCls B.mTel GT hr hbT .nil pass0) (nomark _))
            (pw_or1 (pt_not (pt_val (pe_callB call_isA (by rfl) X.isinst (by decide +kernel) (pa_cons
              (pe_lam1 (T := T) (Pt := P2) (j := 1) (k := 8) (t := fun E => tMeth (cB K) "redo" (spRedo K) [] E (tVar 15) tNil) (takes_caught W 9) W.caught.2 (kp_caught W) TB2 rfl hm2 hu2 (hr.mono (by decide)) (lamS_by (sc := defScope sLaw) (by decide +kernel))
                (fun A outer s H E f c' hr2 => pe_meth0 (pv 15) B.bCls B.mRedo FR (hr2.mono (by decide)) hbR .nil (passes_call (takes_of rfl rfl rfl rfl) (fun _ _ _ _ h => h))))
              (pa_cons (pe_glob (v := .ref (cU K)) (by rfl) B.undone.glo rfl) pa_nil))))))))))
          (pss_one (ps_ret pe_bl)) pss_nil)
        (pss_cons (ps_expr (pe_meth (pv 15) B.bCls B.mDo FO r8 hbO .nil pass0 (pa_cons (pe_tup (pa_cons pe_str (pa_cons (pe_tup pa_nil) pa_nil))) pa_nil)))
        (pss_cons (ps_if (PW.pt (pw_or (pt_cmpR op_ne (pe_fn GBT r5 pE (pa_cons (pv 15) pa_nil)) (pe_join pe_str (pe_op op_cat (pv 3) (pe_lst (pa_cons pe_str pa_nil)))) (nomark _))
            (pw_or1 (pt_cmpR (op_eqI (E := E0) FQ B.eqf B.eqn hbQ pass0 r5) (pv 15) (pv 16) (nomark _))))) (pss_one (ps_ret pe_bl)) pss_nil)
        (pss_cons (ps_if (PW.pt (pw_or (pt_cmpR op_ne (pe_fn GPT r3 pE (pa_cons (pe_prb (pv 16) B.bCls RP r2) pa_nil)) (pe_join pe_str (pe_op op_cat (pe_lst (pa_cons (pe_ix ix_list (pv 3) pe_int (fun _ _ => rfl)) pa_nil))
              (pe_lc (own := [("arrow", 5)]) (g := gName 5) (tt := tYes) rfl nd (pi_tup (pe_prp (pe_prb (pv 16) B.bCls RP r2) C (prp_ar C) r2)) (blkOk_by (N := nLaw) (sc := defScope sLaw) (by decide +kernel))
                (fun _ _ _ _ _ => pg_name (i := 5) nd rfl (Or.inl rfl)) (fun _ _ _ _ _ => pts_nil) (fun _ _ _ _ _ => pe_slice sl_str (pe_fn GL r1 pass0 (pa_cons (pe_tup (pa_cons pe_str (pa_cons (pv 5) pa_nil))) pa_nil)) (po_some pe_int) po_none)))) (nomark _))
            (pw_or1 (pt_cmpR (op_neI (E := E0) FE C.eqf C.eqn C.ne C.ob hbE pass0 r2) (pe_fn GPR r7 pE (pa_cons (pe_fn GPT r3 pE (pa_cons (pe_prb (pv 16) B.bCls RP r2) pa_nil)) pa_nil)) (pe_prb (pv 16) B.bCls RP r2) (nomark _))))) (pss_one (ps_ret pe_bl)) pss_nil)
        (pss_cons (ps_for PassesOwn.never rfl (pi_range1 (by rfl) X.range (pa_cons pe_int pa_nil)) (pg_name (i := 8) nd rfl (Or.inl rfl))
          (pss_cons (ps_par3 (by rfl) nd (i := 9) (j := 10) (l := 11) rfl rfl rfl (by decide) (by decide) (by decide) rfl rfl rfl (pa_cons (pe_fn GD r2 pass0 (pa_cons (pv 17) (pa_cons (pe_callB call_len_seq (by rfl) X.len PySem.boot_len (pa_cons (pv 3) pa_nil)) pa_nil)))
              (pa_cons (pe_fn GD r2 pass0 (pa_cons (pv 17) (pa_cons (pe_callB call_len_seq (by rfl) X.len PySem.boot_len (pa_cons (pv 3) pa_nil)) pa_nil))) (pa_cons (pe_fn GD r2 pass0 (pa_cons (pv 17) (pa_cons pe_int pa_nil))) pa_nil))) (by rfl))
          (pss_cons (ps_set (i := 12) nd rfl (Or.inl rfl) (pe_op op_cat (pe_slice sl_list (pv 3) po_none (po_some (pv 9))) (pe_slice sl_list (pv 3) (po_some (pe_op op_add (pv 9) pe_int)) po_none)))
          (pss_cons (ps_if (pt_cmpR op_eq (pv 11) pe_int (nomark _)) (pss_one (ps_set (i := 12) nd rfl (Or.inl rfl) (pe_op op_cat (pe_slice sl_list (pv 3) po_none (po_some (pe_op op_add (pv 9) pe_int))) (pe_slice sl_list (pv 3) (po_some (pv 9)) po_none))))
            (pss_one (ps_if (pt_cmpR op_eq (pv 11) pe_int (nomark _))
              (pss_cons (ps_set (i := 12) nd rfl (Or.inl rfl) (pe_callTy call_list_of (by rfl) X.list (by decide +kernel) (pa_cons (pv 3) pa_nil)))
              (pss_one (ps_asg (pe_tup (pa_cons (pe_ix ix_list (pv 3) (pv 10) (fun _ _ => rfl)) (pa_cons (pe_ix ix_list (pv 3) (pv 9) (fun _ _ => rfl)) pa_nil))) (pg_tup rfl (pgs_cons (pg_sub (pv 12) (pv 9) set_list) (pgs_cons (pg_sub (pv 12) (pv 10) set_list) pgs_nil))))))
              (pss_one (ps_if (pt_cmpR op_gt (pv 11) pe_int (nomark _))
                (pss_cons (ps_set (i := 13) nd rfl (Or.inl rfl) (pe_fn GP r3 pass0 (pa_cons (pv 17) (pa_cons (pe_lst (pa_cons pe_str (pa_cons pe_str (pa_cons pe_str (pa_cons pe_str (pa_cons pe_str (pa_cons pe_str (pa_cons pe_str (pa_cons pe_str (pa_cons pe_str
                    (pa_cons (pe_op op_add_str (pe_ix ix_list (pv 3) (pv 9) (fun _ _ => rfl)) pe_str) (pa_cons (pe_op op_add_str pe_str (pe_ix ix_list (pv 3) (pv 9) (fun _ _ => rfl))) (pa_cons pe_str pa_nil))))))))))))) pa_nil))))
                (pss_one (ps_set (i := 12) nd rfl (Or.inl rfl) (pe_op op_cat (pe_op op_cat (pe_slice sl_list (pv 3) po_none (po_some (pv 9))) (pe_lst (pa_cons (pv 13) pa_nil)))
                  (pe_slice sl_list (pv 3) (po_some (pe_op op_add (pv 9) (pe_ifExp (pt_cmpR op_eq (pv 11) pe_int (nomark _)) pe_int pe_int))) po_none)))))
                pss_nil)))))
          (pss_cons (ps_set (i := 12) nd rfl (Or.inl rfl) (pe_ifExp (pt_cmpR (op_neD hr.units) (pv 12) (pe_lst pa_nil) (nomark _)) (pv 12) (pe_lst (pa_cons pe_str pa_nil))))
          (pss_cons (ps_set (i := 14) nd rfl (Or.inl rfl) (pe_fn GW r2 pass0 (pa_cons (pv 12) pa_nil)))
          (pss_one (ps_if (pt_cmpR op_ne (pe_fn GQ hr pass0 (pa_cons (pe_join pe_str (pv 12)) pa_nil)) (pe_ifExp (pt_cmpR op_isN (pv 14) pe_non (nomark _)) (pe_un un_neg pe_int) (pv 14)) (nomark _)) (pss_one (ps_ret pe_bl)) pss_nil)))))))
        )
        (pss_one (ps_if (PW.pt (pw_or (pt_cmpR op_notN (pe_fn GQ hr pass0 (pa_cons (pe_fn GP r3 pass0 (pa_cons (pv 17) (pa_cons (pe_lst (pa_cons pe_non (pa_cons pe_int (pa_cons (pv 3) pa_nil)))) pa_nil))) pa_nil)) pe_non (nomark _))
            (pw_or1 (pt_not (pt_val (pe_callB call_isA (by rfl) X.isinst (by decide +kernel) (pa_cons
              (pe_lam1 (T := T) (Pt := P2) (j := 1) (k := 8) (t := fun E => tFn (spBT K) E (tCons (tFn (spPick K) E0 (tCons (tVar 17) (tCons (tLst (tCons (tC .non) (tCons (tC (.int 5)) (tCons (tProp (cB K) (spBpl K) [] E0 (tVar 16)) tNil)))) tNil))) tNil)) (takes_caught W 9) W.caught.2 (kp_caught W) TB2 rfl hm2 hu2 (hr.mono (by decide)) (lamS_by (sc := defScope sLaw) (by decide +kernel))
                (fun A outer s H E f c' hr2 => pe_fn GBT (hr2.mono (by decide)) (passes_call (takes_of rfl rfl rfl rfl) (fun _ _ _ _ h => h)) (pa_cons (pe_fn GP (hr2.mono (by decide)) pass0 (pa_cons (pv 17) (pa_cons (pe_lst (pa_cons pe_non (pa_cons pe_int (pa_cons (pe_prb (pv 16) B.bCls RP (hr2.mono (by decide))) pa_nil)))) pa_nil))) pa_nil)))
              (pa_cons (pe_glob (v := .ref (cN K)) (by rfl) B.noBook.glo rfl) pa_nil))))))))
          (pss_one (ps_ret pe_bl)) pss_nil)))))))))))))
      (pss_cons (ps_set (i := 16) nd rfl (Or.inr rfl) (pe_make (E := E0) B.bMk FB r8 (by rfl) B.bGlo hbB .nil pass0 (pa_cons pe_int pa_nil)))
      (pss_cons (ps_expr (pe_meth (pv 16) B.bCls B.mDo FO r8 hbO .nil pass0 (pa_cons (pe_tup (pa_cons pe_str (pa_cons (pe_tup (pa_cons pe_int (pa_cons pe_int (pa_cons (pe_un un_neg pe_int) pa_nil)))) pa_nil))) pa_nil)))
      (pss_cons (ps_expr (pe_meth (pv 16) B.bCls B.mDo FO r8 hbO .nil pass0 (pa_cons (pe_tup (pa_cons pe_str (pa_cons (pe_tup (pa_cons pe_int (pa_cons pe_int (pa_cons (pe_un un_neg pe_int) pa_nil)))) pa_nil))) pa_nil)))
      (pss_one (ps_ret (pe_and (pe_cmpR op_eq (pe_fn GBT r5 pE (pa_cons (pv 16) pa_nil)) pe_str (nomark _))
        (pe_and (pe_cmpR (op_eqI (E := E0) FE C.eqf C.eqn hbE pass0 r1) (pe_prb (pv 16) B.bCls RP r2) (pe_make (E := E0) C.mkr FI r6 (by rfl) C.glo hbI .nil pass0 (pa_cons pe_int (pa_cons (pe_lst (pa_cons (pe_tup (pa_cons pe_int (pa_cons pe_int (pa_cons (pe_un un_neg pe_int) pa_nil)))) (pa_cons (pe_tup (pa_cons pe_int (pa_cons pe_int (pa_cons (pe_un un_neg pe_int) pa_nil)))) pa_nil))) pa_nil))) (nomark _))
        (pe_one (pe_not (pe_callB call_isA (by rfl) X.isinst (by decide +kernel) (pa_cons (pv 16) (pa_cons (pe_glob (v := .ref (He.ga K "NetError")) (by rfl) W.net rfl) pa_nil))))))))))))), ?_⟩
    refine ⟨_, rfl, a, ns, rfl, hS, hlen, fun t l c H1 s1 ht0 hl0 hc0 TT => ?_⟩
    have notT : ∀ {H2 : Hp} {p : Addr}, Tape H2 t l c → H2 p = none → p ≠ t ∧ p ≠ l := fun {H2 p} T2 hp => by
      obtain ⟨r, m, lg, cs, e1, e2, _⟩ := T2.ex
      exact ⟨fun e => (by rw [e, e1] at hp; cases hp), fun e => (by rw [e, e2] at hp; cases hp)⟩
    refine ⟨_, rfl, a, _, rfl, .inl (s1.seq hS), _, _, rfl, _, _, rfl, rfl, _, rfl, by split <;> omega, by split <;> omega, for_range (lo := 0) (n := _) (fun i σ H2 => ∃ u0 u1 u2 u3 u4 u5 u6 u7 u8 u9 u10 u11 u12 u13 u14 u15 u16 : Option V, σ = [u0, u1, u2, u3, u4, u5, u6, u7, u8, u9, u10, u11, u12, u13, u14, u15, u16, some (.ref t)] ∧ Tape H2 t l c ∧ Tabs T H2)
      ⟨_, _, _, _, _, _, _, _, _, _, _, _, _, _, _, _, _, rfl, TT, hT.ext s1⟩ ?_ ?_⟩
    · rintro i σ H2 hi ⟨u0, u1, u2, u3, u4, u5, u6, u7, u8, u9, u10, u11, u12, u13, u14, u15, u16, rfl, T2, hT2⟩
      refine ⟨_, rfl, t, l, c, 5, rfl, by decide, by decide, T2, fun d H3 d0 d1 T3 b3 => ⟨_, _, rfl, rfl, ?_⟩⟩
      show gName 2 (V.int ((1 : Int) + d)) _ _ _
      generalize hn : (1 : Int) + d = n
      have n0 : 1 ≤ n := by omega
      have n1 : n ≤ 5 := by omega
      have hT3 := Tabs.but hT2 b3 T2
      clear hn d0 d1 b3 T2 hT2
      -- book, lines
      refine ⟨_, rfl, fun b dx hb hdx hne => ⟨b, dx, n, rfl, upd_same, n0, n1, fun l1 l2 H4 kp hl1 hl2 n12 bk lat => ⟨rfl, ?_⟩⟩⟩
      refine ⟨_, rfl, n, rfl, log_small (by omega), _, _, rfl, rfl, line_small ?_, (by show 2 ≤ sizeLine; decide), fun M hM => ?_⟩
      · rw [show (Str.ofString (toString n)).length = 1 from nS_len (by omega) (by omega)]
        decide +kernel
      refine ⟨(by show 2 ≤ sizeLine; decide), fun q hq => ?_⟩
      refine ⟨q, _, rfl, SqT.of upd_same, rfl, _, _, rfl, _, _, rfl, rfl, ?_⟩
      have sN : Same H3 (upd (upd H3 dx (.own b)) b (.ins (cB K) dx [])) := (Same.upd hdx).trans (Same.upd (by rw [upd_ne (Ne.symm hne)]; exact hb))
      have s34 : Same H3 H4 := fun x o hx => kp _ _ (ne_of_none hx hb) (sN _ _ hx)
      have J5 := (BJ.mk0 (ls := linesB n []) T3 hT3 sN hl1 hl2 s34 bk lat hM (zs := [V.str (Str.ofString "switches " ++ Str.ofString (toString n)), V.str (Str.ofString "book")]) rfl).same (Same.upd (o := .tup [V.ref b, V.ref M]) hq)
      clear hq hM sN s34 kp hl1 hl2 n12 bk lat hb hdx hne T3 hT3
      generalize (upd (upd H4 M _) q _) = H5 at J5 ⊢
      -- the deeds
      refine ⟨_, rfl, t, l, c, 9, rfl, by decide, by decide, J5.tp, fun d H6 d0 d1 T6 b6 => ?_⟩
      have J6 := J5.but b6 T6
      refine ⟨_, rfl, by omega, by omega, for_range (lo := 0) (n := d.toNat) (fun j σ H7 => ∃ (v4 v5 v6 v7 : Option V) (ds : List De) (as : List Ar), σ = [u0, some (.int (0 + i)), some (.int n), some (.ref M), v4, v5, v6, v7, u8, u9, u10, u11, u12, u13, u14, u15, some (.ref b), some (.ref t)] ∧ BJ K T t l c b l1 l2 M n ds as (linesB n ds) H7 ∧ Run n [] (ds.map lineD) ds as ∧ ds.length = j)
        ⟨_, _, _, _, [], [], rfl, J6, .nil, rfl⟩ ?_ ?_⟩
      · rintro j σ H7 hj ⟨v4, v5, v6, v7, ds, as, rfl, J7, hrun, hdl⟩
        obtain ⟨ok1, ok2, ok3, ok4⟩ := Run.ok (pl_nil n0 n1) hrun
        have hal : as.length ≤ 8 := by
          have : as.length ≤ 0 + ds.length := ok2
          omega
        refine ⟨_, rfl, _, rfl, t, l, c, n, rfl, J7.tp, n0, n1, fun p a H8 ha hp hpa T8 b8 => ?_⟩
        have J8 := J7.but b8 T8
        refine ⟨_, rfl, _, rfl, n.toNat, by rw [Int.toNat_of_nonneg (by omega)], by omega, fun l5 vs ms H9 s9 hl5 hvs hI perm => ?_⟩
        have J9 := J8.same s9
        have nl5 := notT T8 hl5
        have hml : ms.length = 2 ^ n.toNat := by rw [perm.length_eq, subs_len]
        have hmb : ms.length ≤ 32 := by rw [hml]; exact Nat.le_trans (Nat.pow_le_pow_right (by decide) (show n.toNat ≤ 5 by omega)) (by decide)
        have hmp : 0 < ms.length := by rw [hml]; exact Nat.two_pow_pos _
        refine ⟨t, l, c, l5, vs, rfl, SqL.of hvs, fun z => ?_, ?_, nl5.1, nl5.2, J9.tp, fun k5 v H10 hv T10 b10 => ?_⟩
        · have := hI.length
          rw [z] at this
          simp at this
          omega
        · have := hI.length
          omega
        have J10 := J9.but b10 T10
        obtain ⟨fs, hfs, hIv⟩ := Paired.at_ hI hv
        have okf : okF n fs := okF_toNat n0 ((mem_subs_iff (by omega)).mp (perm.mem_iff.mp (List.mem_of_getElem? hfs)))
        have hIv := hIv.keep (but_tups J9.tp b10)
        have hpa := (but_tups J9.tp b10) _ _ (s9 _ _ hpa)
        clear hfs hI perm hmp hmb hml hv hvs hl5 nl5 J9 s9 b10 T10 J8 b8 T8 J7 hp
        refine ⟨_, _, rfl, ?_⟩
        dsimp only
        refine seq_alt (fun σ' H' => ∃ (v4 v5 v6 : Option V) (z : V) (dd : De), σ' = [u0, some (.int (0 + i)), some (.int n), some (.ref M), v4, v5, v6, some z, u8, u9, u10, u11, u12, u13, u14, u15, some (.ref b), some (.ref t)] ∧ DeedAt H' z dd ∧ Right n as dd ∧ BJ K T t l c b l1 l2 M n ds as (linesB n ds) H') (fun G hG => ?_) ?_
        · refine ⟨_, rfl, t, l, c, 5, rfl, by decide, by decide, J10.tp, fun e H11 e0 e1 T11 b11 => ⟨rfl, _, rfl, ?_⟩⟩
          have J11 := J10.but b11 T11
          have hIv := hIv.keep (but_tups J10.tp b11)
          have hpa := (but_tups J10.tp b11) _ _ hpa
          refine ite2 (fun hc => ?_) (fun hc => ?_)
          · obtain ⟨fq, rfl, hfq⟩ := hIv
            exact ⟨_, rfl, (by show 2 ≤ sizeLine; decide), fun r hr => hG _ _ ⟨_, _, _, _, .flip fs, rfl, ⟨r, fq, rfl, upd_same, (Same.upd hr) _ _ hfq⟩, okf, J11.same (Same.upd hr)⟩⟩
          · obtain ⟨dxb, l3b, psb, dvb, eb1, _⟩ := J11.bk.at_
            have dpa : Dp K H11 (.ref p) (arD a) := (match Ars.dp (K := K) (show Ars H11 [.ref p] [a] from .cons ⟨p, rfl, hpa⟩ .nil) with | .cons h _ => h)
            refine ⟨_, rfl, _, rfl, b, dxb, _, rfl, eb1, b, l1, l2, n, ds, as, rfl, J11.bk, fun x px => ?_⟩
            obtain ⟨dxp, tp, yp, ep1, ep2, ep3⟩ := id px
            refine ⟨x, dxp, _, rfl, ep1, x, dxp, _, .ref tp, rfl, ep1, rfl, ?_⟩
            refine ⟨arD a, as.map arD, dpa, .tup (SqT.of ep2) ep3.dp, shaped_ar a, shaped_ars as, _, rfl, ?_⟩
            rw [eqv_mem]
            refine ite2 (fun hc2 => ?_) (fun hc2 => ?_)
            · exact ⟨_, rfl, (by show 2 ≤ sizeLine; decide), fun r hr => hG _ _ ⟨_, _, _, _, .arr false a, rfl, ⟨r, p, rfl, upd_same, (Same.upd hr) _ _ hpa⟩, ⟨ha, hc2⟩, J11.same (Same.upd hr)⟩⟩
            · exact ⟨_, rfl, (by show 2 ≤ sizeLine; decide), fun r hr => hG _ _ ⟨_, _, _, _, .arr true a, rfl, ⟨r, p, rfl, upd_same, (Same.upd hr) _ _ hpa⟩, ⟨ha, by simpa using hc2⟩, J11.same (Same.upd hr)⟩⟩
        · rintro σ' H11 ⟨v4', v5', v6', z, dd, rfl, hdd, hrt, J11⟩
          obtain ⟨dxb, l3b, psb, dvb, eb1, eb2, eb3, _⟩ := J11.bk.at_
          refine ⟨_, rfl, b, dxb, _, rfl, eb1, rfl, _, rfl, b, l1, l2, z, n, ds, as, dd, rfl, J11.bk, hdd, hrt, ok1, by omega, by omega, fun H12 k3 bk12 lat => ?_⟩
          have J12 := J11.done k3 bk12 lat
          have hdd := hdd.keep (k3.tups eb1 eb2 eb3)
          refine ⟨_, rfl, .inl ⟨rfl, _, SqL.of J12.ln⟩, ?_⟩
          refine ⟨_, rfl, ?_⟩
          dsimp only [tNil]
          refine ll_deed hdd hrt.okD n1 fun H13 s13 => ?_
          have J13 := J12.same s13
          have hlz : (linesB n ds).length = j + 2 := by unfold linesB; rw [List.length_cons, List.length_cons, List.length_map, hdl]
          refine ⟨M, _, _, rfl, rfl, J13.ln, line_small (by rw [List.length_map, hlz]; omega), ?_⟩
          refine ⟨_, _, _, _, ds ++ [dd], nextA as dd, rfl, J13.put (ls' := linesB n (ds ++ [dd])) (by unfold linesB; simp), ?_, by rw [List.length_append, hdl]; rfl⟩
          rw [List.map_append]
          exact hrun.snoc hrt
      · rintro σ H7 ⟨v4, v5, v6, v7, ds, as, rfl, J7, hrun, hdl⟩
        clear J6 J5 T6 b6
        obtain ⟨ok1, ok2, ok3, ok4⟩ := Run.ok (pl_nil n0 n1) hrun
        have hal : as.length ≤ 8 := by
          have : as.length ≤ 0 + ds.length := ok2
          omega
        have hd8 : ds.length ≤ 8 := by omega
        have hlz : (linesB n ds).length = ds.length + 2 := by unfold linesB; rw [List.length_cons, List.length_cons, List.length_map]
        have asc := run_asc (pl_nil n0 n1) List.Pairwise.nil hrun
        have lok : ∀ x ∈ linesB n ds, LOk x := fun x hx => by
          obtain ⟨ps, hp, _⟩ := prt_lines n0 n1 ok4 x hx
          exact hp.ok
        have lne : linesB n ds ≠ [] := by unfold linesB; simp
        have sm := loks_small lok (by omega)
        have spl := loks_split lne lok
        clear d0 d1 hdl ok2 ok3
        -- the book's text
        refine ⟨_, rfl, .ref b, rfl, .inl ⟨b, l1, l2, n, ds, as, rfl, J7.bk, n0, n1, ok4, by omega, fun H8 s8 => ?_⟩⟩
        have J8 := J7.same s8
        refine ⟨⟨_, rfl⟩, _, rfl, _, M, linesB n ds, rfl, rfl, .inl (SqL.of J8.ln), sm.1, rfl, _, rfl, ?_⟩
        have et : (!decide (V.str (textB n ds) = V.str (Txt.join nl (linesB n ds)))) = false := by
          rw [decide_eq_true (show V.str (textB n ds) = V.str (Txt.join nl (linesB n ds)) from rfl)]
          rfl
        rw [show Txt.join (Str.ofString "\n") (linesB n ds) = Txt.join nl (linesB n ds) from rfl, et]
        refine iteF ?_
        refine ⟨_, rfl, .ref b, rfl, .inl ⟨b, l1, l2, n, ds, as, rfl, J8.bk, n0, n1, ok4, by omega, fun H9 s9 => ?_⟩⟩
        have J9 := J8.same s9
        refine ⟨⟨_, rfl⟩, _, rfl, _, M, linesB n ds, rfl, rfl, .inl (SqL.of J9.ln), sm.1, rfl, _, rfl, ?_⟩
        rw [show Txt.join (Str.ofString "\n") (linesB n ds) = Txt.join nl (linesB n ds) from rfl, et]
        refine iteF ?_
        -- the book read back
        refine ⟨⟨_, rfl⟩, _, rfl, _, M, linesB n ds, rfl, rfl, .inl (SqL.of J9.ln), sm.1, ?_⟩
        refine read_book n0 n1 hrun sm.2 spl (by omega) fun b2 m1 m2 H10 s10 f1 f2 f3 bk2 => ?_
        have J10 := J9.same s10
        obtain ⟨dx1, l3a, ps1, dv1, e1, _⟩ := J10.bk.at_
        obtain ⟨dx2, l3b, ps2, dv2, e2, _⟩ := bk2.at_
        refine ⟨_, rfl, _, rfl, b2, b, dx2, dx1, _, _, rfl, rfl, e2, e1, b2, m1, m2, n, ds, as, b, l1, l2, n, ds, as, rfl, bk2, J10.bk, fun H11 s11 => ⟨_, rfl, _, rfl, ?_⟩⟩
        have ec : ((decide (n = n) && decide (ds = ds)) != true) = false := by simp
        rw [ec]
        refine iteF ?_
        have J11 := J10.same s11
        have bk2 := bk2.same s11
        have e1 := s11 _ _ e1
        have e2 := s11 _ _ e2
        refine ⟨_, rfl, b2, dx2, _, rfl, e2, b2, m1, m2, n, ds, as, rfl, bk2, fun x2 px2 => ⟨_, rfl, b, dx1, _, rfl, e1, b, l1, l2, n, ds, as, rfl, J11.bk, fun x1 px1 => ?_⟩⟩
        obtain ⟨dp2, tp2, yp2, ep2, _⟩ := id px2
        obtain ⟨dp1, tp1, yp1, ep1, _⟩ := id px1
        refine ⟨x2, x1, dp2, dp1, _, _, rfl, rfl, ep2, ep1, x2, x1, n, n, as, as, rfl, px2, px1, fun H12 s12 => ⟨_, rfl, _, rfl, ?_⟩⟩
        have ec : ((decide (n = n) && decide (as = as)) != true) = false := by simp
        rw [ec]
        refine iteF ?_
        have J12 := J11.same s12
        have bk2 := bk2.same s12
        have e1 := s12 _ _ e1
        have e2 := s12 _ _ e2
        clear px1 px2 ep1 ep2 J8 J7 J11 J10
        -- telling
        refine ⟨_, rfl, b2, dx2, _, rfl, e2, rfl, b2, m1, m2, n, ds, as, rfl, bk2, ok1, by omega, J12.tb, fun p1 H13 x13 T13 hp1 => ?_⟩
        have J13 := J12.ext x13 T13
        have bk2 := bk2.ext x13
        have e1 := x13 _ _ e1 (by intro ps z; cases z)
        have e2 := x13 _ _ e2 (by intro ps z; cases z)
        refine ⟨_, rfl, b, dx1, _, rfl, e1, rfl, b, l1, l2, n, ds, as, rfl, J13.bk, ok1, by omega, J13.tb, fun p2 H14 x14 T14 hp2 => ?_⟩
        have J14 := J13.ext x14 T14
        have bk2 := bk2.ext x14
        have e1 := x14 _ _ e1 (by intro ps z; cases z)
        have e2 := x14 _ _ e2 (by intro ps z; cases z)
        have hp1 := x14 _ _ hp1 (by intro ps z; cases z)
        refine ⟨telD (f as), telD (f as), tel_dp hp1, tel_dp hp2, tel_shaped _, tel_shaped _, _, rfl, ?_⟩
        rw [tel_eqv]
        refine iteF ?_
        -- nothing to be redone
        refine ⟨J14.tb, fun H15 x15 T15 => ?_⟩
        have bk2 := bk2.ext x15
        have e2 := x15 _ _ e2 (by intro ps z; cases z)
        refine ⟨_, rfl, b2, dx2, _, rfl, e2, rfl, b2, m1, m2, n, ds, as, rfl, bk2, fun H16 s16 => ?_⟩
        refine ⟨true, W.exU, fun _ ex hex => ?_, fun z => nomatch z⟩
        have s17 := s16.trans (Same.upd (o := ExV (.ref (cU K)) none ex) hex)
        refine .inl ⟨ex, cU K, none, _, .ref (cU K), _, true, rfl, .own _, upd_same, .inl ⟨rfl, rfl⟩, W.xcU, kit_same, _, rfl, iteF ?_⟩
        have x917 : ExtN H9 _ := (((((ExtN.of s10).trans (ExtN.of s11)).trans (ExtN.of s12)).trans x13).trans x14).trans (x15.trans (ExtN.of s17))
        have T17 := T15.ext s17
        have bk2 := bk2.same s17
        have e2 := s17 _ _ e2
        clear s17 s16 x15 x14 x13 J12 J13 J14 T13 T14 T15
        generalize (upd H16 ex _) = H17 at x917 T17 bk2 e2 ⊢
        -- a deed more
        refine ⟨_, rfl, b2, dx2, _, rfl, e2, rfl, by decide, fun q1 hq1 => ⟨by show 2 ≤ sizeLine; decide, fun q2 hq2 => ?_⟩⟩
        have s18 := (Same.upd (o := .tup []) hq1).trans (Same.upd (o := .tup [.str "flip", .ref q1]) hq2)
        refine ⟨b2, m1, m2, .ref q2, n, ds, as, .flip [], rfl, bk2.same s18, ⟨q2, q1, rfl, upd_same, (Same.upd hq2) _ _ upd_same⟩, ok_flip0 n, ok1, by omega, by omega, fun H18 k3 bk2' lat2 => ?_⟩
        have x918 : ExtN H9 H18 := fun x o hx hn => k3 x o (ne_of_none hx f1) (ne_of_none hx f2) (ne_of_none hx f3) (s18 _ _ (x917 x o hx hn))
        have J18 := J9.ext x918 (tabs_but3 (bk2.same s18) k3 (T17.ext s18))
        clear J9 x917 x918 T17 bk2 s18 k3 hq1 hq2 lat2
        obtain ⟨dx2', l3c, ps3, dv3, e3, _⟩ := bk2'.at_
        have e1 := J18.bk.at_
        obtain ⟨dx1', l3d, ps4, dv4, e1, _⟩ := e1
        have ok5 : ∀ x ∈ ds ++ [De.flip []], okD n x := fun x hx => by
          rcases List.mem_append.mp hx with hx | hx
          · exact ok4 x hx
          · rw [List.mem_singleton.mp hx]
            exact ok_flip0 n
        refine ⟨_, rfl, .ref b2, rfl, .inl ⟨b2, m1, m2, n, _, _, rfl, bk2', n0, n1, ok5, by rw [List.length_append, List.length_singleton]; omega, fun H19 s19 => ?_⟩⟩
        have J19 := J18.same s19
        have bk2' := bk2'.same s19
        have e1 := s19 _ _ e1
        have e3 := s19 _ _ e3
        refine ⟨⟨_, rfl⟩, _, rfl, by show 1 ≤ sizeLine; decide, fun r1 hr1 => ?_⟩
        have s20 := Same.upd (o := .lst [V.str "flip"]) hr1
        refine ⟨M, r1, _, _, rfl, rfl, s20 _ _ J19.ln, upd_same, line_small (by rw [List.length_map, List.length_singleton]; omega), fun r2 hr2 => ?_⟩
        have s21 := s20.trans (Same.upd (o := .lst ((linesB n ds).map V.str ++ [V.str "flip"])) hr2)
        have eL : linesB n (ds ++ [De.flip []]) = linesB n ds ++ [("flip" : Str)] := by rw [linesB_snoc, line_flip0]
        have sm5 := loks_small (ls := linesB n (ds ++ [De.flip []])) (fun x hx => by
          obtain ⟨ps, hp, _⟩ := prt_lines n0 n1 ok5 x hx
          exact hp.ok) (by rw [eL, List.length_append, List.length_singleton]; omega)
        refine ⟨_, r2, linesB n (ds ++ [De.flip []]), rfl, rfl, .inl (SqL.of (by rw [upd_same, eL]; simp)), sm5.1, ?_⟩
        refine ⟨rfl, _, rfl, ?_⟩
        have et5 : (!decide (V.str (textB n (ds ++ [De.flip []])) = V.str (Txt.join nl (linesB n (ds ++ [De.flip []]))))) = false := by
          rw [decide_eq_true (show V.str (textB n (ds ++ [De.flip []])) = V.str (Txt.join nl (linesB n (ds ++ [De.flip []]))) from rfl)]
          rfl
        rw [show Txt.join (Str.ofString "\n") (linesB n (ds ++ [De.flip []])) = Txt.join nl (linesB n (ds ++ [De.flip []])) from rfl, et5]
        refine iteF ?_
        have J21 := J19.same s21
        have bk2' := bk2'.same s21
        have e1 := s21 _ _ e1
        have e3 := s21 _ _ e3
        refine ⟨_, rfl, _, rfl, b2, b, dx2', dx1', _, _, rfl, rfl, e3, e1, b2, m1, m2, n, _, _, b, l1, l2, n, ds, as, rfl, bk2', J21.bk, fun H22 s22 => ⟨_, rfl, _, rfl, ?_⟩⟩
        have ec : (decide (n = n) && decide (ds ++ [De.flip []] = ds)) = false := by rw [decide_eq_false (app_neD ds _), Bool.and_false]
        rw [ec]
        refine iteF ?_
        have J22 := J21.same s22
        have e1 := s22 _ _ e1
        clear bk2' e3 s21 s22 J21 J19 J18 s19 s20 hr1 hr2 et5 sm5 eL ok5 f1 f2 f3 ec
        -- the plan's text
        refine ⟨_, rfl, b, dx1', _, rfl, e1, b, l1, l2, n, ds, as, rfl, J22.bk, fun x px => ?_⟩
        dsimp only [tNil]
        refine ⟨.ref x, rfl, .inl ⟨x, n, as, rfl, px, n0, n1, ok1.ok, by omega, fun H23 s23 => ?_⟩⟩
        have J23 := J22.same s23
        have e1 := s23 _ _ e1
        refine ⟨⟨_, rfl⟩, _, rfl, M, _, 0, .str (headS n), rfl, rfl, SqL.of J23.ln, atI_int (by decide) rfl, by show 1 ≤ sizeLine; decide, fun r1 hr1 => ?_⟩
        have J24 := J23.same (Same.upd (o := .lst [V.str (headS n)]) hr1)
        have e1 := (Same.upd (o := .lst [V.str (headS n)]) hr1) _ _ e1
        refine ⟨_, rfl, b, dx1', _, rfl, e1, b, l1, l2, n, ds, as, rfl, J24.bk, fun x px => ?_⟩
        obtain ⟨dxp, tp, yp, ep1, ep2, ep3⟩ := id px
        refine ⟨x, dxp, _, rfl, ep1, x, dxp, _, .ref tp, rfl, ep1, rfl, ?_⟩
        refine ⟨tp, rfl, ⟨_, SqT.of ep2⟩, fun D hD => ?_⟩
        refine lc_tup (K := K) (a := tp) (xs := yp) (fun k H25 => Same (upd H23 r1 (.lst [V.str (headS n)])) H25 ∧ H25 D = some (.lst (((as.take k).map lineS).map V.str))) ⟨Same.upd hD, upd_same⟩ (fun k H25 _ h => SqT.of (h.1 _ _ ep2)) ?_ ?_
        · rintro k2 x2 H25 hx2 ⟨s25, hz⟩
          obtain ⟨ar, har, pa, rfl, hpa⟩ := Ars.get ep3 hx2
          have hpa := s25 _ _ hpa
          have hk2 : k2 < as.length := (List.getElem?_eq_some_iff.mp har).1
          refine ⟨rfl, ?_⟩
          refine ⟨_, rfl, by show 2 ≤ sizeLine; decide, fun q hq => ?_⟩
          have okb := ok1.ok _ (List.mem_of_getElem? har)
          refine ⟨.ref q, rfl, .inr ⟨n, "x", ar, q, pa, rfl, upd_same, (Same.upd hq) _ _ hpa, okb, n1, by decide +kernel, by decide +kernel, fun H26 s26 => ?_⟩⟩
          have s27 := (Same.upd (o := .tup [V.str "x", V.ref pa]) hq).trans s26
          have hll := lineS_len okb n1
          refine ⟨2, rfl, _, rfl, ?_, ?_⟩
          · show (Str.ofString "x" ++ sp ++ lineS ar).cps.size ≤ sizeLine
            have e : (Str.ofString "x" ++ sp ++ lineS ar).cps.size = 2 + (lineS ar).length := by
              rw [← Array.length_toList]
              show (TL.tl (Str.ofString "x" ++ sp ++ lineS ar)).length = _
              rw [TL.tl_append, TL.tl_append, List.length_append, show (TL.tl (Str.ofString "x") ++ TL.tl sp).length = 2 by decide +kernel]
              rfl
            rw [e]
            exact line_small (by omega)
          rw [show (("x" : Str) ++ sp ++ lineS ar) = Str.ofString "x" ++ sp ++ lineS ar from rfl, cut_x]
          refine ⟨_, s27 _ _ hz, small1000 (by rw [List.length_map, List.length_map, List.length_take]; omega), (s25.trans s27).put hD, ?_⟩
          rw [upd_same, List.take_succ, har, List.map_append, List.map_append]
          rfl
        · rintro H25 ⟨s25, hz⟩
          have PL : Pl n as := ⟨n0, n1, ok1.ok, asc, by omega⟩
          rw [ep3.length, List.take_of_length_le (Nat.le_refl _)] at hz
          have J25 := J24.same s25
          have e1 := s25 _ _ e1
          refine ⟨r1, D, _, _, rfl, rfl, s25 _ _ upd_same, hz, line_small (by rw [List.length_singleton, List.length_map, List.length_map]; omega), fun r3 hr3 => ?_⟩
          have s26 := Same.upd (o := .lst ([V.str (headS n)] ++ (as.map lineS).map V.str)) hr3
          have smS := lines_small (ls := linesS n as) (fun l hl => (linesS_mem PL l hl).2) (by rw [linesS_len]; omega)
          refine ⟨_, r3, linesS n as, rfl, rfl, .inl (SqL.of (by rw [upd_same]; rfl)), smS.1, rfl, _, rfl, ?_⟩
          have et6 : (!decide (V.str (textS n as) = V.str (Txt.join (Str.ofString "\n") (linesS n as)))) = false := by
            rw [decide_eq_true (show V.str (textS n as) = V.str (Txt.join (Str.ofString "\n") (linesS n as)) from rfl)]
            rfl
          rw [et6]
          refine iteF ?_
          have J26 := J25.same s26
          have e1 := s26 _ _ e1
          clear J25 J24 J23 J22 s25 s26 s23 hz hr3 hr1 hD px
          refine ⟨_, rfl, b, dx1', _, rfl, e1, b, l1, l2, n, ds, as, rfl, J26.bk, fun x px => ?_⟩
          dsimp only [tNil]
          refine ⟨.ref x, rfl, .inl ⟨x, n, as, rfl, px, n0, n1, ok1.ok, by omega, fun H27 s27 => ?_⟩⟩
          dsimp only [tNil]
          refine read_good PL fun x3 H28 s28 px3 => ?_
          have J28 := (J26.same s27).same s28
          have e1 := s28 _ _ (s27 _ _ e1)
          refine ⟨_, rfl, b, dx1', _, rfl, e1, b, l1, l2, n, ds, as, rfl, J28.bk, fun x4 px4 => ?_⟩
          obtain ⟨dp3, tp3, yp3, eq3, _⟩ := id px3
          obtain ⟨dp4, tp4, yp4, eq4, _⟩ := id px4
          refine ⟨x3, x4, dp3, dp4, _, _, rfl, rfl, eq3, eq4, x3, x4, n, n, as, as, rfl, px3, px4, fun H29 s29 => ⟨_, rfl, _, rfl, ?_⟩⟩
          have ec : ((decide (n = n) && decide (as = as)) != true) = false := by simp
          rw [ec]
          refine iteF ?_
          have J29 := J28.same s29
          clear J28 J26 s27 s28 s29 px px3 px4 eq3 eq4 e1 ep1 ep2 ep3 ec et6
          -- bent texts
          refine ⟨9, rfl, by decide, by decide, for_range (lo := 0) (n := 9) (fun j σ H2 => ∃ v8 v9 v10 v11 v12 v13 v14 : Option V, σ = [u0, some (.int (0 + i)), some (.int n), some (.ref M), v4, v5, v6, v7, v8, v9, v10, v11, v12, v13, v14, some (.ref b2), some (.ref b), some (.ref t)] ∧ BJ K T t l c b l1 l2 M n ds as (linesB n ds) H2) ⟨_, _, _, _, _, _, _, rfl, J29⟩ ?_ ?_⟩
          · rintro j σ H30 hj ⟨v8, v9, v10, v11, v12, v13, v14, rfl, J30⟩
            have hlm : ((linesB n ds).map V.str).length = ds.length + 2 := by rw [List.length_map, hlz]
            refine ⟨_, rfl, _, rfl, M, _, rfl, .inl (SqL.of J30.ln), t, l, c, _, rfl, by rw [hlm]; omega, by rw [hlm]; omega, J30.tp, fun d H31 d0 d1 T31 b31 => ?_⟩
            rw [hlm] at d1
            obtain ⟨S, rfl⟩ := Int.eq_ofNat_of_zero_le d0
            have J31 := J30.but b31 T31
            refine ⟨_, rfl, _, rfl, M, _, rfl, .inl (SqL.of J31.ln), t, l, c, _, rfl, by rw [hlm]; omega, by rw [hlm]; omega, J31.tp, fun d H32 e0 e1 T32 b32 => ?_⟩
            rw [hlm] at e1
            obtain ⟨O, rfl⟩ := Int.eq_ofNat_of_zero_le e0
            have J32 := J31.but b32 T32
            refine ⟨_, rfl, t, l, c, 5, rfl, by decide, by decide, J32.tp, fun way H33 w0 w1 T33 b33 => ⟨_, _, _, rfl, ?_⟩⟩
            have J33 := J32.but b33 T33
            have hS : S < (linesB n ds).length := by omega
            have hO : O < (linesB n ds).length := by omega
            clear J30 J31 J32 T31 T32 T33 b31 b32 b33 d0 e0 d1 e1
            obtain ⟨lS, hlS⟩ : ∃ lx, (linesB n ds)[S]? = some lx := ⟨_, List.getElem?_eq_getElem hS⟩
            obtain ⟨lO, hlO⟩ : ∃ lx, (linesB n ds)[O]? = some lx := ⟨_, List.getElem?_eq_getElem hO⟩
            have atS : atI ((linesB n ds).map V.str) (S : Int) = some (.str lS) := atI_int (by omega) (by rw [show ((S : Nat) : Int).toNat = S by omega, List.getElem?_map, hlS]; rfl)
            have atO : atI ((linesB n ds).map V.str) (O : Int) = some (.str lO) := atI_int (by omega) (by rw [show ((O : Nat) : Int).toNat = O by omega, List.getElem?_map, hlO]; rfl)
            -- a line left out
            refine ⟨_, rfl, _, rfl, S, rfl, M, _, rfl, SqL.of J33.ln, fun r1 hr1 => ?_⟩
            have s34 := Same.upd (o := .lst (cutV ((linesB n ds).map V.str) none (some (S : Int)))) hr1
            have J34 := J33.same s34
            refine ⟨_, rfl, _, rfl, _, _, rfl, rfl, (S : Int) + 1, rfl, M, _, rfl, SqL.of J34.ln, fun r2 hr2 => ?_⟩
            have s35 := Same.upd (o := .lst (cutV ((linesB n ds).map V.str) (some ((S : Int) + 1)) none)) hr2
            have J35 := J34.same s35
            obtain ⟨q1, q2⟩ := cut3 (xs := linesB n ds) (a := S) (b := S + 1) (by omega) (by omega)
            have ei : (S : Int) + 1 = ((S + 1 : Nat) : Int) := by omega
            refine ⟨r1, r2, _, _, rfl, rfl, s35 _ _ upd_same, upd_same, line_small (by rw [q1, ei, q2, List.length_map, List.length_map, List.length_take, List.length_drop]; omega), fun B0 hB0 => ?_⟩
            clear hr2 hr1 s34 s35 J33 J34
            generalize (upd _ r2 _) = H35 at hB0 J35 ⊢
            have J36 := J35.same (Same.upd (o := .lst (cutV ((linesB n ds).map V.str) none (some (S : Int)) ++ cutV ((linesB n ds).map V.str) (some ((S : Int) + 1)) none)) hB0)
            have bn0 : Bent (upd H35 B0 (.lst (cutV ((linesB n ds).map V.str) none (some (S : Int)) ++ cutV ((linesB n ds).map V.str) (some ((S : Int) + 1)) none))) B0 ((linesB n ds).take S ++ [] ++ (linesB n ds).drop (S + 1)) := Bent.of upd_same (by rw [q1, ei, q2, List.append_nil, List.map_append]) lok (fun x h => by cases h) (by omega) (.inl (Nat.le_refl _)) (by omega)
            clear hB0 J35
            generalize (upd H35 B0 _) = H36 at J36 bn0 ⊢
            dsimp only [gName]
            refine seq_alt (fun σ' H' => ∃ (v13 v14 : Option V) (B : Addr) (bs : List Str), σ' = [u0, some (.int (0 + i)), some (.int n), some (.ref M), v4, v5, v6, v7, some (.int (0 + j)), some (.int S), some (.int O), some (.int way), some (.ref B), v13, v14, some (.ref b2), some (.ref b), some (.ref t)] ∧ Bent H' B bs ∧ BJ K T t l c b l1 l2 M n ds as (linesB n ds) H') (fun G hG => ?_) ?_
            · refine ⟨_, rfl, rfl, _, rfl, ite2 (fun hc => ?_) (fun hc => ?_)⟩
              · -- a line twice
                refine ⟨_, rfl, _, rfl, _, _, rfl, rfl, (S : Int) + 1, rfl, M, _, rfl, SqL.of J36.ln, fun r3 hr3 => ?_⟩
                have s37 := Same.upd (o := .lst (cutV ((linesB n ds).map V.str) none (some ((S : Int) + 1)))) hr3
                have J37 := J36.same s37
                refine ⟨_, rfl, _, rfl, S, rfl, M, _, rfl, SqL.of J37.ln, fun r4 hr4 => ?_⟩
                have s38 := Same.upd (o := .lst (cutV ((linesB n ds).map V.str) (some (S : Int)) none)) hr4
                have J38 := J37.same s38
                obtain ⟨q1, q2⟩ := cut3 (xs := linesB n ds) (a := S + 1) (b := S) (by omega) (by omega)
                refine ⟨r3, r4, _, _, rfl, rfl, s38 _ _ upd_same, upd_same, line_small (by rw [ei, q1, q2, List.length_map, List.length_map, List.length_take, List.length_drop]; omega), fun B1 hB1 => ?_⟩
                exact hG _ _ ⟨_, _, B1, (linesB n ds).take (S + 1) ++ [] ++ (linesB n ds).drop S, rfl, Bent.of upd_same (by rw [ei, q1, q2, List.append_nil, List.map_append]) lok (fun x h => by cases h) (by omega) (.inl (Nat.le_refl _)) (by omega), J38.same (Same.upd hB1)⟩
              · refine ⟨_, rfl, rfl, _, rfl, ite2 (fun hc2 => ?_) (fun hc2 => ?_)⟩
                · -- two lines exchanged
                  refine ⟨_, rfl, M, _, rfl, .inl (SqL.of J36.ln), fun B1 hB1 => ?_⟩
                  have s37 := Same.upd (o := .lst ((linesB n ds).map V.str)) hB1
                  have J37 := J36.same s37
                  have hB37 : (upd H36 B1 (.lst ((linesB n ds).map V.str))) B1 = some (.lst ((linesB n ds).map V.str)) := upd_same
                  refine ⟨_, rfl, _, rfl, M, _, O, .str lO, rfl, rfl, SqL.of J37.ln, atO, _, rfl, _, rfl, M, _, S, .str lS, rfl, rfl, SqL.of J37.ln, atS, by show 2 ≤ sizeLine; decide, fun q hq => ?_⟩
                  have hB38 := (Same.upd (o := .tup [V.str lO, V.str lS]) hq) _ _ hB37
                  refine ⟨q, _, rfl, SqT.of upd_same, rfl, _, _, rfl, _, rfl, _, rfl, B1, _, (S : Int), S, rfl, rfl, hB38, ixN_nat (by omega), ?_⟩
                  refine ⟨_, _, rfl, _, rfl, _, rfl, B1, _, (O : Int), O, rfl, rfl, upd_same, ixN_nat (by rw [List.length_set]; omega), rfl, ?_⟩
                  exact hG _ _ ⟨_, _, B1, ((linesB n ds).set S lO).set O lS, rfl, Bent.swap upd_same rfl lok (by omega) (List.mem_of_getElem? hlO) (List.mem_of_getElem? hlS), J36.same (((s37.trans (Same.upd hq)).put hB1).put hB1)⟩
                · refine ⟨_, rfl, _, _, rfl, rfl, _, rfl, ite2 (fun hc3 => ?_) (fun hc3 => ?_)⟩
                  · -- an odd line
                    have sp1 : (Str.ofString " ").length = 1 := by decide +kernel
                    have hlS2 := (lok _ (List.mem_of_getElem? hlS)).len
                    refine ⟨_, rfl, ?_⟩
                    refine ⟨_, rfl, _, rfl, M, _, (S : Int), .str lS, rfl, rfl, SqL.of J36.ln, atS, _, _, rfl, rfl, Nat.le_trans (m := 2001) (by rw [sp1]; omega) (by decide), ?_⟩
                    refine ⟨_, rfl, _, rfl, M, _, (S : Int), .str lS, rfl, rfl, SqL.of J36.ln, atS, _, _, rfl, rfl, Nat.le_trans (m := 2001) (by rw [sp1]; omega) (by decide), ?_⟩
                    refine ⟨(by show 12 ≤ sizeLine; decide), fun q hq => ?_⟩
                    have nq := notT J36.tp hq
                    have sq := Same.upd (o := .lst ((oddB lS).map V.str)) hq
                    have J37 := J36.same sq
                    refine ⟨t, l, c, q, (oddB lS).map V.str, rfl, SqL.of upd_same, by simp [oddB], by rw [List.length_map]; show 12 < 1073741824; decide, nq.1, nq.2, J37.tp, fun io vo H38 hvo T38 b38 => ?_⟩
                    have J38 := J37.but b38 T38
                    obtain ⟨o, ho, rfl⟩ := map_get hvo
                    have ho : o ∈ oddB lS := List.mem_of_getElem? ho
                    clear J37 sq hq T38 b38
                    refine ⟨_, rfl, _, rfl, S, rfl, M, _, rfl, SqL.of J38.ln, fun r1 hr1 => ?_⟩
                    have s39 := Same.upd (o := .lst (cutV ((linesB n ds).map V.str) none (some (S : Int)))) hr1
                    have J39 := J38.same s39
                    refine ⟨_, rfl, by show 1 ≤ sizeLine; decide, fun r2 hr2 => ?_⟩
                    have s40 := Same.upd (o := .lst [V.str o]) hr2
                    have J40 := J39.same s40
                    refine ⟨r1, r2, _, _, rfl, rfl, s40 _ _ upd_same, upd_same, line_small (by rw [q1, List.length_map, List.length_take, List.length_singleton]; omega), fun r3 hr3 => ?_⟩
                    have s41 := Same.upd (o := .lst (cutV ((linesB n ds).map V.str) none (some (S : Int)) ++ [V.str o])) hr3
                    have J42 := J40.same s41
                    refine ⟨_, rfl, _, rfl, _, rfl, rfl, _, rfl, ite2 (fun hc4 => ?_) (fun hc4 => ?_)⟩
                    · refine ⟨_, _, rfl, rfl, (S : Int) + 1, rfl, M, _, rfl, SqL.of J42.ln, fun r4 hr4 => ?_⟩
                      have s43 := Same.upd (o := .lst (cutV ((linesB n ds).map V.str) (some ((S : Int) + 1)) none)) hr4
                      have J43 := J42.same s43
                      have ej : (S : Int) + 1 = ((S + 1 : Nat) : Int) := by omega
                      obtain ⟨q1, q2⟩ := cut3 (xs := linesB n ds) (a := S) (b := S + 1) (by omega) (by omega)
                      refine ⟨r3, r4, _, _, rfl, rfl, s43 _ _ upd_same, upd_same, line_small (by rw [q1, ej, q2, List.length_append, List.length_map, List.length_map, List.length_take, List.length_drop, List.length_singleton]; omega), fun B1 hB1 => ?_⟩
                      exact hG _ _ ⟨_, _, B1, (linesB n ds).take S ++ [o] ++ (linesB n ds).drop (S + 1), rfl, Bent.of upd_same (by rw [q1, ej, q2, List.map_append, List.map_append]; rfl) lok (fun x h => by rw [List.mem_singleton.mp h]; exact oddB_ok n0 n1 ok4 (List.mem_of_getElem? hlS) ho) (by omega) (.inr rfl) (by omega), J43.same (Same.upd hB1)⟩
                    · refine ⟨_, _, rfl, rfl, (S : Int) + 0, rfl, M, _, rfl, SqL.of J42.ln, fun r4 hr4 => ?_⟩
                      have s43 := Same.upd (o := .lst (cutV ((linesB n ds).map V.str) (some ((S : Int) + 0)) none)) hr4
                      have J43 := J42.same s43
                      have ej : (S : Int) + 0 = ((S + 0 : Nat) : Int) := by omega
                      obtain ⟨q1, q2⟩ := cut3 (xs := linesB n ds) (a := S) (b := S + 0) (by omega) (by omega)
                      refine ⟨r3, r4, _, _, rfl, rfl, s43 _ _ upd_same, upd_same, line_small (by rw [q1, ej, q2, List.length_append, List.length_map, List.length_map, List.length_take, List.length_drop, List.length_singleton]; omega), fun B1 hB1 => ?_⟩
                      exact hG _ _ ⟨_, _, B1, (linesB n ds).take S ++ [o] ++ (linesB n ds).drop (S + 0), rfl, Bent.of upd_same (by rw [q1, ej, q2, List.map_append, List.map_append]; rfl) lok (fun x h => by rw [List.mem_singleton.mp h]; exact oddB_ok n0 n1 ok4 (List.mem_of_getElem? hlS) ho) (by omega) (.inr rfl) (by omega), J43.same (Same.upd hB1)⟩
                  · exact hG _ _ ⟨_, _, B0, _, rfl, bn0, J36⟩
            · rintro σ' H37 ⟨v13', v14', B1, bs, rfl, bn1, J37⟩
              refine seq_alt (fun σ' H' => ∃ (v13 v14 : Option V) (B : Addr) (l0 : Str) (bs : List Str), σ' = [u0, some (.int (0 + i)), some (.int n), some (.ref M), v4, v5, v6, v7, some (.int (0 + j)), some (.int S), some (.int O), some (.int way), some (.ref B), v13, v14, some (.ref b2), some (.ref b), some (.ref t)] ∧ Bent H' B (l0 :: bs) ∧ BJ K T t l c b l1 l2 M n ds as (linesB n ds) H') (fun G hG => ?_) ?_
              · refine ⟨_, rfl, by decide, fun e he => ?_⟩
                have s38 := Same.upd (o := .lst []) he
                refine ⟨.list (bs.map .str), .list [], dp_strs (SqL.of (s38 _ _ bn1.at_)), dp_nil (SqL.of upd_same), shaped_strs fun x hx => (bn1.ok x hx).lay0, shaped_nil, _, rfl, ?_⟩
                rw [eqv_nilL]
                cases bs with
                | nil =>
                  refine iteF ⟨by show 1 ≤ sizeLine; decide, fun B2 hB2 => ?_⟩
                  exact hG _ _ ⟨_, _, B2, "", [], rfl, ⟨upd_same, fun x hx => by rw [List.mem_singleton.mp hx]; exact lok_by (by decide +kernel), by show 1 ≤ 20; decide⟩, (J37.same s38).same (Same.upd hB2)⟩
                | cons l0 bs => exact iteT ⟨_, rfl, hG _ _ ⟨_, _, B1, l0, bs, rfl, ⟨s38 _ _ bn1.at_, bn1.ok, bn1.n⟩, J37.same s38⟩⟩
              · rintro σ' H38 ⟨v13', v14', B2, l0, bs, rfl, bn, J38⟩
                clear bn1 J37 bn0 J36
                have smb := loks_small bn.ok (Nat.le_trans bn.n (by decide))
                have splb := loks_split (by simp) bn.ok
                refine ⟨_, rfl, ?_⟩
                dsimp only [tNil]
                refine ⟨B2, l0 :: bs, rfl, bn.at_, by simp, Nat.le_trans bn.n (by decide), fun x hx => ⟨Nat.le_trans (Nat.add_le_add_right (bn.ok x hx).len 2) (by decide), Nat.le_trans (bn.ok x hx).sp (by decide), (bn.ok x hx).lay⟩, fun jj H39 s39 hat => ?_⟩
                have J39 := J38.same s39
                have hb39 := s39 _ _ bn.at_
                refine ⟨⟨_, rfl⟩, _, rfl, _, B2, l0 :: bs, rfl, rfl, .inl (SqL.of hb39), smb.1, ?_⟩
                dsimp only [tNil]
                refine ⟨_, rfl, J39.tb, .inr ⟨_, l0, bs, rfl, smb.2, splb, by have := bn.n; rw [List.length_cons] at this; omega, fun j2 H40 hat2 x40 T40 => ?_⟩⟩
                have J40 := J39.ext x40 T40
                have ej := AtL.uniq hat2 hat
                subst ej
                refine ⟨_, rfl, rfl, _, rfl, ?_⟩
                by_cases hj : j2 = -1
                · subst hj
                  rw [show (if (-1 : Int) = -1 then V.non else V.int (-1)) = V.non from if_pos rfl]
                  refine ite2 (fun _ => ⟨1, rfl, rfl, _, rfl, ?_⟩) (fun h => absurd (by simp) h)
                  rw [show (!decide (V.int (-1) = V.int (-1))) = false from by simp]
                  exact iteF ⟨_, _, _, _, _, _, _, rfl, J40⟩
                · rw [if_neg hj]
                  refine ite2 (fun h => ?_) (fun _ => ⟨_, rfl, rfl, _, rfl, ?_⟩)
                  · simp at h
                  rw [show (!decide (V.int j2 = V.int j2)) = false from by simp]
                  exact iteF ⟨_, _, _, _, _, _, _, rfl, J40⟩
          · rintro σ H30 ⟨v8, v9, v10, v11, v12, v13, v14, rfl, J30⟩
            clear J29
            -- no text at all
            refine ⟨_, rfl, _, rfl, (by show 3 ≤ sizeLine; decide), fun q hq => ?_⟩
            have nq := notT J30.tp hq
            have J31 := J30.same (Same.upd (o := .lst [V.non, V.int 5, V.ref M]) hq)
            refine ⟨t, l, c, q, _, rfl, SqL.of upd_same, by simp, by show 3 < 1073741824; decide, nq.1, nq.2, J31.tp, fun io vo H32 hvo T32 b32 => ?_⟩
            have J32 := J31.but b32 T32
            dsimp only [tNil]
            have bad : ∃ ty, (∀ H', ExtN H32 H' → TyX K H' vo ty) ∧ PySem.W.kitOne K ty (.type "str") = some false := by
              match io, hvo with
              | 0, hvo => rw [← Option.some.inj hvo]; exact ⟨_, fun _ _ => .base .non, by with_unfolding_all rfl⟩
              | 1, hvo => rw [← Option.some.inj hvo]; exact ⟨_, fun _ _ => .base (.int 5), by with_unfolding_all rfl⟩
              | 2, hvo => rw [← Option.some.inj hvo]; exact ⟨_, fun _ x => .base (.lst (x _ _ J32.ln (by intro ps z; cases z))), by with_unfolding_all rfl⟩
              | io + 3, hvo => simp at hvo
            obtain ⟨ty, hty, hkit⟩ := bad
            refine ⟨vo, rfl, J32.tb, .inl ⟨ty, hty, hkit, fun H33 x33 T33 => ?_⟩⟩
            have J33 := J32.ext x33 T33
            refine ⟨rfl, _, rfl, ?_⟩
            rw [show (!decide (V.non = V.non)) = false from by simp]
            refine iteF ?_
            clear J30 J31 J32 b32 T32 hq x33
            -- no book at all
            refine ⟨J33.tb, fun H34 x34 T34 => ?_⟩
            have J34 := J33.ext x34 T34
            obtain ⟨dx5, l35, ps5, dv5, e5, _⟩ := J34.bk.at_
            refine ⟨_, rfl, _, rfl, b, dx5, _, rfl, e5, b, l1, l2, n, ds, as, rfl, J34.bk, fun x5 px5 => ?_⟩
            refine ⟨(by show 3 ≤ sizeLine; decide), fun q hq => ?_⟩
            have nq := notT J34.tp hq
            have J35 := J34.same (Same.upd (o := .lst [V.non, V.int 5, V.ref x5]) hq)
            have px6 := px5.same (Same.upd (o := .lst [V.non, V.int 5, V.ref x5]) hq)
            refine ⟨t, l, c, q, _, rfl, SqL.of upd_same, by simp, by show 3 < 1073741824; decide, nq.1, nq.2, J35.tp, fun io vo H36 hvo T36 b36 => ?_⟩
            have J36 := J35.but b36 T36
            dsimp only [tNil]
            have bad : ∃ ty, TyX K H36 vo ty ∧ PySem.W.kitOne K ty (.ref (cB K)) = some false := by
              match io, hvo with
              | 0, hvo => rw [← Option.some.inj hvo]; exact ⟨_, .base .non, B.nNone⟩
              | 1, hvo => rw [← Option.some.inj hvo]; exact ⟨_, .base (.int 5), B.nInt⟩
              | 2, hvo =>
                rw [← Option.some.inj hvo]
                exact ⟨_, ty_plan C (plan_but px6 J35.tp b36), B.nPlan⟩
              | io + 3, hvo => simp at hvo
            obtain ⟨ty, hty, hkit⟩ := bad
            refine ⟨vo, rfl, .inr ⟨ty, hty, hkit, fun H37 s37 => ?_⟩⟩
            refine ⟨true, W.exN, fun _ ex hex => ?_, fun z => nomatch z⟩
            have J37 := J36.same (s37.trans (Same.upd (o := ExV (.ref (cN K)) none ex) hex))
            refine .inl ⟨ex, cN K, none, _, .ref (cN K), _, true, rfl, .own _, upd_same, .inl ⟨rfl, rfl⟩, W.xcN, kit_same, _, rfl, iteF ?_⟩
            exact ⟨_, _, _, _, _, _, _, _, _, _, _, _, _, _, _, _, _, rfl, J37.tp, J37.tb⟩
    · rintro σ H2 ⟨u0, u1, u2, u3, u4, u5, u6, u7, u8, u9, u10, u11, u12, u13, u14, u15, u16, rfl, T2, hT2⟩
      refine fun b dx hb hdx hne => ⟨b, dx, 2, rfl, upd_same, by decide, by decide, fun l1 l2 H4 kp hl1 hl2 n12 bk lat => ⟨rfl, ?_⟩⟩
      have sN : Same H2 (upd (upd H2 dx (.own b)) b (.ins (cB K) dx [])) := (Same.upd hdx).trans (Same.upd (by rw [upd_ne (Ne.symm hne)]; exact hb))
      have s4 : Same H2 H4 := fun x o hx => kp _ _ (ne_of_none hx hb) (sN _ _ hx)
      have hT4 := hT2.ext s4
      obtain ⟨dx1, l31, ps1, dv1, e1, _⟩ := bk.at_
      refine ⟨_, rfl, b, dx1, _, rfl, e1, rfl, 1, rfl, by show 3 ≤ sizeLine; decide, fun p1 hp1 => ⟨by show 2 ≤ sizeLine; decide, fun p2 hp2 => ?_⟩⟩
      have s5 := (Same.upd (o := .tup [V.int 0, V.int 1, V.int (-1)]) hp1).trans (Same.upd (o := .tup [.str "may", .ref p1]) hp2)
      refine ⟨b, l1, l2, .ref p2, 2, [], [], .arr true a01, rfl, bk.same s5, ⟨p2, p1, rfl, upd_same, (Same.upd hp2) _ _ upd_same⟩, right_1, pl_nil (by decide) (by decide), by decide, by decide, fun H5 k5 bk5 lat5 => ?_⟩
      rw [next_1] at bk5
      have T5 := tabs_but3 (bk.same s5) k5 (hT4.ext s5)
      obtain ⟨dx2, l32, ps2, dv2, e2, _⟩ := bk5.at_
      refine ⟨_, rfl, b, dx2, _, rfl, e2, rfl, 1, rfl, by show 3 ≤ sizeLine; decide, fun p3 hp3 => ⟨by show 2 ≤ sizeLine; decide, fun p4 hp4 => ?_⟩⟩
      have s6 := (Same.upd (o := .tup [V.int 1, V.int 0, V.int (-1)]) hp3).trans (Same.upd (o := .tup [.str "may", .ref p3]) hp4)
      have pl1 : PlOk 2 [a01] := by
        have h := (next_ok (pl_nil (n := 2) (by decide) (by decide)) right_1).1
        rw [next_1] at h
        exact h
      refine ⟨b, l1, l2, .ref p4, 2, _, [a01], .arr true a10, rfl, bk5.same s6, ⟨p4, p3, rfl, upd_same, (Same.upd hp4) _ _ upd_same⟩, right_2, pl1, by decide, by decide, fun H6 k6 bk6 lat6 => ?_⟩
      rw [next_2] at bk6
      have T6 := tabs_but3 (bk5.same s6) k6 (T5.ext s6)
      clear s4 s5 s6 k5 k6 lat6 lat5 bk5 bk kp sN e1 e2 T5 hT4
      refine ⟨_, rfl, .ref b, rfl, .inl ⟨b, l1, l2, 2, _, _, rfl, bk6, by decide, by decide, fun d hd => ?_, by decide, fun H7 s7 => ⟨rfl, ?_⟩⟩⟩
      · rcases List.mem_append.mp hd with hd | hd
        · rw [List.mem_singleton.mp hd]; exact ok01.1
        · rw [List.mem_singleton.mp hd]; exact ok01.2
      rw [decide_eq_true (show V.str (textB 2 ([] ++ [De.arr true a01] ++ [De.arr true a10])) = V.str (Str.ofString "switches 2\nbook\nmay 0 hinders 1\nmay 1 hinders 0") from congrArg V.str told_text)]
      refine ⟨true, rfl, iteT ?_⟩
      have bk7 := bk6.same s7
      obtain ⟨dx7, l37, ps7, dv7, e7, _⟩ := bk7.at_
      refine ⟨_, rfl, b, dx7, _, rfl, e7, b, l1, l2, 2, _, _, rfl, bk7, fun x px => ?_⟩
      refine ⟨1, rfl, by show 3 ≤ sizeLine; decide, fun p5 hp5 => ⟨1, rfl, by show 3 ≤ sizeLine; decide, fun p6 hp6 => ⟨by show 2 ≤ sizeLine; decide, fun L hL => fun y dy hy hdy hne2 => ?_⟩⟩⟩
      have s8a := Same.upd (o := .tup [V.int 1, V.int 0, V.int (-1)]) hp5
      have s8b := Same.upd (o := .tup [V.int 0, V.int 1, V.int (-1)]) hp6
      have s8c := Same.upd (o := .lst [V.ref p5, V.ref p6]) hL
      refine mk_plan (bs := [a10, a01]) hy hdy hne2 upd_same (.cons ⟨p5, rfl, s8c _ _ (s8b _ _ upd_same)⟩ (.cons ⟨p6, rfl, s8c _ _ upd_same⟩ .nil)) (by decide) (by decide) (fun a ha => ?_) (by unfold a10 a01; decide) (by show 2 < 1000; decide) fun H8 s8 px8 => ?_
      · simp only [List.mem_cons, List.not_mem_nil, or_false] at ha
        rcases ha with ha | ha <;> rw [ha]
        · exact ok01.2
        · exact ok01.1
      have s78 := ((s8a.trans s8b).trans s8c).trans s8
      have px := px.same s78
      obtain ⟨dpx, tpx, ypx, ex, _⟩ := id px
      obtain ⟨dpy, tpy, ypy, ey, _⟩ := id px8
      refine ⟨x, y, dpx, dpy, _, _, rfl, rfl, ex, ey, x, y, 2, 2, _, _, rfl, px, px8, fun H9 s9 => ⟨_, rfl, ?_⟩⟩
      have ec : (decide ((2 : Int) = 2) && decide ([a01, a10] = [a10, a01].mergeSort le3)) = true := by
        rw [show [a10, a01].mergeSort le3 = [a01, a10] from told_sort]
        simp
      rw [ec]
      refine ⟨true, rfl, iteT ?_⟩
      have bk9 := (bk7.same s78).same s9
      refine ⟨_, rfl, ?_⟩
      dsimp only [tNil]
      refine .inr ⟨.ref b, .ref (He.ga K "NetError"), _, _, false, rfl, .own _, ty_book B bk9, hnet, ?_⟩
      exact ⟨false, rfl, k H9⟩
end
end K24
set_option maxHeartbeats 4000000
/-! E15: sorted(xs, key=lambda p: (len(p), p)) over tuples of data. -/
namespace L2
open PySem PySem.Spec PyProof.Rows PySem.EX
open LamX (CodeO ExtN Tabs TabB LamS lamEnv lam_make2)
open PySem.W (EachIs AllAlike Sortable dataLe KeyPure sorted_key_data)
/-- a datum that reads off no list -/
def NoL (d : PyData) : Prop := ∀ (h : Heap) (v : Value) (as : List Addr), Reads h v d as → as = []
theorem NoL.int (i : Int) : NoL (.int i) := fun _ _ _ r => by cases r; rfl
theorem NoL.str (x : Str) : NoL (.str x) := fun _ _ _ r => by cases r; rfl
theorem noL_all : ∀ {ds : List PyData}, (∀ d ∈ ds, NoL d) → ∀ (h : Heap) (vs : List Value) (as : List Addr), ReadsAll h vs ds as → as = []
  | [], _, _, _, _, r => by cases r; rfl
  | d :: ds, H, h, _, _, r => by
    cases r with
    | cons h1 h2 =>
      rw [H d List.mem_cons_self _ _ _ h1, noL_all (fun x hx => H x (List.mem_cons_of_mem _ hx)) _ _ _ h2]
      rfl
theorem NoL.tup {ds : List PyData} (H : ∀ d ∈ ds, NoL d) : NoL (.tuple ds) := fun h v as r => by
  cases r with
  | tuple h1 h2 h3 h4 => exact noL_all H _ _ _ h4
theorem readsAll_len : ∀ {ds : List PyData} {h : Heap} {vs : List Value} {as : List Addr}, ReadsAll h vs ds as → vs.length = ds.length
  | [], _, _, _, r => by cases r; rfl
  | d :: ds, _, _, _, r => by
    cases r with
    | cons h1 h2 => rw [List.length_cons, List.length_cons, readsAll_len h2]
/-- the key of a tuple: its length, then itself -/
def keyD (ds : List PyData) : PyData := .tuple [.int ds.length, .tuple ds]
def kArgs (p : Str) (a1 : Pos) : Arguments := { posonlyargs := [], args := [{ arg := p, annotation := none, pos := a1 }], vararg := none, kwonlyargs := [], kw_defaults := [], kwarg := none, defaults := [] }
def kBody (p : Str) (x1 : Nat) (q1 q2 q3 q4 q5 : Pos) : Expr := .Tuple [.Call (.Name "len" q1) [.Name p q2] [] q3, .Name p q4] x1 q5
def kScope (p : Str) : Scope := { kind := .function, names := [(p, .local), (PySem.Str.ofString "len", .globalImplicit)], isGenerator := false, isCoroutine := false, more := [] }
section
variable {X : Cx} {pins : List (Addr × Obj)} {σ : St} {H : Hp} {s : Shared}
theorem key_turn {f c' : Addr} {pm ctv : Value} {p q : Str} {a1 q1 q2 q3 q4 q5 : Pos} {x1 : Nat} {ds : List PyData} {h : Heap} {tk : Nat} (I : Inv X pins σ H s) (hf : s.heap.get? f = some (PySem.W.kla_obj "<lambda>" q (kArgs p a1) (kBody p x1 q1 q2 q3 q4 q5) (kScope p) [] pm c' ctv))
    (hc : s.heap.CodeRec (.ref c') q) (hm : X.mg "len" = none) (hp : (p == ("__debug__" : Str)) = false) (hpl : (p == ("len" : Str)) = false) (room : X.A.depth < recursionLimit) (hl : ds.length ≤ 1000) (hn : NoL (.tuple ds)) {v : Value} {as : List Addr} (hr : Reads s.heap v (.tuple ds) as)
    (hbind : bindArgs (PySem.W.kla_fn "<lambda>" q (kArgs p a1) (kBody p x1 q1 q2 q3 q4 q5) (kScope p) [] pm (.ref c') ctv) ⟨[v], []⟩ = pure [(p, v)])
    (kp : ∀ b o, s.heap.get? b = some o → h.get? b = some o) :
    wpAny (model X.prog X.w) X.A.in1.in1 (call (.ref f) [v]) (KeyPure (keyD ds) { s with heap := h, toks := tk }) (fun _ _ => False) { s with heap := h, toks := tk } := by
  have hr' := PyProof.Rows.Reads.keeps kp hr
  have has := hn _ _ _ hr
  subst has
  obtain ⟨c2, oc, vs, tt, e2, hoc, hdc, hvc⟩ := hc
  have lim : h.NoLimit := I.nolimit.keeps kp
  have G : h.Ns mainGlobals X.mg := (I.mod.glob.keeps I.bk).keeps kp
  obtain ⟨mb, B1, B2⟩ := I.mod.blt
  have B : h.Ns builtinsNs mb := (B1.keeps I.bk).keeps kp
  have hb : mb "len" = some (.builtin "len") := (B2 "len" (by decide)).trans PySem.boot_len
  refine wpAny_call (PySem.W.kla_callFunE (body := kBody p x1 q1 q2 q3 q4 q5) (by exact room) (kp _ _ hf) rfl rfl rfl rfl ⟨c2, oc, vs, tt, e2, kp _ _ hoc, hdc, hvc⟩ ?_)
  rw [hbind]
  have lk1 : (kScope p).names.lookup p = some .local := by
    show ((p, NameKind.local) :: [(PySem.Str.ofString "len", NameKind.globalImplicit)]).lookup p = _
    rw [List.lookup_cons, beq_self_eq_true]
  have hpl' : (("len" : Str) == p) = false := by
    cases e : (("len" : Str) == p) with
    | false => rfl
    | true =>
      rw [← (beq_iff_eq.mp e)] at hpl
      rw [beq_self_eq_true] at hpl
      cases hpl
  have lk2 : (kScope p).names.lookup ("len" : Str) = some .globalImplicit := by
    show ((p, NameKind.local) :: [(PySem.Str.ofString "len", NameKind.globalImplicit)]).lookup ("len" : Str) = _
    rw [List.lookup_cons, hpl']
    rfl
  refine wpAny_pure (wpAny_newFunctionEnv (fun y hy => ?_) (fun y hy => ?_) (fun h₁ hns hsb => ⟨lim.fresh _ hsb, ?_⟩) rfl)
  · have hy' : y ∈ [(p, NameKind.local), (PySem.Str.ofString "len", NameKind.globalImplicit)] := hy
    simp only [List.mem_cons, List.not_mem_nil, or_false] at hy'
    rcases hy' with e | e <;> rw [e] <;> exact fun z => by cases z
  · rw [List.mem_singleton.mp hy]
    exact lk1
  · show codeAny _ _ (.expr (kBody p x1 q1 q2 q3 q4 q5) (PySem.W.envX q (kScope p) h.objs.size f (.ref c') [])) _ _
    have k1 : ∀ b o, h.get? b = some o → h₁.get? b = some o := fun b o e => hsb.extBut b o (Nat.ne_of_lt (Heap.lt_size e)) (Heap.get?_push_of_some _ e)
    have G1 : h₁.Ns mainGlobals X.mg := G.keeps k1
    have B3 : h₁.Ns builtinsNs mb := B.keeps k1
    have hr1 := PyProof.Rows.Reads.keeps k1 hr'
    refine PySem.W.kla_codeExpr ?_
    unfold kBody
    have ldp : ∀ {h2 : Heap} {tk2 : Nat} {pos : Pos} {Q : Value → Shared → Prop} {E : Value → Shared → Prop} {A : Around}, (∀ b o, h₁.get? b = some o → h2.get? b = some o) → Q v { s with heap := h2, toks := tk2 } → wpAny (model X.prog X.w) A (eval (.Name p pos) (PySem.W.envX q (kScope p) h.objs.size f (.ref c') [])) Q E { s with heap := h2, toks := tk2 } := by
      intro h2 tk2 pos Q E A k2 hq
      have hns2 : h2.Ns h.objs.size fun x => ([(p, v)] : List (Str × Value)).reverse.lookup x := hns.keeps k2
      refine ldC hns2 (v := v) ?_ hq rfl lk1 hp
      show ([(p, v)] : List (Str × Value)).lookup p = _
      rw [List.lookup_cons, beq_self_eq_true]
    refine PySem.wpAny_Tuple_spliced ?_
    show wpAny _ _ (spliced ((false, eval (.Call (.Name "len" q1) [.Name p q2] [] q3) _) :: backTo q5 (starEach [.Name p q4] _))) _ _ _
    refine Calls.spliced_cons (wpAny_Call_Name_kw (Calls.Name_function_global rfl lk2 (Calls.loadGlobal_builtin G1 hm B3 hb ?_)))
    refine Calls.callWith_builtin rfl ?_
    refine Calls.evalArgs_plain ?_
    refine Calls.spliced_cons (ldp (fun _ _ e => e) ?_)
    refine Calls.spliced_nil ?_
    cases hr1 with
    | @tuple t o vs2 n _ _ h1 h2 h3 h4 =>
      have hsz : vs2.size = ds.length := by rw [← readsAll_len h4, Array.length_toList]
      have hT : IsTup h₁ t vs2 := ⟨o, h1, h2, n, h3⟩
      refine PyProof.Rows.len_tuple hT (by rw [hsz]; omega) ?_
      refine Calls.spliced_cons (ldp (fun _ _ e => e) ?_)
      refine Calls.spliced_nil ⟨(by show 2 ≤ sizeLine; decide), ?_⟩
      refine ⟨_, _, rfl, fun b o e => Heap.get?_push_of_some _ (k1 _ _ e), ?_⟩
      refine .tuple (o := { cls := .type "tuple", data := .seq [_, _].toArray }) (vs := [_, _].toArray) (n := 0) (as := [] ++ ([] ++ [])) (Heap.get?_push_size _ rfl) rfl rfl ?_
      rw [← hsz]
      exact .cons (.int _ _) (.cons (PyProof.Rows.Reads.keeps (fun _ _ e => Heap.get?_push_of_some _ e) (.tuple h1 h2 h3 h4)) .nil)
theorem ExtN.seqT {K : PySem.W.Frag} {H H' : Hp} {a : Addr} {xs : List V} (e : ExtN H H') (h : SqT K H a xs) : SqT K H' a xs := by
  rcases h with (h | ⟨o, h⟩) | h
  · exact .inl (.inl (e _ _ h (by intro ps z; cases z)))
  · exact .inl (.inr ⟨o, e _ _ h (by intro ps z; cases z)⟩)
  · exact .inr h
mutual
theorem dp_ext {K : PySem.W.Frag} {H H' : Hp} (e : ExtN H H') : ∀ (d : PyData) (v : V), Dp K H v d → Dp K H' v d
  | .none, _, h => by cases h; exact .non
  | .bool _, _, h => by cases h; exact .bl _
  | .int _, _, h => by cases h; exact .int _
  | .str _, _, h => by cases h; exact .str _
  | .list ds, _, h => by
    cases h with
    | lst h1 h2 => exact .lst (ExtN.seq e h1) (dp_extAll e ds _ h2)
  | .tuple ds, _, h => by
    cases h with
    | tup h1 h2 => exact .tup (ExtN.seqT e h1) (dp_extAll e ds _ h2)
  | .dict _, _, h => by cases h
theorem dp_extAll {K : PySem.W.Frag} {H H' : Hp} (e : ExtN H H') : ∀ (ds : List PyData) (vs : List V), DpAll K H vs ds → DpAll K H' vs ds
  | [], _, h => by cases h; exact .nil
  | d :: ds, _, h => by
    cases h with
    | cons h1 h2 => exact .cons (dp_ext e d _ h1) (dp_extAll e ds _ h2)
end
/-- sorted(xs, key=lambda p: (len(p), p)) -/
def tKeyL (K : PySem.W.Frag) (T : List (Addr × Str)) (te : TE) : TE := fun σ H Q => te σ H fun v H1 => Tabs T H1 ∧ ∃ (a : Addr) (bs : List (V × List PyData)), v = .ref a ∧ SqL K H1 a (bs.map (·.1)) ∧ (∀ b ∈ bs, Dp K H1 b.1 (.tuple b.2) ∧ NoL (.tuple b.2) ∧ b.2.length ≤ 1000 ∧ (PyData.tuple b.2).depth ≤ 7) ∧ AllAlike (bs.map fun b => keyD b.2) ∧
  ∀ H2, ExtN H1 H2 → Tabs T H2 → ∀ p, H2 p = none → Q (.ref p) (upd H2 p (.lst ((bs.mergeSort (dataLe false fun b => keyD b.2)).map (·.1))))
theorem each_valsK : ∀ {bs : List (V × List PyData)} {us : List Value}, Vals (bs.map (·.1)) us → EachIs (fun v (b : V × List PyData) => RelV b.1 v) us bs
  | [], _, r => by
    have r' : Vals [] _ := r
    cases r'
    exact .nil
  | b :: bs, _, r => by
    have r' : Vals (b.1 :: bs.map (·.1)) _ := r
    cases r' with
    | cons h t => exact .cons h (each_valsK t)
theorem vals_eachK : ∀ {bs : List (V × List PyData)} {us : List Value}, EachIs (fun v (b : V × List PyData) => RelV b.1 v) us bs → Vals (bs.map (·.1)) us
  | _, _, .nil => .nil
  | _, _, .cons h t => .cons h (vals_eachK t)
end
section
variable {X : Cx}
theorem pe_sortKey {T : List (Addr × Str)} {c P : Addr} {p : Str} {e : Expr} {te : TE} {a1 q1 q2 q3 q4 q5 sp lpos kpos pos : Pos} {x1 : Nat} (ha : PA X [e] (tCons te tNil)) (hms : X.mg "sorted" = none) (hml : X.mg "len" = none) (hu : X.A.units + 64 < cLine) (room : X.A.depth < recursionLimit)
    (TB : TabB X.base X.mg c P) (hcode : X.env.code = .ref c) (hmT : (P, X.env.qual ++ "<lambda>") ∈ T) (huT : ∀ p ∈ T, p.1 = P → p.2 = X.env.qual ++ "<lambda>")
    (hbind : ∀ (q : Str) (c' : Addr) (pm ctv v : Value), bindArgs (PySem.W.kla_fn "<lambda>" q (kArgs p a1) (kBody p x1 q1 q2 q3 q4 q5) (kScope p) [] pm (.ref c') ctv) ⟨[v], []⟩ = pure [(p, v)] := by intros; rfl)
    (hg : Gl X "sorted" := by rfl) (hp : (p == ("__debug__" : Str)) = false := by decide) (hpl : (p == ("len" : Str)) = false := by decide)
    (hse : backTo pos (starEach [e] X.env) = (false, eval e X.env) :: backTo pos (starEach [] X.env) := by rfl) (hpl2 : (backTo pos (starEach [e] X.env)).any (·.1) = false := by rfl) :
    PE X (.Call (.Name "sorted" sp) [e] [⟨some "key", .Lambda (kArgs p a1) (kBody p x1 q1 q2 q3 q4 q5) (kScope p) lpos, kpos⟩] pos) (tKeyL X.K T te) := by
  refine ⟨fun pins s σ H Q I h => ?_⟩
  refine wpAny_Call_Name_kw (ld_blt (u := .builtin "sorted") I hg hms (by rfl) ?_)
  refine PyProof.Rows.callWith_kw (thn (ha.run pos pins s σ H (fun vs H1 => match vs with
      | [v] => Tabs T H1 ∧ ∃ (a : Addr) (bs : List (V × List PyData)), v = .ref a ∧ SqL X.K H1 a (bs.map (·.1)) ∧ (∀ b ∈ bs, Dp X.K H1 b.1 (.tuple b.2) ∧ NoL (.tuple b.2) ∧ b.2.length ≤ 1000 ∧ (PyData.tuple b.2).depth ≤ 7) ∧ AllAlike (bs.map fun b => keyD b.2) ∧
          ∀ H2, ExtN H1 H2 → Tabs T H2 → ∀ p, H2 p = none → Q (.ref p) (upd H2 p (.lst ((bs.mergeSort (dataLe false fun b => keyD b.2)).map (·.1))))
      | _ => False) I h) fun us s1 ⟨vs, H1, I1, r1, qr⟩ => ?_) hse hpl2
  show wpAny _ _ (evalAll ((do let v ← eval (.Lambda (kArgs p a1) (kBody p x1 q1 q2 q3 q4 q5) (kScope p) lpos) X.env; standAt pos; pure v) :: [])) _ _ s1
  obtain ⟨v, rfl⟩ : ∃ v, vs = [v] := by
    match vs, qr with
    | [v], _ => exact ⟨v, rfl⟩
  obtain ⟨u, rfl, rv⟩ := vals1 r1
  obtain ⟨hT, a, bs, rfl, hS, hD, hal, hq⟩ := qr
  obtain rfl : u = Value.ref a := rv
  have nofree : ∀ y ∈ (kScope p).names, y.2 = .free → ∃ c, X.env.cells.lookup y.1 = some c := fun y hy e => by
    have hy' : y ∈ [(p, NameKind.local), (PySem.Str.ofString "len", NameKind.globalImplicit)] := hy
    simp only [List.mem_cons, List.not_mem_nil, or_false] at hy'
    rcases hy' with z | z <;> rw [z] at e <;> cases e
  have clo0 : cloFrom X.env.cells (kScope p).names [] = [] := by rfl
  refine wpAny_evalAll_cons (wpAny_bind (lam_make2 I1 TB hcode hmT huT hT rfl nofree fun f c' pm ctv H2 s2 I2 eN T2 hf hfn hfr hco => ?_))
  refine wpAny_bind (wpAny_standAt (wpAny_pure (wpAny_evalAll_nil ?_)))
  show wpAny _ _ (call (.builtin "sorted") [.ref a] [("key", .ref f)]) _ _ _
  rw [clo0] at hf
  have hS2 : SqL X.K H2 a (bs.map (·.1)) := ExtN.seq eN hS
  have hD2 : ∀ b ∈ bs, Dp X.K H2 b.1 (.tuple b.2) := fun b hb => dp_ext eN _ _ (hD b hb).1
  obtain ⟨its, rv2, hl, hz⟩ := I2.list hS2
  rw [List.length_map] at hz
  obtain ⟨⟨oc, vs0, tt, hoc, hdc, hvc⟩, _, _⟩ := I2.hok c' _ hco
  refine sorted_key_data (b := false) (R := fun v (b : V × List PyData) => RelV b.1 v) (fun b => keyD b.2) hl.isList (each_valsK rv2) hal (Sortable.tuples fun _ => ⟨_, _, rfl⟩) hz (fun b hb => ?_) (PyProof.Rows.ksk_s1 _ _) (fun _ => PyProof.Rows.ksk_l1 _ _) (fun _ => PyProof.Rows.ksk_t1 _ _)
    (fun v b hR hb h tk kp => ?_) fun out cc h' tk kp fresh hget hlen he => ?_
  · have hd := (hD b hb).2.2.2
    have : (keyD b.2).depth ≤ 8 := by
      unfold keyD
      rw [PyData.depth, PyData.depthAll, PyData.depthAll, PyData.depthAll]
      rw [PyData.depth] at hd
      simp only [PyData.depth]
      omega
    omega
  · obtain ⟨as, hrd⟩ := Dp.reads I2 _ _ _ (hD2 b hb) hR
    exact key_turn I2 hf ⟨c', oc, vs0, tt, rfl, hoc, hdc, hvc⟩ hml hp hpl room (hD b hb).2.2.1 (hD b hb).2.1 hrd (hbind _ _ _ _ _) kp
  · have h3 := vals_eachK he
    have hlen2 : ((bs.mergeSort (dataLe false fun b => keyD b.2)).map (·.1)).length ≤ sizeLine := by
      rw [List.length_map, List.length_mergeSort]
      exact hz
    exact ⟨.ref _, upd H2 (s2.heap.objs.size + 1) (.lst ((bs.mergeSort (dataLe false fun b => keyD b.2)).map (·.1))), I2.laid (t' := tk) kp (Nat.le_succ _) ⟨hlen2, out, _, h3, hget⟩, rfl, hq _ eN T2 _ (I2.hok.fresh (Nat.le_succ _))⟩
end
end L2
set_option maxHeartbeats 4000000
/-! E16: plain: rings of arrows, breadth first; how many ways there are. -/
namespace L2
open PySem
theorem nodup_le {α : Type} [DecidableEq α] : ∀ {l m : List α}, l.Nodup → (∀ x ∈ l, x ∈ m) → l.length ≤ m.length
  | [], _, _, _ => Nat.zero_le _
  | a :: l, m, h, s => by
    obtain ⟨h1, h2⟩ := List.nodup_cons.mp h
    have ha := s a List.mem_cons_self
    have hl : l.length ≤ (m.erase a).length := nodup_le h2 fun x hx => (List.mem_erase_of_ne (fun e => h1 (by rw [← e]; exact hx))).mpr (s x (List.mem_cons_of_mem _ hx))
    rw [List.length_erase_of_mem ha] at hl
    have : 0 < m.length := List.length_pos_of_mem ha
    rw [List.length_cons]
    omega
/-- 0 .. n-1 -/
def upto (n : Int) : List Int := (List.range n.toNat).map fun i : Nat => (i : Int)
theorem mem_upto {n x : Int} : x ∈ upto n ↔ 0 ≤ x ∧ x < n := by
  unfold upto
  rw [List.mem_map]
  constructor
  · rintro ⟨i, hi, rfl⟩
    have := List.mem_range.mp hi
    omega
  · rintro ⟨h0, h1⟩
    exact ⟨x.toNat, List.mem_range.mpr (by omega), by omega⟩
theorem upto_nodup (n : Int) : (upto n).Nodup := by
  unfold upto
  refine List.Pairwise.map _ (fun a b h e => h ?_) List.nodup_range
  omega
theorem upto_len (n : Int) : (upto n).length = n.toNat := by unfold upto; rw [List.length_map, List.length_range]
/-- an arrow between n switches -/
def okR (n : Int) (a : Ar) : Prop := 0 ≤ a.1 ∧ a.1 < n ∧ 0 ≤ a.2.1 ∧ a.2.1 < n ∧ (a.2.2 = 1 ∨ a.2.2 = -1)
theorem nodup_filter {α : Type} {l : List α} (p : α → Bool) (h : l.Nodup) : (l.filter p).Nodup := List.Pairwise.filter p h
/-- arrows out of h whose targets are among S -/
theorem out_le {l : List Ar} {h : Int} {S : List Int} (nd : l.Nodup) (ha : ∀ a ∈ l, a.1 = h ∧ a.2.1 ∈ S ∧ (a.2.2 = 1 ∨ a.2.2 = -1)) : l.length ≤ 2 * S.length := by
  have e : (S.flatMap fun s => [(h, s, (1 : Int)), (h, s, -1)]).length = 2 * S.length := by
    clear ha nd
    induction S with
    | nil => rfl
    | cons s S ih =>
      rw [List.flatMap_cons, List.length_append, ih, List.length_cons]
      simp
      omega
  rw [← e]
  refine nodup_le nd fun a hm => ?_
  obtain ⟨h1, h2, h3⟩ := ha a hm
  refine List.mem_flatMap.mpr ⟨a.2.1, h2, ?_⟩
  obtain ⟨a1, a2, a3⟩ := a
  dsimp only at h1 h2 h3 ⊢
  rw [h1]
  rcases h3 with h3 | h3 <;> rw [h3] <;> simp
abbrev Pth : Type := List Ar
def hereP (b : Int) (p : Pth) : Int := match p.getLast? with
  | some a => a.2.1
  | none => b
def goneP (b : Int) (p : Pth) : List Int := hereP b p :: p.map (·.1)
def endB (b : Int) (p : Pth) (a : Ar) : Bool := decide (a.1 = hereP b p) && decide (a.2.1 = b)
def kidB (b : Int) (p : Pth) (a : Ar) : Bool := !endB b p a && (decide (a.1 = hereP b p) && (decide (b < a.2.1) && !decide (a.2.1 ∈ goneP b p)))
def endsP (as : List Ar) (b : Int) (p : Pth) : List Pth := (as.filter (endB b p)).map fun a => p ++ [a]
def kidsP (as : List Ar) (b : Int) (p : Pth) : List Pth := (as.filter (kidB b p)).map fun a => p ++ [a]
def bfs (as : List Ar) (b : Int) : Nat → List Pth → List Pth
  | 0, _ => []
  | _ + 1, [] => []
  | f + 1, p :: q => endsP as b p ++ bfs as b f (q ++ kidsP as b p)
/-- so many ways at most go on from one with r switches left -/
def tree : Nat → Nat
  | 0 => 1
  | r + 1 => 1 + 2 * (r + 1) * tree r
def potP (n : Int) (p : Pth) : Nat := tree (n.toNat - 1 - p.length)
def potQ (n : Int) (q : List Pth) : Nat := (q.map (potP n)).sum
/-- a way without twins, from b -/
def GoodP (n b : Int) (p : Pth) : Prop := (goneP b p).Nodup ∧ ∀ x ∈ goneP b p, 0 ≤ x ∧ x < n
theorem tree_pos (r : Nat) : 1 ≤ tree r := by cases r <;> simp [tree]
theorem here_snoc (b : Int) (p : Pth) (a : Ar) : hereP b (p ++ [a]) = a.2.1 := by
  unfold hereP
  rw [List.getLast?_append]
  rfl
theorem GoodP.len {n b : Int} {p : Pth} (g : GoodP n b p) : p.length + 1 ≤ n.toNat := by
  have h := nodup_le g.1 (m := upto n) fun x hx => mem_upto.mpr (g.2 x hx)
  rw [upto_len] at h
  unfold goneP at h
  rw [List.length_cons, List.length_map] at h
  exact h
theorem kid_good {n b : Int} {p : Pth} {a : Ar} (g : GoodP n b p) (ok : okR n a) (h : kidB b p a = true) : GoodP n b (p ++ [a]) := by
  unfold kidB at h
  simp only [Bool.and_eq_true, Bool.not_eq_true', decide_eq_true_eq, decide_eq_false_iff_not] at h
  obtain ⟨_, h1, h2, h3⟩ := h
  have pm : (goneP b (p ++ [a])).Perm (a.2.1 :: goneP b p) := by
    unfold goneP
    rw [here_snoc, List.map_append, List.map_singleton, h1]
    exact (List.perm_append_singleton _ _).cons _
  refine ⟨pm.nodup_iff.mpr (List.nodup_cons.mpr ⟨h3, g.1⟩), fun x hx => ?_⟩
  rcases List.mem_cons.mp (pm.mem_iff.mp hx) with e | hx
  · rw [e]
    exact ⟨ok.2.2.1, ok.2.2.2.1⟩
  · exact g.2 x hx
theorem kids_le {n b : Int} {as : List Ar} {p : Pth} (nd : as.Nodup) (ok : ∀ a ∈ as, okR n a) (g : GoodP n b p) : (kidsP as b p).length ≤ 2 * (n.toNat - 1 - p.length) := by
  unfold kidsP
  rw [List.length_map]
  have hS : ((upto n).filter fun x => !decide (x ∈ goneP b p)).length ≤ n.toNat - 1 - p.length := by
    have h := nodup_le (l := goneP b p ++ (upto n).filter fun x => !decide (x ∈ goneP b p)) (m := upto n) ?_ ?_
    · rw [List.length_append, upto_len] at h
      unfold goneP at h
      rw [List.length_cons, List.length_map] at h
      unfold goneP
      omega
    · refine List.nodup_append.mpr ⟨g.1, nodup_filter _ (upto_nodup n), fun x hx y hy e => ?_⟩
      · have := (List.mem_filter.mp hy).2
        rw [← e] at this
        simp at this
        exact this hx
    · intro x hx
      rcases List.mem_append.mp hx with hx | hx
      · exact mem_upto.mpr (g.2 x hx)
      · exact (List.mem_filter.mp hx).1
  refine Nat.le_trans (out_le (h := hereP b p) (S := (upto n).filter fun x => !decide (x ∈ goneP b p)) (nodup_filter _ nd) fun a ha => ?_) (by omega)
  obtain ⟨h1, h⟩ := List.mem_filter.mp ha
  unfold kidB at h
  simp only [Bool.and_eq_true, Bool.not_eq_true', decide_eq_true_eq, decide_eq_false_iff_not] at h
  obtain ⟨_, h2, h3, h4⟩ := h
  have o := ok a h1
  exact ⟨h2, List.mem_filter.mpr ⟨mem_upto.mpr ⟨o.2.2.1, o.2.2.2.1⟩, by simp [h4]⟩, o.2.2.2.2⟩
theorem ends_le {n b : Int} {as : List Ar} {p : Pth} (nd : as.Nodup) (ok : ∀ a ∈ as, okR n a) : (endsP as b p).length ≤ 2 := by
  unfold endsP
  rw [List.length_map]
  refine out_le (h := hereP b p) (S := [b]) (nodup_filter _ nd) fun a ha => ?_
  obtain ⟨h1, h⟩ := List.mem_filter.mp ha
  unfold endB at h
  simp only [Bool.and_eq_true, decide_eq_true_eq] at h
  exact ⟨h.1, by rw [h.2]; simp, (ok a h1).2.2.2.2⟩
theorem pot_app (n : Int) (q r : List Pth) : potQ n (q ++ r) = potQ n q + potQ n r := by
  unfold potQ
  rw [List.map_append, List.sum_append]
theorem pot_cons (n : Int) (p : Pth) (q : List Pth) : potQ n (p :: q) = potP n p + potQ n q := by
  unfold potQ
  rw [List.map_cons, List.sum_cons]
theorem pot_const {n : Int} {t : Nat} : ∀ {q : List Pth}, (∀ p ∈ q, potP n p = t) → potQ n q = q.length * t
  | [], _ => by simp [potQ]
  | p :: q, h => by
    rw [pot_cons, pot_const fun x hx => h x (List.mem_cons_of_mem _ hx), h p List.mem_cons_self, List.length_cons, Nat.succ_mul, Nat.add_comm]
theorem pot_step {n b : Int} {as : List Ar} {p : Pth} {q : List Pth} (nd : as.Nodup) (ok : ∀ a ∈ as, okR n a) (g : GoodP n b p) : potQ n (q ++ kidsP as b p) + 1 ≤ potQ n (p :: q) := by
  rw [pot_app, pot_cons]
  have hk := kids_le nd ok g
  have hc : potQ n (kidsP as b p) = (kidsP as b p).length * tree (n.toNat - 1 - p.length - 1) := pot_const fun x hx => by
    obtain ⟨a, _, rfl⟩ := List.mem_map.mp hx
    unfold potP
    rw [List.length_append, List.length_singleton]
    congr 1
  rw [hc]
  show _ ≤ tree (n.toNat - 1 - p.length) + _
  generalize (n.toNat - 1 - p.length) = r at hk
  cases r with
  | zero =>
    have : (kidsP as b p).length = 0 := by omega
    rw [this]
    simp [tree]
    omega
  | succ r =>
    show potQ n q + (kidsP as b p).length * tree r + 1 ≤ 1 + 2 * (r + 1) * tree r + potQ n q
    have := Nat.mul_le_mul_right (tree r) hk
    omega
def GoodQ (n b : Int) (q : List Pth) : Prop := ∀ p ∈ q, GoodP n b p
theorem GoodQ.step {n b : Int} {as : List Ar} {p : Pth} {q : List Pth} (ok : ∀ a ∈ as, okR n a) (g : GoodQ n b (p :: q)) : GoodQ n b (q ++ kidsP as b p) := fun x hx => by
  rcases List.mem_append.mp hx with hx | hx
  · exact g x (List.mem_cons_of_mem _ hx)
  · obtain ⟨a, ha, rfl⟩ := List.mem_map.mp hx
    obtain ⟨h1, h2⟩ := List.mem_filter.mp ha
    exact kid_good (g p List.mem_cons_self) (ok a h1) h2
theorem bfs_stable {n b : Int} {as : List Ar} (nd : as.Nodup) (ok : ∀ a ∈ as, okR n a) : ∀ (f : Nat) (q : List Pth), GoodQ n b q → potQ n q ≤ f → bfs as b f q = bfs as b (potQ n q) q
  | 0, q, _, h => by
    have : potQ n q = 0 := by omega
    rw [this]
  | f + 1, [], _, h => by simp [bfs, potQ]
  | f + 1, p :: q, g, h => by
    have s := pot_step nd ok (q := q) (g p List.mem_cons_self)
    obtain ⟨m, hm⟩ : ∃ m, potQ n (p :: q) = m + 1 := ⟨potQ n (p :: q) - 1, by omega⟩
    rw [hm]
    show endsP as b p ++ bfs as b f (q ++ kidsP as b p) = endsP as b p ++ bfs as b m (q ++ kidsP as b p)
    rw [bfs_stable nd ok f _ (g.step ok) (by omega), bfs_stable nd ok m _ (g.step ok) (by omega)]
termination_by f => f
/-- the rings whose least switch is b -/
def ringsF (n : Int) (as : List Ar) (b : Int) : List Pth := bfs as b (potQ n [[]]) [[]]
theorem bfs_step {n b : Int} {as : List Ar} {p : Pth} {q : List Pth} (nd : as.Nodup) (ok : ∀ a ∈ as, okR n a) (g : GoodQ n b (p :: q)) : bfs as b (potQ n (p :: q)) (p :: q) = endsP as b p ++ bfs as b (potQ n (q ++ kidsP as b p)) (q ++ kidsP as b p) := by
  have s := pot_step nd ok (q := q) (g p List.mem_cons_self)
  obtain ⟨m, hm⟩ : ∃ m, potQ n (p :: q) = m + 1 := ⟨potQ n (p :: q) - 1, by omega⟩
  rw [hm]
  show endsP as b p ++ bfs as b m (q ++ kidsP as b p) = _
  rw [bfs_stable nd ok m _ (g.step ok) (by omega)]
theorem good_nil {n b : Int} (h0 : 0 ≤ b) (h1 : b < n) : GoodQ n b [[]] := fun p hp => by
  rw [List.mem_singleton.mp hp]
  refine ⟨by simp [goneP], fun x hx => ?_⟩
  have : x = b := by simpa [goneP, hereP] using hx
  rw [this]
  exact ⟨h0, h1⟩
theorem pot_len (n : Int) : ∀ (q : List Pth), q.length ≤ potQ n q
  | [] => Nat.zero_le _
  | p :: q => by
    rw [pot_cons, List.length_cons]
    have := pot_len n q
    have := tree_pos (n.toNat - 1 - p.length)
    show q.length + 1 ≤ tree (n.toNat - 1 - p.length) + potQ n q
    omega
theorem tree_mono {a b : Nat} (h : a ≤ b) : tree a ≤ tree b := by
  induction b with
  | zero => rw [Nat.le_zero.mp h]; exact Nat.le_refl _
  | succ b ih =>
    rcases Nat.lt_or_ge a (b + 1) with h1 | h1
    · have := ih (by omega)
      have : tree b ≤ (2 * (b + 1)) * tree b := Nat.le_mul_of_pos_left _ (by omega)
      show tree a ≤ 1 + 2 * (b + 1) * tree b
      omega
    · have e : a = b + 1 := by omega
      rw [e]
      exact Nat.le_refl _
theorem pot0 {n : Int} (h : n ≤ 5) : potQ n [[]] ≤ 633 := by
  rw [pot_cons]
  show tree (n.toNat - 1 - 0) + 0 ≤ 633
  have : tree (n.toNat - 1 - 0) ≤ tree 4 := tree_mono (by omega)
  have e : tree 4 = 633 := by decide
  omega
end L2
set_option maxHeartbeats 4000000
namespace K24
open PySem L2 PySem.EX PyProof.Rows
structure TxR (K : PySem.W.Frag) (mg : Str → Option Value) : Prop where
  rf : Def K mg "rings_from" (top 25)
  rsign : Def K mg "ring_sign" (top 24)
  rlen : mg "len" = none
  rsorted : mg "sorted" = none
/-- a way of arrows stands at v -/
def PthV (H : Hp) (v : V) (p : Pth) : Prop := ∃ a xs, v = .ref a ∧ H a = some (.tup xs) ∧ Ars H xs p
abbrev Pths (H : Hp) (vs : List V) (ps : List Pth) : Prop := Paired (PthV H) vs ps
theorem PthV.keep {H H' : Hp} {v : V} {p : Pth} (h : PthV H v p) (k : ∀ b xs, H b = some (.tup xs) → H' b = some (.tup xs)) : PthV H' v p := by
  obtain ⟨a, xs, e, h1, h2⟩ := h
  exact ⟨a, xs, e, k _ _ h1, h2.keep k⟩
theorem Pths.keep {H H' : Hp} {vs : List V} {ps : List Pth} (h : Pths H vs ps) (k : ∀ b xs, H b = some (.tup xs) → H' b = some (.tup xs)) : Pths H' vs ps := Paired.imp (fun _ _ h => h.keep k) h
theorem seq_altR {t u : TS} {D : Ends} {σ : L2.St} {H : Hp} (Sh : L2.St → Hp → Prop) (h : ∀ G : L2.St → Hp → Prop, (∀ σ' H', Sh σ' H' → G σ' H') → t { D with nx := G } σ H) (hu : ∀ σ' H', Sh σ' H' → u D σ' H') : tSeq t u D σ H := h (u D) hu
theorem Paired.appR {α β : Type} {F : α → β → Prop} : ∀ {l l2 : List α} {m m2 : List β}, Paired F l m → Paired F l2 m2 → Paired F (l ++ l2) (m ++ m2)
  | _, _, _, _, .nil, h => h
  | _, _, _, _, .cons h t, q => .cons h (Paired.appR t q)
theorem small1000x {n : Nat} (h : n ≤ 1400) : n < sizeLine := Nat.lt_of_le_of_lt h (by decide)
theorem inV_intsR (u : Int) (l : List Int) : inV (.int u) (l.map V.int) = decide (u ∈ l) := by
  unfold inV
  rw [List.any_map]
  induction l with
  | nil => simp
  | cons a t ih =>
    rw [List.any_cons, ih]
    have e : ((fun y => eqV y (V.int u)) ∘ V.int) a = decide (a = u) := by
      show eqV (V.int a) (V.int u) = _
      unfold eqV
      simp [Bool.beq_eq_decide_eq]
    rw [e]
    by_cases h : a = u <;> by_cases h2 : u ∈ t <;> simp [h, h2]
    exact fun q => h q.symm
theorem small1000y {n : Nat} (h : n ≤ 100000) : n < sizeLine := Nat.lt_of_le_of_lt h (by decide)
theorem flat_intsR (l : List Int) : (l.map V.int).all flatV = true := by
  rw [List.all_map]
  exact List.all_eq_true.mpr fun x _ => rfl
theorem pths_at {H : Hp} : ∀ {vs : List V} {ps : List Pth} {i : Nat} {v : V}, Pths H vs ps → vs[i]? = some v → ∃ p, ps[i]? = some p ∧ PthV H v p
  | _, _, _, _, .nil, h => by simp at h
  | _, _, 0, _, .cons h t, e => by cases e; exact ⟨_, rfl, h⟩
  | _, _, i + 1, _, .cons h t, e => pths_at (i := i) t (by simpa using e)
theorem ars_snoc_inv {H : Hp} : ∀ {vs : List V} {p : Pth} {a : Ar}, Ars H vs (p ++ [a]) → ∃ ws w, vs = ws ++ [w] ∧ Ars H ws p ∧ ArV H w a
  | _, [], _, .cons h .nil => ⟨[], _, rfl, .nil, h⟩
  | _, b :: p, a, .cons h t => by
    obtain ⟨ws, w, e, h1, h2⟩ := ars_snoc_inv (p := p) (a := a) t
    exact ⟨_ :: ws, w, by rw [e]; rfl, .cons h h1, h2⟩
theorem eqv_nilT (l : List PyData) : (PyData.tuple l).eqv (.tuple []) = l.isEmpty := by
  cases l <;> rw [PyData.eqv] <;> simp [PyData.eqvAll]
theorem srcs_lc {K : PySem.W.Frag} {G : Hp} {pa : Addr} {pxs : List V} {p : Pth} {σ : L2.St} {Q : VK} (hpa : G pa = some (.tup pxs)) (hA : Ars G pxs p) (hl : p.length ≤ 1000) (hσ : σ.length = 11) {te : TE} (hte : ∀ (Q : VK), Q (.ref pa) G → te σ G Q)
    (k : ∀ (D : Addr) G', Same G G' → G D = none → G' D = some (.lst ((p.map (·.1)).map V.int)) → Q (.ref D) G') : tLc (iTup K te) (gTup K 3 (gCons (gName 8) (gCons (gName 9) (gCons (gName 10) gNil)))) tYes (tVar 8) [8, 9, 10] σ G Q := by
  refine hte _ ⟨pa, rfl, ⟨_, SqT.of hpa⟩, fun D hD => ?_⟩
  refine lc_tup (K := K) (a := pa) (xs := pxs) (fun i G2 => Same G G2 ∧ G2 D = some (.lst (((p.take i).map (·.1)).map V.int))) ⟨Same.upd hD, upd_same⟩ (fun i G2 _ h => SqT.of (h.1 _ _ hpa)) ?_ ?_
  · rintro i x G2 hx ⟨s2, hz⟩
    obtain ⟨ar, har, q, rfl, hq⟩ := Ars.get hA hx
    obtain ⟨a1, a2, a3⟩ := ar
    have hi := (List.getElem?_eq_some_iff.mp har).1
    refine ⟨q, _, rfl, SqT.of (s2 _ _ hq), rfl, _, _, rfl, _, _, rfl, _, _, rfl, rfl, ?_⟩
    match σ, hσ with
    | [_, _, _, _, _, _, _, _, _, _, _], _ =>
      refine ⟨rfl, ?_⟩
      refine ⟨_, rfl, _, hz, small1000 (by rw [List.length_map, List.length_map, List.length_take]; omega), s2.put hD, ?_⟩
      rw [upd_same, List.take_succ, har, List.map_append, List.map_append]
      rfl
  · rintro G2 ⟨s2, hz⟩
    rw [hA.length, List.take_of_length_le (Nat.le_refl _)] at hz
    exact k D G2 s2 hD hz
section
variable {P : Program} {w : World} {K : PySem.W.Frag} {mg : Str → Option Value} {base : Heap}
abbrev nRf : List Str := ["several", "begin", "found", "line", "spot", "here", "gone", "arrow", "one", "other", "sign"]
theorem scRf : FnScope nRf ["several", "begin"] (defScope (top 25)) := ⟨rfl, rfl, rfl, by decide +kernel, rfl, by decide +kernel, by decide +kernel⟩
def spRf (K : PySem.W.Frag) : Sp := fun vs H Q _ => ∃ (a : Addr) (b n : Int) (xs : List V) (as : List Ar), vs = [.ref a, .int b] ∧ H a = some (.lst xs) ∧ Ars H xs as ∧ as.Nodup ∧ (∀ y ∈ as, okR n y) ∧ n ≤ 5 ∧ 0 ≤ b ∧ b < n ∧
  ∀ (l : Addr) (zs : List V) H', Same H H' → H l = none → H' l = some (.lst zs) → Pths H' zs (ringsF n as b) → Q (.ref l) H'
theorem ok_rf (R : TxR K mg) : Fnc P w K mg base CX0 1 "rings_from" ["several", "begin"] (spRf K) := by
  refine fnc0 R.rf scRf (fun vs H Q E h => ?_) (fun _ _ _ _ _ _ us hl => match us, hl with | [_, _], _ => rfl) (fun cdv A outer s H vs Q E hr h => ?_)
  · obtain ⟨a, b, n, xs, as, rfl, _⟩ := h
    rfl
  · obtain ⟨a, b, n, xs, as, rfl, ha, hA, nd, ok, n5, b0, b1, k⟩ := h
    have hN := scRf.nd
    refine ⟨_, pss_cons (ps_par3 (by rfl) hN (i := 2) (j := 3) (l := 4) rfl rfl rfl (by decide) (by decide) (by decide) rfl rfl rfl (pa_cons (pe_lst pa_nil) (pa_cons (pe_lst (pa_cons (pe_tup pa_nil) pa_nil)) (pa_cons pe_int pa_nil))) (by rfl))
      (pss_cons (ps_while PassesOwn.never (pt_cmpR op_lt (pv 4) (pe_callB call_len_seq (by rfl) R.rlen PySem.boot_len (pa_cons (pv 3) pa_nil)) (nomark _))
        (pss_cons (ps_set (i := 5) hN rfl (Or.inl rfl) (pe_ifExp (pt_cmpR (op_neD hr.units) (pe_ix ix_list (pv 3) (pv 4) (fun _ _ => rfl)) (pe_tup pa_nil) (nomark _)) (pe_ix ix_tup (pe_ix ix_tup (pe_ix ix_list (pv 3) (pv 4) (fun _ _ => rfl)) (pe_un un_neg pe_int) (fun _ _ => rfl)) pe_int (fun _ _ => rfl)) (pv 1)))
        (pss_cons (ps_set (i := 6) hN rfl (Or.inl rfl) (pe_lst (pa_cons (pv 5) (StX.pa_star (pe_lc (own := [("one", 8), ("other", 9), ("sign", 10)]) (g := gTup K 3 (gCons (gName 8) (gCons (gName 9) (gCons (gName 10) gNil)))) (tt := tYes) rfl hN (pi_tup (pe_ix ix_list (pv 3) (pv 4) (fun _ _ => rfl))) (blkOk_by (N := nRf) (sc := defScope (top 25)) (by decide +kernel))
            (fun _ _ _ _ _ => pg_tup rfl (pgs_cons (pg_name (i := 8) hN rfl (Or.inl rfl)) (pgs_cons (pg_name (i := 9) hN rfl (Or.inl rfl)) (pgs_cons (pg_name (i := 10) hN rfl (Or.inl rfl)) pgs_nil)))) (fun _ _ _ _ _ => pts_nil) (fun _ _ _ _ _ => pv 8)) pa_nil))))
        (pss_cons (ps_for PassesOwn.never rfl (pi_list (pv 0)) (pg_name (i := 7) hN rfl (Or.inl rfl))
          (pss_one (ps_if (PW.pt (pw_and (pt_cmpR op_eq (pe_ix ix_tup (pv 7) pe_int (fun _ _ => rfl)) (pv 5) (nomark _)) (pw_and1 (pt_cmpR op_eq (pe_ix ix_tup (pv 7) pe_int (fun _ _ => rfl)) (pv 1) (nomark _)))))
            (pss_one (ps_expr (pe_bm PySem.F.plainAttrs_list PySem.F.slot_list_append PySem.F.type_list_append mt_append (pv 2) (pa_cons (pe_tup (StX.pa_star (pe_ix ix_list (pv 3) (pv 4) (fun _ _ => rfl)) (pa_cons (pv 7) pa_nil))) pa_nil))))
            (pss_one (ps_if (PW.pt (pw_and (pt_cmpR op_eq (pe_ix ix_tup (pv 7) pe_int (fun _ _ => rfl)) (pv 5) (nomark _)) (pw_and (pt_cmpR op_gt (pe_ix ix_tup (pv 7) pe_int (fun _ _ => rfl)) (pv 1) (nomark _)) (pw_and1 (pt_cmpR op_notIn_seq (pe_ix ix_tup (pv 7) pe_int (fun _ _ => rfl)) (pv 6) (by with_unfolding_all rfl))))))
              (pss_one (ps_expr (pe_bm PySem.F.plainAttrs_list PySem.F.slot_list_append PySem.F.type_list_append mt_append (pv 3) (pa_cons (pe_tup (StX.pa_star (pe_ix ix_list (pv 3) (pv 4) (fun _ _ => rfl)) (pa_cons (pv 7) pa_nil))) pa_nil)))) pss_nil)))))
        (pss_one (ps_aug (i := 4) hN rfl (Or.inl rfl) pe_int ip_add))))))
      (pss_one (ps_ret (pv 2)))), ?_⟩
    -- found, line, spot = [], [()], 0
    refine ⟨by decide, fun F hF => ⟨by decide, fun e he => ⟨by show 1 ≤ sizeLine; decide, fun L hL => ⟨_, _, _, rfl, ?_⟩⟩⟩⟩
    have s1 : Same H (upd H F (.lst [])) := Same.upd hF
    have s2 := Same.upd (o := .tup []) he
    have s3 := Same.upd (o := .lst [.ref e]) hL
    have sA : Same H (upd (upd (upd H F (.lst [])) e (.tup [])) L (.lst [.ref e])) := (s1.trans s2).trans s3
    have hL0 : H L = none := (s1.trans s2).free hL
    have hFL : F ≠ L := ne_of_none (s2 _ _ upd_same) hL
    have f0 : (upd (upd (upd H F (.lst [])) e (.tup [])) L (.lst [.ref e])) F = some (.lst []) := s3 _ _ (s2 _ _ upd_same)
    have e0 : Pths (upd (upd (upd H F (.lst [])) e (.tup [])) L (.lst [.ref e])) [.ref e] [[]] := .cons ⟨e, [], rfl, s3 _ _ upd_same, .nil⟩ .nil
    have l0 : (upd (upd (upd H F (.lst [])) e (.tup [])) L (.lst [.ref e])) L = some (.lst [.ref e]) := upd_same
    clear s1 s2 s3 hL he
    generalize (upd (upd (upd H F (.lst [])) e (.tup [])) L (.lst [.ref e])) = H0 at sA f0 e0 l0 ⊢
    refine ⟨fun m σ H1 => ∃ (u5 u6 u7 u8 u9 u10 : Option V) (sp : Nat) (fv lv : List V) (fs ps : List Pth), m = potQ n (ps.drop sp) ∧ σ = [some (.ref a), some (.int b), some (.ref F), some (.ref L), some (.int sp), u5, u6, u7, u8, u9, u10] ∧ Same H H1 ∧
        H1 F = some (.lst fv) ∧ Pths H1 fv fs ∧ H1 L = some (.lst lv) ∧ Pths H1 lv ps ∧ sp ≤ ps.length ∧ GoodQ n b (ps.drop sp) ∧ fs ++ bfs as b (potQ n (ps.drop sp)) (ps.drop sp) = ringsF n as b ∧ sp + potQ n (ps.drop sp) ≤ potQ n [[]] ∧ fs.length ≤ 2 * sp,
      ⟨_, _, _, _, _, _, _, 0, [], [.ref e], [], [[]], rfl, rfl, sA, f0, .nil, l0, e0, by decide, good_nil b0 b1, rfl, by show 0 + potQ n [[]] ≤ _; omega, by decide⟩, ?_⟩
    rintro m σ H1 ⟨u5, u6, u7, u8, u9, u10, sp, fv, lv, fs, ps, rfl, rfl, s1, hf, pf, hl, pl, hsp, gq, heq, hpot, hfl⟩
    refine ⟨_, rfl, _, rfl, L, lv, rfl, .inl (SqL.of hl), _, _, rfl, rfl, _, rfl, ?_⟩
    rw [pl.length]
    have hp5 := pot0 n5
    by_cases hlt : sp < ps.length
    case neg =>
      rw [decide_eq_false (by omega)]
      refine iteF ⟨_, rfl, ?_⟩
      rw [List.drop_eq_nil_of_le (by omega)] at heq
      have e1 : bfs as b (potQ n []) [] = [] := by simp [potQ, bfs]
      rw [e1, List.append_nil] at heq
      exact k F fv H1 s1 hF hf (by rw [← heq]; exact pf)
    rw [decide_eq_true (by omega)]
    refine iteT ?_
    obtain ⟨p, hp⟩ : ∃ p, ps[sp]? = some p := ⟨_, List.getElem?_eq_getElem hlt⟩
    have hdr : ps.drop sp = p :: ps.drop (sp + 1) := by
      rw [List.drop_eq_getElem_cons hlt]
      have := List.getElem?_eq_getElem hlt
      rw [hp] at this
      rw [← Option.some.inj this]
    rw [hdr] at gq heq hpot
    have gp : GoodP n b p := gq p List.mem_cons_self
    refine ⟨fun σ' H' => ∃ (u5 u6 u7 u8 u9 u10 : Option V) (fv lv : List V) (fs ps' : List Pth), σ' = [some (.ref a), some (.int b), some (.ref F), some (.ref L), some (.int (sp + 1 : Nat)), u5, u6, u7, u8, u9, u10] ∧ Same H H' ∧
        H' F = some (.lst fv) ∧ Pths H' fv fs ∧ H' L = some (.lst lv) ∧ Pths H' lv ps' ∧ ps'.drop (sp + 1) = ps.drop (sp + 1) ++ kidsP as b p ∧ sp + 1 ≤ ps'.length ∧ fs ++ bfs as b (potQ n (ps'.drop (sp + 1))) (ps'.drop (sp + 1)) = ringsF n as b ∧ fs.length ≤ 2 * (sp + 1), ?_, ?_⟩
    · rintro σ' H' ⟨u5, u6, u7, u8, u9, u10, fv, lv, fs, ps', rfl, s2, h1, h2, h3, h4, h5, h6, h7, h8⟩
      have st := pot_step nd ok (q := ps.drop (sp + 1)) gp
      refine ⟨potQ n (ps'.drop (sp + 1)), by rw [h5, hdr]; omega, u5, u6, u7, u8, u9, u10, sp + 1, fv, lv, fs, ps', rfl, rfl, s2, h1, h2, h3, h4, h6, by rw [h5]; exact gq.step ok, h7, by rw [h5]; omega, h8⟩
    obtain ⟨v, hv⟩ : ∃ v, lv[sp]? = some v := ⟨_, List.getElem?_eq_getElem (by rw [pl.length]; exact hlt)⟩
    obtain ⟨p', hp', pa, pxs, rfl, hpa, hpA⟩ := pths_at pl hv
    obtain rfl : p' = p := Option.some.inj (hp'.symm.trans hp)
    have hpl : p'.length ≤ 5 := by have := gp.len; omega
    have hlen : ps.length ≤ 633 := by
      have := pot_len n (ps.drop (sp + 1))
      have t1 := tree_pos (n.toNat - 1 - p'.length)
      have t2 : potQ n (p' :: ps.drop (sp + 1)) = tree (n.toNat - 1 - p'.length) + potQ n (ps.drop (sp + 1)) := pot_cons n p' _
      rw [List.length_drop] at this
      omega
    have hfs := ends_le (b := b) (p := p') nd ok
    have hks := kids_le nd ok gp
    -- here
    refine seq_altR (fun σ' H' => σ' = [some (.ref a), some (.int b), some (.ref F), some (.ref L), some (.int sp), some (.int (hereP b p')), u6, u7, u8, u9, u10] ∧ Same H1 H') (fun G hG => ?_) ?_
    · refine ⟨_, rfl, _, rfl, L, lv, sp, _, rfl, rfl, SqL.of hl, atI_nat hv, by decide, fun e he => ?_⟩
      have s2 := Same.upd (o := .tup []) he
      refine ⟨.tuple (p'.map arD), .tuple [], .tup (SqT.of (s2 _ _ hpa)) (hpA.keep s2.tups).dp, .tup (SqT.of upd_same) .nil, shaped_ars _, shaped_of rfl (by decide), _, rfl, ?_⟩
      rw [eqv_nilT]
      rcases List.eq_nil_or_concat p' with e0 | ⟨p0, l0, e0⟩
      · rw [e0]
        exact iteF ⟨_, rfl, hG _ _ ⟨by rw [e0]; rfl, s2⟩⟩
      · rw [List.concat_eq_append] at e0
        have e1 : (!(List.map arD p').isEmpty) = true := by rw [e0]; simp
        rw [e1]
        rw [e0] at hpA
        obtain ⟨ws, w', rfl, hA1, q, rfl, hq⟩ := ars_snoc_inv hpA
        refine iteT ⟨_, rfl, _, rfl, L, lv, sp, _, rfl, rfl, SqL.of (s2 _ _ hl), atI_nat hv, 1, rfl, pa, _, -1, _, rfl, rfl, SqT.of (s2 _ _ hpa), L2.atI_last _ _, q, _, 1, .int l0.2.1, rfl, rfl, SqT.of (s2 _ _ hq), rfl, hG _ _ ⟨?_, s2⟩⟩
        rw [e0, here_snoc]
        rfl
    rintro σ' H2 ⟨rfl, s2⟩
    have hf2 := s2 _ _ hf
    have hl2 := s2 _ _ hl
    have pf2 := pf.keep s2.tups
    have pl2 := pl.keep s2.tups
    have hpa2 := s2 _ _ hpa
    have hpA2 := hpA.keep s2.tups
    -- gone
    refine ⟨_, rfl, srcs_lc (p := p') hpa2 hpA2 (by omega) rfl (fun Q h => ⟨_, rfl, _, rfl, L, lv, sp, _, rfl, rfl, SqL.of hl2, atI_nat hv, h⟩) fun D H3 s3 hD hD3 => ?_⟩
    refine ⟨D, _, rfl, .inr (SqL.of hD3), line1000 ?_, fun G hG => ?_⟩
    · rw [List.append_nil, List.length_cons, List.length_map, List.length_map]
      omega
    have sG : Same H3 (upd H3 G (.lst (V.int (hereP b p') :: ((p'.map (·.1)).map V.int ++ [])))) := Same.upd hG
    have hg4 : (upd H3 G (.lst (V.int (hereP b p') :: ((p'.map (·.1)).map V.int ++ [])))) G = some (.lst ((goneP b p').map V.int)) := by rw [upd_same, List.append_nil]; rfl
    have nG : ∀ x o, H1 x = some o → x ≠ G := fun x o e => ne_of_none (s3 _ _ (s2 _ _ e)) hG
    generalize (upd H3 G _) = H4 at sG hg4 ⊢
    have s4 : Same H1 H4 := (s2.trans s3).trans sG
    have hf4 := s4 _ _ hf
    have hl4 := s4 _ _ hl
    have pf4 := pf.keep s4.tups
    have pl4 := pl.keep s4.tups
    have hFG : F ≠ G := nG _ _ hf
    have hLG : L ≠ G := nG _ _ hl
    have ha4 := s4 _ _ (s1 _ _ ha)
    have hA4 := hA.keep (s1.trans s4).tups
    have nF : ∀ x xs, H4 x = some (.tup xs) → x ≠ F := fun x xs e => ne_of e hf4 (by intro z; cases z)
    have nL : ∀ x xs, H4 x = some (.tup xs) → x ≠ L := fun x xs e => ne_of e hl4 (by intro z; cases z)
    have aF : a ≠ F := ne_of_none ha hF
    have aL : a ≠ L := ne_of_none ha hL0
    show gName 6 (.ref G) _ _ _
    refine ⟨_, rfl, a, rfl, ⟨_, SqL.of ha4⟩, for_list (K := K) (a := a) (xs := xs) (fun i σ H' => ∃ (u7 : Option V) (nf nl : List V), σ = [some (.ref a), some (.int b), some (.ref F), some (.ref L), some (.int sp), some (.int (hereP b p')), some (.ref G), u7, u8, u9, u10] ∧ (∀ x o, x ≠ F → x ≠ L → H4 x = some o → H' x = some o) ∧
        H' F = some (.lst (fv ++ nf)) ∧ Pths H' nf (endsP (as.take i) b p') ∧ H' L = some (.lst (lv ++ nl)) ∧ Pths H' nl (kidsP (as.take i) b p'))
      ⟨_, [], [], rfl, fun x o _ _ e => e, by rw [List.append_nil]; exact hf4, .nil, by rw [List.append_nil]; exact hl4, .nil⟩ (fun i σ H' _ h => ?_) ?_ ?_⟩
    · obtain ⟨u7, nf, nl, _, k4, _⟩ := h
      exact SqL.of (k4 _ _ aF aL ha4)
    · rintro i x σ H5 hx ⟨u7, nf, nl, rfl, k5, h1, h2, h3, h4⟩
      obtain ⟨ar, har, q, rfl, hq⟩ := Ars.get hA4 hx
      have tp5 : ∀ x xs, H4 x = some (.tup xs) → H5 x = some (.tup xs) := fun x xs e => k5 _ _ (nF _ _ e) (nL _ _ e) e
      have hq5 := tp5 _ _ hq
      have hpa5 := tp5 _ _ (s4 _ _ hpa)
      have hpA5 := hpA.keep fun x xs e => tp5 _ _ (s4 _ _ e)
      have hg5 := k5 _ _ (Ne.symm hFG) (Ne.symm hLG) hg4
      have hv5 : (lv ++ nl)[sp]? = some (.ref pa) := by rw [List.getElem?_append_left (List.getElem?_eq_some_iff.mp hv).1]; exact hv
      have tE : endsP (as.take (i + 1)) b p' = endsP (as.take i) b p' ++ if endB b p' ar = true then [p' ++ [ar]] else [] := by
        unfold endsP
        rw [List.take_succ, har, List.filter_append, List.map_append]
        congr 1
        by_cases h : endB b p' ar = true <;> simp [h]
      have tK : kidsP (as.take (i + 1)) b p' = kidsP (as.take i) b p' ++ if kidB b p' ar = true then [p' ++ [ar]] else [] := by
        unfold kidsP
        rw [List.take_succ, har, List.filter_append, List.map_append]
        congr 1
        by_cases h : kidB b p' ar = true <;> simp [h]
      have nfl : nf.length ≤ 2 := by
        rw [h2.length]
        unfold endsP
        rw [List.length_map]
        have e1 := List.Sublist.length_le ((List.take_sublist i as).filter (endB b p'))
        unfold endsP at hfs
        rw [List.length_map] at hfs
        omega
      have nll : nl.length ≤ 8 := by
        rw [h4.length]
        unfold kidsP
        rw [List.length_map]
        have e1 := List.Sublist.length_le ((List.take_sublist i as).filter (kidB b p'))
        unfold kidsP at hks
        rw [List.length_map] at hks
        omega
      have lFv : (fv ++ nf).length ≤ 1400 := by rw [List.length_append, pf.length]; omega
      have lLv : (lv ++ nl).length ≤ 1400 := by rw [List.length_append, pl.length]; omega
      have tupE : ∀ (T : Addr) (G6 : Hp), H5 T = none → G6 = upd H5 T (.tup (pxs ++ [.ref q])) → PthV G6 (.ref T) (p' ++ [ar]) := fun T G6 hT e => ⟨T, pxs ++ [.ref q], rfl, by rw [e, upd_same], by
        have sT : Same H5 G6 := by rw [e]; exact Same.upd hT
        exact Paired.snoc (hpA5.keep sT.tups) ⟨q, rfl, sT _ _ hq5⟩⟩
      have appT : ∀ {σ : L2.St} {Q : List V → Hp → Prop}, σ = [some (.ref a), some (.int b), some (.ref F), some (.ref L), some (.int sp), some (.int (hereP b p')), some (.ref G), some (.ref q), u8, u9, u10] → (∀ T, H5 T = none → Q [.ref T] (upd H5 T (.tup (pxs ++ [.ref q])))) → tCons (tTup (StX.tStar K (tOp (rIxL K) (tVar 3) (tVar 4)) (tCons (tVar 7) tNil))) tNil σ H5 Q := fun {σ Q} e hQ => by
        subst e
        refine ⟨_, rfl, _, rfl, L, _, sp, _, rfl, rfl, SqL.of h3, atI_nat hv5, pa, pxs, rfl, .inl (SqT.of hpa5), _, rfl, line1000 ?_, fun T hT => hQ T hT⟩
        rw [List.length_append, List.length_singleton, hpA.length]
        omega
      have d1 : decide (V.int ar.1 = V.int (hereP b p')) = decide (ar.1 = hereP b p') := by simp
      have d2 : decide (V.int ar.2.1 = V.int b) = decide (ar.2.1 = b) := by simp
      -- nothing appended
      have none_ : endB b p' ar = false → kidB b p' ar = false → ∃ (u7 : Option V) (nf nl : List V), [some (.ref a), some (.int b), some (.ref F), some (.ref L), some (.int sp), some (.int (hereP b p')), some (.ref G), some (.ref q), u8, u9, u10] = [some (.ref a), some (.int b), some (.ref F), some (.ref L), some (.int sp), some (.int (hereP b p')), some (.ref G), u7, u8, u9, u10] ∧ (∀ x o, x ≠ F → x ≠ L → H4 x = some o → H5 x = some o) ∧
          H5 F = some (.lst (fv ++ nf)) ∧ Pths H5 nf (endsP (as.take (i + 1)) b p') ∧ H5 L = some (.lst (lv ++ nl)) ∧ Pths H5 nl (kidsP (as.take (i + 1)) b p') := fun e1 e2 => by
        refine ⟨_, nf, nl, rfl, k5, h1, ?_, h3, ?_⟩
        · rw [tE, e1]; simpa using h2
        · rw [tK, e2]; simpa using h4
      have second : ∀ {D : Ends}, endB b p' ar = false → (∀ (u7 : Option V) (nf nl : List V) (H' : Hp), (∀ x o, x ≠ F → x ≠ L → H4 x = some o → H' x = some o) → H' F = some (.lst (fv ++ nf)) → Pths H' nf (endsP (as.take (i + 1)) b p') → H' L = some (.lst (lv ++ nl)) → Pths H' nl (kidsP (as.take (i + 1)) b p') →
            D.nx [some (.ref a), some (.int b), some (.ref F), some (.ref L), some (.int sp), some (.int (hereP b p')), some (.ref G), u7, u8, u9, u10] H') →
          tIfS (tAnd (tTest (tOp rEq (tOp (rIxT K) (tVar 7) (tC (V.int 0))) (tVar 5))) (tAnd (tTest (tOp (rI0 fun i j => V.bl (decide (j < i))) (tOp (rIxT K) (tVar 7) (tC (V.int 1))) (tVar 1))) (tTest (tOp (rIn K true) (tOp (rIxT K) (tVar 7) (tC (V.int 1))) (tVar 6)))))
            (tDrop (tBM K "list" rAppend (tVar 3) (tCons (tTup (StX.tStar K (tOp (rIxL K) (tVar 3) (tVar 4)) (tCons (tVar 7) tNil))) tNil))) tNext D [some (.ref a), some (.int b), some (.ref F), some (.ref L), some (.int sp), some (.int (hereP b p')), some (.ref G), some (.ref q), u8, u9, u10] H5 := fun {D} e1 hk => by
        refine ⟨_, rfl, q, _, 0, .int ar.1, rfl, rfl, SqT.of hq5, rfl, _, rfl, rfl, _, rfl, ?_⟩
        rw [d1]
        unfold endB at e1
        by_cases c1 : ar.1 = hereP b p'
        case neg =>
          rw [decide_eq_false c1]
          refine iteF (iteF ?_)
          have e2 : kidB b p' ar = false := by unfold kidB; rw [decide_eq_false c1]; simp
          obtain ⟨u7, nf, nl, _, q1, q2, q3, q4, q5⟩ := none_ (by unfold endB; exact e1) e2
          exact hk _ nf nl H5 q1 q2 q3 q4 q5
        rw [decide_eq_true c1]
        refine iteT ⟨_, rfl, q, _, 1, .int ar.2.1, rfl, rfl, SqT.of hq5, rfl, _, rfl, _, _, rfl, rfl, _, rfl, ?_⟩
        by_cases c2 : b < ar.2.1
        case neg =>
          rw [decide_eq_false c2]
          refine iteF (iteF ?_)
          have e2 : kidB b p' ar = false := by unfold kidB; rw [decide_eq_false c2]; simp
          obtain ⟨u7, nf, nl, _, q1, q2, q3, q4, q5⟩ := none_ (by unfold endB; exact e1) e2
          exact hk _ nf nl H5 q1 q2 q3 q4 q5
        rw [decide_eq_true c2]
        refine iteT ⟨_, rfl, q, _, 1, .int ar.2.1, rfl, rfl, SqT.of hq5, rfl, _, rfl, G, _, rfl, .inl (SqL.of hg5), rfl, ?_, _, rfl, ?_⟩
        · rw [List.all_map]
          exact List.all_eq_true.mpr fun x _ => rfl
        rw [if_pos rfl, inV_intsR]
        by_cases c3 : ar.2.1 ∈ goneP b p'
        · rw [decide_eq_true c3]
          refine iteF ?_
          have e2 : kidB b p' ar = false := by unfold kidB; rw [decide_eq_true c3]; simp
          obtain ⟨u7, nf, nl, _, q1, q2, q3, q4, q5⟩ := none_ (by unfold endB; exact e1) e2
          exact hk _ nf nl H5 q1 q2 q3 q4 q5
        · rw [decide_eq_false c3]
          have e2 : kidB b p' ar = true := by unfold kidB endB; rw [e1, decide_eq_true c1, decide_eq_true c2, decide_eq_false c3]; rfl
          refine iteT ⟨_, rfl, .inl ⟨rfl, _, SqL.of h3⟩, appT rfl fun T hT => ⟨L, lv ++ nl, _, rfl, rfl, (Same.upd hT) _ _ h3, small1000x lLv, ?_⟩⟩
          have sT := Same.upd (o := .tup (pxs ++ [.ref q])) hT
          have kt : ∀ x xs, (upd H5 T (.tup (pxs ++ [.ref q]))) x = some (.tup xs) → (upd (upd H5 T (.tup (pxs ++ [.ref q]))) L (.lst (lv ++ nl ++ [.ref T]))) x = some (.tup xs) := fun x xs e => by
            rw [upd_ne (ne_of e (sT _ _ h3) (by intro z; cases z))]; exact e
          refine hk _ nf (nl ++ [.ref T]) _ (fun x o x1 x2 e => by rw [upd_ne x2]; exact sT _ _ (k5 _ _ x1 x2 e)) (by rw [upd_ne hFL]; exact sT _ _ h1) ?_ (by rw [upd_same, List.append_assoc]) ?_
          · rw [tE, show endB b p' ar = false from by unfold endB; exact e1]
            simpa using (h2.keep sT.tups).keep kt
          · rw [tK, e2]
            exact Paired.snoc ((h4.keep sT.tups).keep kt) ((tupE T _ hT rfl).keep kt)
      refine ⟨_, rfl, q, _, 0, .int ar.1, rfl, rfl, SqT.of hq5, rfl, _, rfl, rfl, _, rfl, ?_⟩
      rw [d1]
      by_cases c1 : ar.1 = hereP b p'
      case neg =>
        rw [decide_eq_false c1]
        refine iteF (iteF ?_)
        exact second (by unfold endB; rw [decide_eq_false c1]; rfl) fun u7 nf nl H' q1 q2 q3 q4 q5 => ⟨u7, nf, nl, rfl, q1, q2, q3, q4, q5⟩
      rw [decide_eq_true c1]
      refine iteT ⟨_, rfl, q, _, 1, .int ar.2.1, rfl, rfl, SqT.of hq5, rfl, _, rfl, rfl, _, rfl, ?_⟩
      rw [d2]
      by_cases c2 : ar.2.1 = b
      case neg =>
        rw [decide_eq_false c2]
        refine iteF ?_
        exact second (by unfold endB; rw [decide_eq_false c2]; simp) fun u7 nf nl H' q1 q2 q3 q4 q5 => ⟨u7, nf, nl, rfl, q1, q2, q3, q4, q5⟩
      rw [decide_eq_true c2]
      have e1 : endB b p' ar = true := by unfold endB; rw [decide_eq_true c1, decide_eq_true c2]; rfl
      refine iteT ⟨_, rfl, .inl ⟨rfl, _, SqL.of h1⟩, appT rfl fun T hT => ⟨F, fv ++ nf, _, rfl, rfl, (Same.upd hT) _ _ h1, small1000x lFv, ?_⟩⟩
      have sT := Same.upd (o := .tup (pxs ++ [.ref q])) hT
      have kt : ∀ x xs, (upd H5 T (.tup (pxs ++ [.ref q]))) x = some (.tup xs) → (upd (upd H5 T (.tup (pxs ++ [.ref q]))) F (.lst (fv ++ nf ++ [.ref T]))) x = some (.tup xs) := fun x xs e => by
        rw [upd_ne (ne_of e (sT _ _ h1) (by intro z; cases z))]; exact e
      refine ⟨_, nf ++ [.ref T], nl, rfl, (fun x o x1 x2 e => by rw [upd_ne x1]; exact sT _ _ (k5 _ _ x1 x2 e)), (by rw [upd_same, List.append_assoc]), ?_, (by rw [upd_ne (Ne.symm hFL)]; exact sT _ _ h3), ?_⟩
      · rw [tE, e1]
        exact Paired.snoc ((h2.keep sT.tups).keep kt) ((tupE T _ hT rfl).keep kt)
      · rw [tK, show kidB b p' ar = false from by unfold kidB; rw [e1]; rfl]
        simpa using (h4.keep sT.tups).keep kt
    · rintro σ H5 ⟨u7, nf, nl, rfl, k5, h1, h2, h3, h4⟩
      rw [hA.length, List.take_of_length_le (Nat.le_refl _)] at h2 h4
      have tp5 : ∀ x xs, H4 x = some (.tup xs) → H5 x = some (.tup xs) := fun x xs e => k5 _ _ (nF _ _ e) (nL _ _ e) e
      refine ⟨_, rfl, _, _, rfl, rfl, ?_⟩
      refine ⟨_, _, _, _, _, _, fv ++ nf, lv ++ nl, fs ++ endsP as b p', ps ++ kidsP as b p', rfl, fun x o e => k5 _ _ (ne_of_none e hF) (ne_of_none e hL0) (s4 _ _ (s1 _ _ e)), h1, Paired.appR (pf4.keep tp5) h2, h3, Paired.appR (pl4.keep tp5) h4, ?_, ?_, ?_, ?_⟩
      · rw [List.drop_append_of_le_length (by omega)]
      · rw [List.length_append]; omega
      · rw [List.drop_append_of_le_length (by omega), List.append_assoc, ← bfs_step nd ok gq]
        exact heq
      · rw [List.length_append]; omega
end
end K24
set_option maxHeartbeats 4000000
/-! E17: plain: all rings of arrows, in their order. -/
namespace L2
open PySem PySem.Spec PyProof.Rows PySem.EX
open PySem.W (AllAlike Sortable dataLe)
def beginsA (n : Int) (as : List Ar) : List Int := (upto n).filter fun x => as.any fun a => decide (a.1 = x)
def ringsA (n : Int) (as : List Ar) : List Pth := (beginsA n as).flatMap (ringsF n as)
def pthD (p : Pth) : PyData := keyD (p.map arD)
def sortR (ps : List Pth) : List Pth := ps.mergeSort (dataLe false pthD)
theorem upto_asc (n : Int) : (upto n).Pairwise (· < ·) := by
  unfold upto
  refine List.Pairwise.map _ (fun a b h => ?_) List.pairwise_lt_range
  show (a : Int) < b
  omega
theorem asc_ext : ∀ {l m : List Int}, l.Pairwise (· < ·) → m.Pairwise (· < ·) → (∀ x, x ∈ l ↔ x ∈ m) → l = m
  | [], [], _, _, _ => rfl
  | [], b :: m, _, _, h => absurd ((h b).mpr List.mem_cons_self) (by simp)
  | a :: l, [], _, _, h => absurd ((h a).mp List.mem_cons_self) (by simp)
  | a :: l, b :: m, h1, h2, h => by
    obtain ⟨a1, a2⟩ := List.pairwise_cons.mp h1
    obtain ⟨b1, b2⟩ := List.pairwise_cons.mp h2
    have e : a = b := by
      rcases List.mem_cons.mp ((h a).mp List.mem_cons_self) with e | e
      · exact e
      · rcases List.mem_cons.mp ((h b).mpr List.mem_cons_self) with e' | e'
        · exact e'.symm
        · have := a1 b e'
          have := b1 a e
          omega
    subst e
    rw [asc_ext a2 b2 fun x => ?_]
    constructor
    · intro hx
      rcases List.mem_cons.mp ((h x).mp (List.mem_cons_of_mem _ hx)) with e | e
      · have := a1 x hx
        omega
      · exact e
    · intro hx
      rcases List.mem_cons.mp ((h x).mpr (List.mem_cons_of_mem _ hx)) with e | e
      · have := b1 x hx
        omega
      · exact e
theorem begins_asc (n : Int) (as : List Ar) : (beginsA n as).Pairwise (· < ·) := List.Pairwise.filter _ (upto_asc n)
theorem mem_begins {n : Int} {as : List Ar} (ok : ∀ a ∈ as, okR n a) {x : Int} : x ∈ beginsA n as ↔ ∃ a ∈ as, a.1 = x := by
  unfold beginsA
  rw [List.mem_filter, mem_upto, List.any_eq_true]
  constructor
  · rintro ⟨_, a, ha, h⟩
    exact ⟨a, ha, of_decide_eq_true h⟩
  · rintro ⟨a, ha, rfl⟩
    have o := ok a ha
    exact ⟨⟨o.1, o.2.1⟩, a, ha, decide_eq_true rfl⟩
/-- sorted keys of the dict of the sources -/
theorem begins_of {n : Int} {as : List Ar} (ok : ∀ a ∈ as, okR n a) {ks ys : List Int} (nd : ks.Nodup) (hm : ∀ x, x ∈ ks ↔ ∃ a ∈ as, a.1 = x) (pm : ys.Perm ks) (pw : ys.Pairwise (· ≤ ·)) : ys = beginsA n as := by
  refine asc_ext ?_ (begins_asc n as) fun x => ?_
  · have hn : ys.Nodup := pm.nodup_iff.mpr nd
    refine (pw.and hn).imp fun {a b} h => ?_
    have := h.1
    have := h.2
    omega
  · rw [pm.mem_iff, hm, mem_begins ok]
theorem begins_len (n : Int) (as : List Ar) : (beginsA n as).length ≤ n.toNat := by
  unfold beginsA
  exact Nat.le_trans (List.length_filter_le _ _) (Nat.le_of_eq (upto_len n))
/-! how many rings, how long they are -/
theorem bfs_len {n b : Int} {as : List Ar} (nd : as.Nodup) (ok : ∀ a ∈ as, okR n a) : ∀ (f : Nat) (q : List Pth), GoodQ n b q → potQ n q ≤ f → (bfs as b f q).length ≤ 2 * potQ n q
  | 0, q, _, _ => by simp [bfs]
  | f + 1, [], _, _ => by simp [bfs]
  | f + 1, p :: q, g, h => by
    have s := pot_step nd ok (q := q) (g p List.mem_cons_self)
    show (endsP as b p ++ bfs as b f (q ++ kidsP as b p)).length ≤ _
    rw [List.length_append]
    have h1 := bfs_len nd ok f _ (g.step ok) (by omega)
    have h2 := ends_le (b := b) (p := p) nd ok
    omega
theorem bfs_short {n b : Int} {as : List Ar} (ok : ∀ a ∈ as, okR n a) : ∀ (f : Nat) (q : List Pth), GoodQ n b q → ∀ r ∈ bfs as b f q, r.length ≤ n.toNat
  | 0, q, _, r, hr => by simp [bfs] at hr
  | f + 1, [], _, r, hr => by simp [bfs] at hr
  | f + 1, p :: q, g, r, hr => by
    rcases List.mem_append.mp (show r ∈ endsP as b p ++ bfs as b f (q ++ kidsP as b p) from hr) with hr | hr
    · obtain ⟨a, _, rfl⟩ := List.mem_map.mp hr
      have := (g p List.mem_cons_self).len
      rw [List.length_append, List.length_singleton]
      omega
    · exact bfs_short ok f _ (g.step ok) r hr
theorem ringsF_len {n b : Int} {as : List Ar} (nd : as.Nodup) (ok : ∀ a ∈ as, okR n a) (h0 : 0 ≤ b) (h1 : b < n) (n5 : n ≤ 5) : (ringsF n as b).length ≤ 1266 := by
  have := bfs_len nd ok (potQ n [[]]) [[]] (good_nil h0 h1) (Nat.le_refl _)
  have := pot0 n5
  unfold ringsF
  omega
theorem ringsF_short {n b : Int} {as : List Ar} (ok : ∀ a ∈ as, okR n a) (h0 : 0 ≤ b) (h1 : b < n) : ∀ r ∈ ringsF n as b, r.length ≤ n.toNat := bfs_short ok _ _ (good_nil h0 h1)
def InP (as : List Ar) (q : List Pth) : Prop := ∀ p ∈ q, ∀ a ∈ p, a ∈ as
theorem bfs_in {as : List Ar} (b : Int) : ∀ (f : Nat) (q : List Pth), InP as q → InP as (bfs as b f q)
  | 0, q, _ => fun r hr => by simp [bfs] at hr
  | f + 1, [], _ => fun r hr => by simp [bfs] at hr
  | f + 1, p :: q, g => fun r hr => by
    have one : ∀ (t : Ar → Bool), ∀ r ∈ (as.filter t).map (fun a => p ++ [a]), ∀ a ∈ r, a ∈ as := fun t r hr a ha => by
      obtain ⟨x, hx, rfl⟩ := List.mem_map.mp hr
      rcases List.mem_append.mp ha with ha | ha
      · exact g p List.mem_cons_self a ha
      · rw [List.mem_singleton.mp ha]
        exact (List.mem_filter.mp hx).1
    rcases List.mem_append.mp (show r ∈ endsP as b p ++ bfs as b f (q ++ kidsP as b p) from hr) with hr | hr
    · exact one _ r hr
    · refine bfs_in b f _ (fun x hx => ?_) r hr
      rcases List.mem_append.mp hx with hx | hx
      · exact g x (List.mem_cons_of_mem _ hx)
      · exact one _ x hx
theorem ringsA_in {n : Int} {as : List Ar} : InP as (ringsA n as) := fun r hr => by
  obtain ⟨b, _, h⟩ := List.mem_flatMap.mp hr
  exact bfs_in b _ _ (fun p hp a ha => by rw [List.mem_singleton.mp hp] at ha; cases ha) r h
/-- the product of the signs -/
def signP (p : Pth) : Int := p.foldl (fun s a => s * a.2.2) 1
theorem signP_snoc (p : Pth) (a : Ar) : signP (p ++ [a]) = signP p * a.2.2 := by unfold signP; rw [List.foldl_append]; rfl
theorem signs_one {l : List Ar} (h : ∀ a ∈ l, a.2.2 = 1 ∨ a.2.2 = -1) : ∀ s : Int, s = 1 ∨ s = -1 → l.foldl (fun s a => s * a.2.2) s = 1 ∨ l.foldl (fun s a => s * a.2.2) s = -1 := by
  induction l with
  | nil => exact fun s hs => hs
  | cons a l ih =>
    intro s hs
    refine ih (fun x hx => h x (List.mem_cons_of_mem _ hx)) _ ?_
    rcases hs with rfl | rfl <;> rcases h a List.mem_cons_self with e | e <;> dsimp only <;> rw [e] <;> decide
theorem signP_one {p : Pth} (h : ∀ a ∈ p, a.2.2 = 1 ∨ a.2.2 = -1) : signP p = 1 ∨ signP p = -1 := signs_one h 1 (.inl rfl)
def signsA (as : List Ar) : List Int := (sortR (ringsA 5 as)).map signP
/-- whether all nets have a rest, at most one, just one -/
def telA (as : List Ar) : Bool × Bool × Bool := (!decide ((-1 : Int) ∈ signsA as), !decide ((1 : Int) ∈ signsA as), decide (signsA as = []))
theorem flat_len {α β : Type} (f : α → List β) (m : Nat) : ∀ (l : List α), (∀ x ∈ l, (f x).length ≤ m) → (l.flatMap f).length ≤ l.length * m
  | [], _ => by simp
  | x :: l, h => by
    rw [List.flatMap_cons, List.length_append, List.length_cons, Nat.succ_mul]
    have := flat_len f m l fun y hy => h y (List.mem_cons_of_mem _ hy)
    have := h x List.mem_cons_self
    omega
end L2
set_option maxHeartbeats 4000000
namespace K24
open PySem L2 PySem.EX PyProof.Rows
open LamX (Tabs ExtN TabB)
open PySem.W (AllAlike Sortable dataLe)
theorem dc_lstR {K : PySem.W.Frag} {a : Addr} {xs : List V} {g : TG} {tt : TT} {tk tv : TE} {vs : List Nat} {σ : L2.St} {H1 : Hp} {D : Addr} {Qd : Hp → Prop} (Pv : Nat → Hp → Prop) (h0 : Pv 0 (upd H1 D (.dK []))) (hl : ∀ i H, i ≤ xs.length → Pv i H → SqL K H a xs)
    (hs : ∀ i x H, xs[i]? = some x → Pv i H → g x (wipe σ vs) H fun σ2 H2 => wipe σ2 vs = wipe σ vs ∧ tt σ2 H2 fun b H3 =>
      if b = true then tk σ2 H3 fun y H4 => tv σ2 H4 fun z H5 => ∃ kvs k, y = kV k ∧ H5 D = some (.dK kvs) ∧ kvs.length < sizeLine ∧ Pv (i + 1) (upd H5 D (.dK (putK kvs k z))) else Pv (i + 1) H3) (hd : ∀ H, Pv xs.length H → Qd H) :
    ∃ W : Nat → Nat → Hp → Prop, (∃ m, W 0 m (upd H1 D (.dK []))) ∧ ∀ i m H, W i m H →
      ((Itl K a).stop i H ∧ Qd H) ∨ ((Itl K a).go i H ∧ ∃ Nx : Hp → Prop, (∀ H', Nx H' → ∃ m', m' < m ∧ W (i + 1) m' H') ∧ ∀ x H', (Itl K a).yld i H x H' → g x (wipe σ vs) H' fun σ2 H2 => wipe σ2 vs = wipe σ vs ∧ tt σ2 H2 fun b H3 =>
        if b = true then tk σ2 H3 fun y H4 => tv σ2 H4 fun z H5 => ∃ kvs k, y = kV k ∧ H5 D = some (.dK kvs) ∧ kvs.length < sizeLine ∧ Nx (upd H5 D (.dK (putK kvs k z))) else Nx H3) := by
  refine ⟨fun i m H => m = xs.length - i ∧ i ≤ xs.length ∧ Pv i H, ⟨xs.length, by simp, Nat.zero_le _, h0⟩, ?_⟩
  rintro i m H ⟨rfl, hi, p⟩
  have q := hl i H hi p
  by_cases hlt : i < xs.length
  · refine .inr ⟨⟨xs, xs[i], q, by simp [hlt]⟩, Pv (i + 1), fun H' p' => ⟨xs.length - (i + 1), by omega, rfl, hlt, p'⟩, fun x H' y => ?_⟩
    obtain ⟨e, y⟩ := y
    subst e
    exact hs i x _ (y xs q) p
  · have e : i = xs.length := by omega
    subst e
    exact .inl ⟨⟨xs, q, Nat.le_refl _⟩, hd H p⟩
theorem put_keys_in {kvs : List (Key × V)} {k : Key} (v : V) (h : k ∈ kvs.map (·.1)) : (putK kvs k v).map (·.1) = kvs.map (·.1) := by
  obtain ⟨p, hp, e⟩ := List.mem_map.mp h
  have ha : kvs.any (fun kv => decide (kv.1 = k)) = true := List.any_eq_true.mpr ⟨p, hp, decide_eq_true e⟩
  unfold putK
  rw [if_pos ha, List.map_map]
  refine List.map_congr_left fun x _ => ?_
  show (if x.1 = k then (x.1, v) else x).1 = x.1
  split <;> rfl
theorem put_keys_new {kvs : List (Key × V)} {k : Key} (v : V) (h : ¬ k ∈ kvs.map (·.1)) : (putK kvs k v).map (·.1) = kvs.map (·.1) ++ [k] := by
  have ha : ¬ kvs.any (fun kv => decide (kv.1 = k)) = true := fun q => by
    obtain ⟨p, hp, e⟩ := List.any_eq_true.mp q
    exact h (List.mem_map.mpr ⟨p, hp, of_decide_eq_true e⟩)
  unfold putK
  rw [if_neg ha, List.map_append]
  rfl
theorem pths_ext {H H' : Hp} {vs : List V} {ps : List Pth} (e : ExtN H H') (h : Pths H vs ps) : Pths H' vs ps := h.keep (ExtN.tups e)
theorem pths_zip {H : Hp} : ∀ {vs : List V} {ps : List Pth}, Pths H vs ps → ∃ l : List (V × Pth), l.map (·.1) = vs ∧ l.map (·.2) = ps ∧ ∀ p ∈ l, PthV H p.1 p.2
  | _, _, .nil => ⟨[], rfl, rfl, fun _ h => nomatch h⟩
  | v :: vs, a :: as, .cons h t => by
    obtain ⟨l, e1, e2, e3⟩ := pths_zip t
    refine ⟨(v, a) :: l, by rw [List.map_cons, e1], by rw [List.map_cons, e2], fun p hp => ?_⟩
    rcases List.mem_cons.mp hp with e | hp
    · subst e; exact h
    · exact e3 p hp
theorem pths_of {H : Hp} : ∀ {l : List (V × Pth)}, (∀ p ∈ l, PthV H p.1 p.2) → Pths H (l.map (·.1)) (l.map (·.2))
  | [], _ => .nil
  | p :: l, h => .cons (h p List.mem_cons_self) (pths_of fun q hq => h q (List.mem_cons_of_mem _ hq))
theorem alikeAll_ars : ∀ (p q : List Ar), PySem.W.alikeAll (p.map arD) (q.map arD) = true
  | [], _ => by simp [PySem.W.alikeAll]
  | _ :: _, [] => by simp [PySem.W.alikeAll]
  | a :: p, b :: q => by
    show PySem.W.alikeAll (arD a :: p.map arD) (arD b :: q.map arD) = true
    rw [PySem.W.alikeAll, alikeAll_ars p q, alike_ar]
    rfl
theorem alike_pth (p q : Pth) : PySem.W.alike (pthD p) (pthD q) = true := by
  unfold pthD keyD
  simp [PySem.W.alike, PySem.W.alikeAll, alikeAll_ars]
abbrev lamQr (x : Str) : Str := x ++ Str.ofString ".<locals>." ++ Str.ofString "<lambda>"
structure TxRa (K : PySem.W.Frag) (mg : Str → Option Value) (c : Addr) : Prop where
  ra : DefT K mg "rings_among" (top 26) c
section
variable {P : Program} {w : World} {K : PySem.W.Frag} {mg : Str → Option Value} {base : Heap}
abbrev nRa : List Str := ["several", "found", "begin", "source", "target", "sign"]
theorem scRa : FnScope nRa ["several"] (defScope (top 26)) := ⟨rfl, rfl, rfl, by decide +kernel, rfl, by decide +kernel, by decide +kernel⟩
def spRa (K : PySem.W.Frag) (T : List (Addr × Str)) : Sp := fun vs H Q _ => ∃ (a : Addr) (n : Int) (xs : List V) (as : List Ar), vs = [.ref a] ∧ H a = some (.lst xs) ∧ Ars H xs as ∧ as.Nodup ∧ (∀ y ∈ as, okR n y) ∧ n ≤ 5 ∧ as.length ≤ 1000 ∧ Tabs T H ∧
  ∀ (l : Addr) (zs : List V) H', ExtN H H' → Tabs T H' → H' l = some (.lst zs) → Pths H' zs (sortR (ringsA n as)) → Q (.ref l) H'
theorem ok_ra {T : List (Addr × Str)} {Pt c : Addr} (R : TxR K mg) (Ra : TxRa K mg c) (TB : TabB base mg c Pt) (hm : (Pt, lamQr "rings_among") ∈ T) (hu : ∀ p ∈ T, p.1 = Pt → p.2 = lamQr "rings_among") : Fnc P w K mg base CX0 2 "rings_among" ["several"] (spRa K T) := by
  have GF : Fnc P w K mg base CX0 1 "rings_from" ["several", "begin"] (spRf K) := ok_rf R
  refine fncT' Ra.ra scRa (fun vs H Q E h => ?_) (fun _ _ _ _ _ _ us hl => match us, hl with | [_], _ => rfl) (fun A outer s H vs Q E hr h => ?_)
  · obtain ⟨a, n, xs, as, rfl, _⟩ := h
    rfl
  · obtain ⟨a, n, xs, as, rfl, ha, hA, nd, ok, n5, hal, hT, k⟩ := h
    have hN := scRa.nd
    have hu64 : (A.deeper (envOfC "rings_among" (defScope (top 26)) s.heap.objs.size (He.ga K "rings_among") (.ref c))).units + 64 < cLine := by
      have := hr.un
      omega
    have hrm : (A.deeper (envOfC "rings_among" (defScope (top 26)) s.heap.objs.size (He.ga K "rings_among") (.ref c))).depth < recursionLimit := by
      have := hr.dp
      omega
    refine ⟨_, pss_cons (ps_set (i := 1) hN rfl (Or.inl rfl) (pe_lst pa_nil))
      (pss_cons (ps_for PassesOwn.never rfl (pi_list (pe_callB (call_sortedDI rfl) (by rfl) R.rsorted (by rfl) (pa_cons
          (pe_dc (own := [("source", 3), ("target", 4), ("sign", 5)]) (g := gTup K 3 (gCons (gName 3) (gCons (gName 4) (gCons (gName 5) gNil)))) (tt := tYes) rfl hN (pi_list (pv 0)) (blkOk_by (N := nRa) (sc := defScope (top 26)) (by decide +kernel))
            (fun _ _ _ _ _ => pg_tup rfl (pgs_cons (pg_name (i := 3) hN rfl (Or.inl rfl)) (pgs_cons (pg_name (i := 4) hN rfl (Or.inl rfl)) (pgs_cons (pg_name (i := 5) hN rfl (Or.inl rfl)) pgs_nil)))) (fun _ _ _ _ _ => pts_nil) (fun _ _ _ _ _ => pv 3) (fun _ _ _ _ _ => pe_non)) pa_nil))) (pg_name (i := 2) hN rfl (Or.inl rfl))
        (pss_one (ps_expr (pe_bm PySem.F.plainAttrs_list PySem.F.slot_list_extend PySem.F.type_list_extend mt_extend (pv 1) (pa_cons (pe_fn GF hr pass0 (pa_cons (pv 0) (pa_cons (pv 2) pa_nil))) pa_nil)))))
      (pss_one (ps_ret (pe_sortKey (T := T) (P := Pt) (c := c) (te := tVar 1) (pa_cons (pv 1) pa_nil) R.rsorted R.rlen hu64 hrm TB rfl hm hu)))), ?_⟩
    refine ⟨by decide, fun F hF => ?_⟩
    have sF : Same H (upd H F (.lst [])) := Same.upd hF
    have aF : a ≠ F := ne_of_none ha hF
    have hF1 : (upd H F (.lst [])) F = some (.lst []) := upd_same
    generalize (upd H F (.lst [])) = H1 at sF hF1 ⊢
    have ha1 := sF _ _ ha
    have hA1 := hA.keep sF.tups
    -- the sources
    refine ⟨_, rfl, a, rfl, ⟨_, SqL.of ha1⟩, fun D hD => dc_lstR (K := K) (a := a) (xs := xs) (fun i H2 => Same H1 H2 ∧ ∃ (kvs : List (Key × V)) (ks : List Int), H2 D = some (.dK kvs) ∧ kvs.map (·.1) = ks.map Sum.inl ∧ ks.Nodup ∧ kvs.length ≤ i ∧ ∀ x, x ∈ ks ↔ ∃ a ∈ as.take i, a.1 = x)
      ⟨Same.upd hD, [], [], upd_same, rfl, List.nodup_nil, Nat.le_refl _, fun x => by simp⟩ (fun i H2 _ h => SqL.of (h.1 _ _ ha1)) ?_ ?_⟩
    · rintro i x H2 hx ⟨s2, kvs, ks, hk, hks, knd, kl, hm⟩
      obtain ⟨ar, har, q, rfl, hq⟩ := Ars.get hA1 hx
      have hi := (List.getElem?_eq_some_iff.mp har).1
      refine ⟨q, _, rfl, SqT.of (s2 _ _ hq), rfl, _, _, rfl, _, _, rfl, _, _, rfl, rfl, rfl, ?_⟩
      refine ⟨_, rfl, kvs, .inl ar.1, rfl, hk, small1000x (by omega), s2.put hD, ?_⟩
      have hmem : ((Sum.inl ar.1 : Key) ∈ kvs.map (·.1)) ↔ ar.1 ∈ ks := by rw [hks, List.mem_map]; exact ⟨fun ⟨y, hy, e⟩ => by rw [← Sum.inl.inj e]; exact hy, fun h => ⟨_, h, rfl⟩⟩
      have ht : ∀ x, (∃ a ∈ as.take (i + 1), a.1 = x) ↔ ((∃ a ∈ as.take i, a.1 = x) ∨ x = ar.1) := fun x => by
        rw [List.take_succ, har]
        constructor
        · rintro ⟨y, hy, e⟩
          rcases List.mem_append.mp hy with hy | hy
          · exact .inl ⟨y, hy, e⟩
          · have : y = ar := by simpa using hy
            exact .inr (by rw [← e, this])
        · rintro (⟨y, hy, e⟩ | e)
          · exact ⟨y, List.mem_append_left _ hy, e⟩
          · exact ⟨ar, List.mem_append_right _ (by simp), e.symm⟩
      by_cases hin : ar.1 ∈ ks
      · have e1 := put_keys_in .non (hmem.mpr hin)
        refine ⟨_, ks, upd_same, e1.trans hks, knd, Nat.le_trans (length_putK _ _ _) (by omega), fun x => ?_⟩
        rw [ht, ← hm]
        exact ⟨.inl, fun h => h.elim id fun e => by rw [e]; exact hin⟩
      · have e1 := put_keys_new .non fun h => hin (hmem.mp h)
        refine ⟨_, ks ++ [ar.1], upd_same, by rw [e1, hks, List.map_append]; rfl, List.nodup_append.mpr ⟨knd, by simp, fun x hx y hy e => hin (by rw [← List.mem_singleton.mp hy, ← e]; exact hx)⟩, Nat.le_trans (length_putK _ _ _) (by omega), fun x => ?_⟩
        rw [ht, ← hm, List.mem_append, List.mem_singleton]
    rintro H2 ⟨s2, kvs, ks, hk, hks, knd, kl, hmk⟩
    rw [hA.length, List.take_of_length_le (Nat.le_refl _)] at hmk
    refine ⟨D, kvs, ks, rfl, .inl hk, hks, ?_, fun ys p pm pw hp => ?_⟩
    · have h1 : ks.length ≤ (upto n).length := nodup_le knd fun x hx => by
        obtain ⟨y, hy, e⟩ := (hmk x).mp hx
        have o := ok y hy
        rw [← e]
        exact mem_upto.mpr ⟨o.1, o.2.1⟩
      rw [upto_len] at h1
      omega
    have eb := begins_of ok knd hmk pm pw
    rw [eb]
    have s3 : Same H2 (upd H2 p (.lst ((beginsA n as).map V.int))) := Same.upd hp
    have hp3 : (upd H2 p (.lst ((beginsA n as).map V.int))) p = some (.lst ((beginsA n as).map V.int)) := upd_same
    have pF : p ≠ F := fun e => by
      rw [e, s2 _ _ hF1] at hp
      cases hp
    generalize (upd H2 p (.lst ((beginsA n as).map V.int))) = H3 at s3 hp3 ⊢
    have s13 := s2.trans s3
    have nF : ∀ x ys, H3 x = some (.tup ys) → x ≠ F := fun x ys e => ne_of e (s13 _ _ hF1) (by intro z; cases z)
    refine ⟨p, rfl, ⟨_, SqL.of hp3⟩, for_list (K := K) (a := p) (xs := (beginsA n as).map V.int) (fun i σ H' => ∃ (u2 u3 u4 u5 : Option V) (zs : List V), σ = [some (.ref a), some (.ref F), u2, u3, u4, u5] ∧ (∀ x o, x ≠ F → H3 x = some o → H' x = some o) ∧ H' F = some (.lst zs) ∧ Pths H' zs (((beginsA n as).take i).flatMap (ringsF n as)))
      ⟨_, _, _, _, [], rfl, fun x o _ e => e, s13 _ _ hF1, .nil⟩ (fun i σ H' _ h => ?_) ?_ ?_⟩
    · obtain ⟨_, _, _, _, _, _, k4, _⟩ := h
      exact SqL.of (k4 _ _ pF hp3)
    · rintro i x σ H4 hx ⟨u2, u3, u4, u5, zs, rfl, k4, hz, hP⟩
      obtain ⟨b, hb, rfl⟩ := map_get hx
      have hi := (List.getElem?_eq_some_iff.mp hb).1
      obtain ⟨y, hy, ey⟩ := (mem_begins ok).mp (List.mem_of_getElem? hb)
      have o : 0 ≤ b ∧ b < n := by
        have o := ok y hy
        rw [← ey]
        exact ⟨o.1, o.2.1⟩
      have tp4 : ∀ x ys, H3 x = some (.tup ys) → H4 x = some (.tup ys) := fun x ys e => k4 _ _ (nF _ _ e) e
      have hA4 := (hA1.keep s13.tups).keep tp4
      refine ⟨_, rfl, .inl ⟨rfl, _, SqL.of hz⟩, ?_⟩
      refine ⟨_, rfl, _, rfl, a, b, n, xs, as, rfl, k4 _ _ aF (s13 _ _ ha1), hA4, nd, ok, n5, o.1, o.2, fun l ws H5 s5 hl hw hW => ?_⟩
      have bl := begins_len n as
      have l1 : zs.length ≤ 5 * 1266 := by
        rw [hP.length]
        have := flat_len (ringsF n as) 1266 ((beginsA n as).take i) fun b hb => by
          obtain ⟨y, hy, ey⟩ := (mem_begins ok).mp (List.mem_of_mem_take hb)
          have o : 0 ≤ b ∧ b < n := by
            have o := ok y hy
            rw [← ey]
            exact ⟨o.1, o.2.1⟩
          exact ringsF_len nd ok o.1 o.2 n5
        rw [List.length_take] at this
        omega
      have l2 : ws.length ≤ 1266 := by
        rw [hW.length]
        exact ringsF_len nd ok o.1 o.2 n5
      refine ⟨F, l, zs, ws, rfl, rfl, s5 _ _ hz, hw, Nat.le_trans (m := 10000) (by omega) (by decide), ?_⟩
      have kt : ∀ x xs, H5 x = some (.tup xs) → (upd H5 F (.lst (zs ++ ws))) x = some (.tup xs) := fun x xs e => by
        rw [upd_ne (ne_of e (s5 _ _ hz) (by intro z; cases z))]; exact e
      refine ⟨_, _, _, _, zs ++ ws, rfl, fun x o hx e => by rw [upd_ne hx]; exact s5 _ _ (k4 _ _ hx e), upd_same, ?_⟩
      rw [List.take_succ, hb, List.flatMap_append]
      refine Paired.appR ((hP.keep s5.tups).keep kt) ?_
      simpa using hW.keep kt
    · rintro σ H4 ⟨u2, u3, u4, u5, zs, rfl, k4, hz, hP⟩
      rw [List.length_map, List.take_of_length_le (Nat.le_refl _)] at hP
      have x14 : Same H H4 := fun x o e => k4 _ _ (ne_of_none e hF) (s13 _ _ (sF _ _ e))
      obtain ⟨l, e1, e2, e3⟩ := pths_zip hP
      have hsh : ∀ b ∈ l, b.2.length ≤ 5 := fun b hb => by
        have hm2 : b.2 ∈ ringsA n as := by
          show b.2 ∈ (beginsA n as).flatMap (ringsF n as)
          rw [← e2]
          exact List.mem_map_of_mem hb
        obtain ⟨x, hx, hr2⟩ := List.mem_flatMap.mp hm2
        obtain ⟨y, hy, ey⟩ := (mem_begins ok).mp hx
        have o : 0 ≤ x ∧ x < n := by
          have o := ok y hy
          rw [← ey]
          exact ⟨o.1, o.2.1⟩
        have := ringsF_short ok o.1 o.2 _ hr2
        omega
      refine ⟨_, rfl, hT.ext x14, F, l.map (fun x => (x.1, x.2.map arD)), rfl, ?_, ?_, ?_, fun H5 x5 T5 q hq => ?_⟩
      · rw [List.map_map]
        have e : ((fun b : V × List PyData => b.1) ∘ fun x : V × Pth => (x.1, x.2.map arD)) = fun x => x.1 := rfl
        rw [e, e1]
        exact SqL.of hz
      · intro b hb
        obtain ⟨x, hx, rfl⟩ := List.mem_map.mp hb
        obtain ⟨ax, xs2, ex, g1, g2⟩ := e3 x hx
        refine ⟨?_, NoL.tup fun d hd => ?_, ?_, ?_⟩
        · show Dp K H4 x.1 _
          rw [ex]
          exact .tup (SqT.of g1) g2.dp
        · obtain ⟨y, _, rfl⟩ := List.mem_map.mp hd
          refine NoL.tup fun d hd => ?_
          obtain ⟨z, _, rfl⟩ := List.mem_map.mp hd
          exact NoL.int z
        · show (x.2.map arD).length ≤ 1000
          rw [List.length_map]
          have := hsh x hx
          omega
        · show (PyData.tuple (x.2.map arD)).depth ≤ 7
          rw [PyData.depth]
          exact Nat.le_trans (Nat.succ_le_succ (dep_map dep_ar x.2)) (by decide)
      · rw [List.map_map]
        exact AllAlike.of fun b b' => alike_pth b.2 b'.2
      · have m1 : (l.mergeSort fun p q => dataLe false pthD p.2 q.2).map (fun x : V × Pth => (x.1, x.2.map arD)) = (l.map fun x => (x.1, x.2.map arD)).mergeSort (dataLe false fun b : V × List PyData => keyD b.2) := List.map_mergeSort fun p _ q _ => rfl
        have m2 : (l.mergeSort fun p q => dataLe false pthD p.2 q.2).map (fun x : V × Pth => x.2) = (l.map fun x => x.2).mergeSort (dataLe false pthD) := List.map_mergeSort fun p _ q _ => rfl
        rw [← m1, List.map_map]
        have s6 : Same H5 (upd H5 q (.lst ((l.mergeSort fun p q => dataLe false pthD p.2 q.2).map ((fun b : V × List PyData => b.1) ∘ fun x : V × Pth => (x.1, x.2.map arD))))) := Same.upd hq
        refine k q _ _ (((ExtN.of x14).trans x5).trans (ExtN.of s6)) (T5.ext s6) upd_same ?_
        show Pths _ _ ((ringsA n as).mergeSort (dataLe false pthD))
        rw [show ringsA n as = l.map fun x => x.2 from e2.symm, ← m2]
        exact pths_of fun p hp => (e3 p ((List.mergeSort_perm l _).mem_iff.mp hp)).keep fun b xs e => s6 _ _ (ExtN.tups x5 _ _ e)
end
end K24
set_option maxHeartbeats 4000000
namespace K24
open PySem L2 PySem.EX PyProof.Rows
open LamX (Tabs ExtN TabB)
structure TxRt (K : PySem.W.Frag) (mg : Str → Option Value) : Prop where
  prings : Def K mg "plan_rings_by" (top 39)
  tel : Def K mg "telling_by" (top 52)
  rlist : mg "list" = none
section
variable {P : Program} {w : World} {K : PySem.W.Frag} {mg : Str → Option Value} {base : Heap}
abbrev nSgn : List Str := ["ring", "found", "source", "target", "sign"]
theorem scSgn : FnScope nSgn ["ring"] (defScope (top 24)) := ⟨rfl, rfl, rfl, by decide +kernel, rfl, by decide +kernel, by decide +kernel⟩
def spSgn (K : PySem.W.Frag) : Sp := fun vs H Q _ => ∃ (v : V) (p : Pth), vs = [v] ∧ PthV H v p ∧ (∀ a ∈ p, a.2.2 = 1 ∨ a.2.2 = -1) ∧ Q (.int (signP p)) H
theorem ok_sgn (R : TxR K mg) : Fnc P w K mg base CX0 1 "ring_sign" ["ring"] (spSgn K) := by
  refine fnc0 R.rsign scSgn (fun vs H Q E h => ?_) (fun _ _ _ _ _ _ us hl => match us, hl with | [_], _ => rfl) (fun cdv A outer s H vs Q E hr h => ?_)
  · obtain ⟨v, p, rfl, _⟩ := h
    rfl
  · obtain ⟨v, p, rfl, ⟨a, xs, rfl, ha, hA⟩, hs, k⟩ := h
    have hN := scSgn.nd
    refine ⟨_, pss_cons (ps_set (i := 1) hN rfl (Or.inl rfl) pe_int)
      (pss_cons (ps_for PassesOwn.never rfl (pi_tup (pv 0)) (pg_tup rfl (pgs_cons (pg_name (i := 2) hN rfl (Or.inl rfl)) (pgs_cons (pg_name (i := 3) hN rfl (Or.inl rfl)) (pgs_cons (pg_name (i := 4) hN rfl (Or.inl rfl)) pgs_nil))))
        (pss_one (ps_set (i := 1) hN rfl (Or.inl rfl) (pe_op op_mul (pv 1) (pv 4)))))
      (pss_one (ps_ret (pv 1)))), ?_⟩
    refine ⟨_, rfl, a, rfl, ⟨_, SqT.of ha⟩, for_tup (K := K) (a := a) (xs := xs) (fun i σ H' => ∃ (u2 u3 u4 : Option V), σ = [some (.ref a), some (.int (signP (p.take i))), u2, u3, u4] ∧ H' = H) ⟨_, _, _, rfl, rfl⟩ (fun i σ H' _ h => ?_) ?_ ?_⟩
    · obtain ⟨_, _, _, _, rfl⟩ := h
      exact SqT.of ha
    · rintro i x σ H' hx ⟨u2, u3, u4, rfl, rfl⟩
      obtain ⟨ar, har, q, rfl, hq⟩ := Ars.get hA hx
      have h1 := hs ar (List.mem_of_getElem? har)
      refine ⟨q, _, rfl, SqT.of hq, rfl, _, _, rfl, _, _, rfl, _, _, rfl, rfl, ?_⟩
      refine ⟨_, rfl, _, rfl, _, _, rfl, rfl, .inr ⟨by rcases h1 with e | e <;> rw [e] <;> decide, by rcases h1 with e | e <;> rw [e] <;> decide⟩, ?_⟩
      refine ⟨some (.int ar.1), some (.int ar.2.1), some (.int ar.2.2), ?_, rfl⟩
      rw [List.take_succ, har]
      show _ = [some (V.ref a), some (V.int (signP (p.take i ++ [ar]))), some (V.int ar.1), some (V.int ar.2.1), some (V.int ar.2.2)]
      rw [signP_snoc]
      rfl
    · rintro σ H' ⟨u2, u3, u4, rfl, rfl⟩
      rw [hA.length, List.take_of_length_le (Nat.le_refl _)]
      exact ⟨_, rfl, k⟩
theorem scPrBy : FnScope ["plan"] ["plan"] (defScope (top 39)) := ⟨rfl, rfl, rfl, by decide +kernel, rfl, by decide +kernel, by decide +kernel⟩
def spPrBy (K : PySem.W.Frag) (T : List (Addr × Str)) : Sp := fun vs H Q _ => ∃ (x : Addr) (n : Int) (as : List Ar), vs = [.ref x] ∧ PlanAt K H x n as ∧ PlOk n as ∧ as.length ≤ 1000 ∧ Tabs T H ∧
  ∀ (l : Addr) (zs : List V) H', ExtN H H' → Tabs T H' → H' l = some (.lst zs) → Pths H' zs (sortR (ringsA 5 as)) → Q (.ref l) H'
theorem ok_prBy {T : List (Addr × Str)} {Pt c : Addr} (C : TxC K mg) (R : TxR K mg) (Ra : TxRa K mg c) (Rt : TxRt K mg) (TB : TabB base mg c Pt) (hm : (Pt, lamQr "rings_among") ∈ T) (hu : ∀ p ∈ T, p.1 = Pt → p.2 = lamQr "rings_among") : Fnc P w K mg base CX0 4 "plan_rings_by" ["plan"] (spPrBy K T) := by
  have GA : Fnc P w K mg base CX0 2 "rings_among" ["several"] (spRa K T) := ok_ra R Ra TB hm hu
  refine fnc0 Rt.prings scPrBy (fun vs H Q E h => ?_) (fun _ _ _ _ _ _ us hl => match us, hl with | [_], _ => rfl) (fun cdv A outer s H vs Q E hr h => ?_)
  · obtain ⟨x, n, as, rfl, _⟩ := h
    rfl
  · obtain ⟨x, n, as, rfl, px, ok, hal, hT, k⟩ := h
    have h2 := hr.mono (show 2 ≤ 3 by decide)
    refine ⟨_, pss_one (ps_ret (pe_fn GA h2 pass0 (pa_cons (pe_callTy call_list_of (by rfl) Rt.rlist (by decide +kernel) (pa_cons (pe_prp (pv 0) C (prp_ar C) h2) pa_nil)) pa_nil))), ?_⟩
    obtain ⟨dx, t, ys, e1, e2, e3⟩ := px
    refine ⟨_, rfl, x, dx, _, rfl, e1, x, dx, _, .ref t, rfl, e1, rfl, ?_⟩
    refine ⟨t, _, rfl, .inr (SqT.of e2), fun l hl => ?_⟩
    have s1 : Same H (upd H l (.lst ys)) := Same.upd hl
    exact ⟨l, 5, ys, as, rfl, upd_same, e3.keep s1.tups, ok.nd, fun y hy => (by have o := ok.ok y hy; have := ok.n1; exact ⟨o.1, by have := o.2.1; omega, o.2.2.1, by have := o.2.2.2.1; omega, o.2.2.2.2⟩), by decide, hal, hT.ext s1, fun l2 zs H' x2 T2 h1 h2 => k l2 zs H' ((ExtN.of s1).trans x2) T2 h1 h2⟩
abbrev nTellBy : List Str := ["plan", "signs", "ring"]
theorem scTellBy : FnScope nTellBy ["plan"] (defScope (top 52)) := ⟨rfl, rfl, rfl, by decide +kernel, rfl, by decide +kernel, by decide +kernel⟩
def spTellBy (K : PySem.W.Frag) (T : List (Addr × Str)) : Sp := fun vs H Q _ => ∃ (x : Addr) (n : Int) (as : List Ar), vs = [.ref x] ∧ PlanAt K H x n as ∧ PlOk n as ∧ as.length ≤ 1000 ∧ Tabs T H ∧
  ∀ (p : Addr) H', ExtN H H' → Tabs T H' → H' p = some (.tup [.bl (telA as).1, .bl (telA as).2.1, .bl (telA as).2.2]) → Q (.ref p) H'
theorem ok_tellBy {T : List (Addr × Str)} {Pt c : Addr} (C : TxC K mg) (R : TxR K mg) (Ra : TxRa K mg c) (Rt : TxRt K mg) (TB : TabB base mg c Pt) (hm : (Pt, lamQr "rings_among") ∈ T) (hu : ∀ p ∈ T, p.1 = Pt → p.2 = lamQr "rings_among") : Fnc P w K mg base CX0 5 "telling_by" ["plan"] (spTellBy K T) := by
  have GP : Fnc P w K mg base CX0 4 "plan_rings_by" ["plan"] (spPrBy K T) := ok_prBy C R Ra Rt TB hm hu
  have GS : Fnc P w K mg base CX0 1 "ring_sign" ["ring"] (spSgn K) := ok_sgn R
  refine fnc0 Rt.tel scTellBy (fun vs H Q E h => ?_) (fun _ _ _ _ _ _ us hl => match us, hl with | [_], _ => rfl) (fun cdv A outer s H vs Q E hr h => ?_)
  · obtain ⟨x, n, as, rfl, _⟩ := h
    rfl
  · obtain ⟨x, n, as, rfl, px, ok, hal, hT, k⟩ := h
    have hN := scTellBy.nd
    have h1 := hr.mono (show 1 ≤ 4 by decide)
    refine ⟨_, pss_cons (ps_setLc (i := 1) (own := [("ring", 2)]) (g := gName 2) (tt := tYes) rfl hN rfl rfl (sw_true rfl rfl rfl (by decide +kernel)) (pi_list (pe_fn GP hr pass0 (pa_cons (pv 0) pa_nil))) (blkOk_by (N := nTellBy) (sc := defScope (top 52)) (by decide +kernel))
          (fun _ _ _ _ _ => pg_name (i := 2) hN rfl (Or.inl rfl)) (fun _ _ _ _ _ => pts_nil) (fun _ _ _ _ _ => pe_fn GS h1 pass0 (pa_cons (pv 2) pa_nil)))
      (pss_one (ps_ret (pe_tup (pa_cons (pe_cmpR op_notIn_seq (pe_un un_neg pe_int) (pv 1) (by with_unfolding_all rfl)) (pa_cons (pe_cmpR op_notIn_seq pe_int (pv 1) (by with_unfolding_all rfl)) (pa_cons (pe_cmpR (op_eqD hr.units) (pv 1) (pe_lst pa_nil) (nomark _)) pa_nil)))))), ?_⟩
    refine ⟨_, rfl, x, n, as, rfl, px, ok, hal, hT, fun l zs H1 x1 T1 hl hP => ?_⟩
    have hin : InP as (sortR (ringsA 5 as)) := fun r hr2 => ringsA_in r ((List.mergeSort_perm _ _).mem_iff.mp hr2)
    have hlen : zs.length ≤ 5 * 1266 := by
      rw [hP.length]
      show ((ringsA 5 as).mergeSort _).length ≤ _
      rw [List.length_mergeSort]
      have okr : ∀ y ∈ as, okR 5 y := fun y hy => (by have o := ok.ok y hy; have := ok.n1; exact ⟨o.1, by have := o.2.1; omega, o.2.2.1, by have := o.2.2.2.1; omega, o.2.2.2.2⟩)
      have h := flat_len (ringsF 5 as) 1266 (beginsA 5 as) fun b hb => by
        obtain ⟨y, hy, ey⟩ := (mem_begins okr).mp hb
        have o : 0 ≤ b ∧ b < 5 := by
          have o := okr y hy
          rw [← ey]
          exact ⟨o.1, o.2.1⟩
        exact ringsF_len ok.nd okr o.1 o.2 (by decide)
      have bl := begins_len 5 as
      have e5 : (5 : Int).toNat = 5 := rfl
      show ((beginsA 5 as).flatMap (ringsF 5 as)).length ≤ _
      omega
    refine ⟨l, rfl, ⟨_, SqL.of hl⟩, fun D hD => lc_list (K := K) (a := l) (xs := zs) (fun i H2 => Same H1 H2 ∧ H2 D = some (.lst ((((sortR (ringsA 5 as)).take i).map signP).map V.int))) ⟨Same.upd hD, upd_same⟩ (fun i H2 _ h => SqL.of (h.1 _ _ hl)) ?_ ?_⟩
    · rintro i v H2 hv ⟨s2, hz⟩
      obtain ⟨p, hp, hpv⟩ := pths_at hP hv
      refine ⟨rfl, ?_⟩
      refine ⟨_, rfl, v, p, rfl, hpv.keep s2.tups, fun a ha => (ok.ok a (hin p (List.mem_of_getElem? hp) a ha)).2.2.2.2, _, hz, small1000y ?_, s2.put hD, ?_⟩
      · rw [List.length_map, List.length_map, List.length_take]
        have := hP.length
        omega
      · rw [upd_same, List.take_succ, hp, List.map_append, List.map_append]
        rfl
    rintro H2 ⟨s2, hz⟩
    rw [hP.length, List.take_of_length_le (Nat.le_refl _)] at hz
    have hz : H2 D = some (.lst ((signsA as).map V.int)) := hz
    refine ⟨1, rfl, _, rfl, D, _, rfl, .inl (SqL.of hz), rfl, flat_intsR _, ?_⟩
    refine ⟨_, rfl, D, _, rfl, .inl (SqL.of hz), rfl, flat_intsR _, ?_⟩
    refine ⟨_, rfl, by decide, fun e he => ⟨_, _, dp_ints (SqL.of ((Same.upd he) _ _ hz)), dp_nil (SqL.of upd_same), shaped_ints _, shaped_nil, ?_⟩⟩
    rw [eqv_nilL]
    refine ⟨by show 3 ≤ sizeLine; decide, fun p hp => ?_⟩
    have s3 := (s2.trans (Same.upd he)).trans (Same.upd (o := .tup [V.bl (if true then !inV (.int (-1)) ((signsA as).map V.int) else inV (.int (-1)) ((signsA as).map V.int)), V.bl (if true then !inV (.int 1) ((signsA as).map V.int) else inV (.int 1) ((signsA as).map V.int)), V.bl (((signsA as).map PyData.int).isEmpty)]) hp)
    refine k p _ (x1.trans (ExtN.of s3)) (T1.ext s3) ?_
    rw [upd_same]
    unfold telA
    rw [if_pos rfl, if_pos rfl, inV_intsR, inV_intsR]
    have e4 : ((signsA as).map PyData.int).isEmpty = decide (signsA as = []) := by cases signsA as <;> simp
    rw [e4]
end
end K24
set_option maxHeartbeats 4000000
namespace K24
open PySem L2 PySem.EX PyProof.Rows
open LamX (Tabs ExtN TabB)
structure TxA (P : Program) (w : World) (K : PySem.W.Frag) (mg : Str → Option Value) (c1 c2 c3 : Addr) : Prop where
  l : TxL K mg
  p : TxP P K mg
  c : TxC K mg
  u : TxQ K mg
  s : TxS K w mg
  d : TxD K mg
  b : TxB P K mg
  t : TxT K mg
  f : TxF K mg
  h : TxH K mg
  z : TxZ K mg
  w : TxW K mg c1
  r : TxR K mg
  ra : TxRa K mg c3
  rt : TxRt K mg
  law : DefT K mg "law" sLaw c2
  min : mg "min" = none
  netB : PySem.W.kitOne K (.ref (cB K)) (.ref (He.ga K "NetError")) = some false
theorem TxA.toTxs {P : Program} {w : World} {K : PySem.W.Frag} {mg : Str → Option Value} {c1 c2 c3 : Addr} (Z : TxA P w K mg c1 c2 c3) : Txs P w K mg c1 c2 := ⟨Z.l, Z.p, Z.c, Z.u, Z.s, Z.d, Z.b, Z.t, Z.f, Z.h, Z.z, Z.w, Z.law, Z.min, Z.netB⟩
section
variable {P : Program} {w : World} {K : PySem.W.Frag} {mg : Str → Option Value} {base : Heap}
theorem scTel : FnScope ["self"] ["self"] (defScope (bst 7)) := ⟨rfl, rfl, rfl, by decide +kernel, rfl, by decide +kernel, by decide +kernel⟩
theorem ok_tel {T : List (Addr × Str)} {Pt c : Addr} (C : TxC K mg) (B : TxB P K mg) (R : TxR K mg) (Ra : TxRa K mg c) (Rt : TxRt K mg) (TB : TabB base mg c Pt) (hm : (Pt, lamQr "rings_among") ∈ T) (hu : ∀ p ∈ T, p.1 = Pt → p.2 = lamQr "rings_among") :
    ∃ fd, FnOk P w K mg base CX0 12 (He.ma K (cB K) "telling") fd ["self"] (spTel K T telA) ∧ Binds K fd ["self"] [] := by
  have GT : Fnc P w K mg base CX0 5 "telling_by" ["plan"] (spTellBy K T) := ok_tellBy C R Ra Rt TB hm hu
  have RP : PrB P w K mg base (cB K) 1 "plan" (spBpl K) := pr_bpl B
  obtain ⟨fd, F⟩ := B.fTel
  refine ⟨fd, FnOk_of (k := 11) F scTel (fun vs H Q E h => ?_) (fun cdv A outer s H vs Q E hr h => ?_), F.bindsN (fun _ _ _ _ _ _ us hl => match us, hl with | [_], _ => rfl)⟩
  · obtain ⟨b, l1, l2, n, ds, as, rfl, _⟩ := h
    rfl
  · obtain ⟨b, l1, l2, n, ds, as, rfl, bk, ok, hal, hT, k⟩ := h
    refine ⟨_, pss_one (ps_ret (pe_fn GT (hr.mono (by decide)) pass0 (pa_cons (pe_prb (pv 0) B.bCls RP (hr.mono (by decide))) pa_nil))), ?_⟩
    obtain ⟨dx, l3, ps, dv, e1, _⟩ := id bk.at_
    refine ⟨_, rfl, b, dx, _, rfl, e1, b, l1, l2, n, ds, as, rfl, bk, fun x px => ?_⟩
    exact ⟨x, n, as, rfl, px, ok, by omega, hT, fun p H' x2 T2 hp => k p H' x2 T2 hp⟩
end
end K24
set_option maxHeartbeats 4000000
/-! H1: a Hook for programs with exception classes by super, properties, defs that make lambdas. -/
namespace HX
open PySem PySem.Spec PyProof.Rows L2 PySem.EX He
open PySem.W (findIn nsIn subIn typeIn keepIn clsIn mroIn ks_superIn specialIn takesIn recIn codeIn hasDictIn isFn)
/-! ### addresses -/
def codeAt (K : PySem.W.Frag) (f : Addr) : Addr := match K.lookup f with
  | some ⟨_, _, .func fd, _⟩ => (match fd.code with
    | .ref a => a
    | _ => 0)
  | _ => 0
def cellAt (K : PySem.W.Frag) (f : Addr) : Addr := match K.lookup f with
  | some ⟨_, _, .func fd, _⟩ => (match fd.closure with
    | [(_, c)] => c
    | _ => 0)
  | _ => 0
def tabAt (K : PySem.W.Frag) (c : Addr) : Addr := match K.lookup c with
  | some ⟨_, _, .fields vs, _⟩ => (match (vs[11]? : Option Value) with
    | some (Value.ref p) => p
    | _ => 0)
  | _ => 0
def getterAt (K : PySem.W.Frag) (p : Addr) : Addr := match recIn K p "property" with
  | some (.ref g :: _) => g
  | _ => 0
/-! ### an exception class -/
def excB (K : PySem.W.Frag) (C : Addr) : Bool := match K.lookup C with
  | some ⟨.type "type", _, .cls cd, sl⟩ => (match cd.mro, sl.toList with
    | .ref C' :: bm, [_, _, _, _, some (.builtin n), _] => C' == C && (n == "ValueError.__new__" && (!cd.hasDel && (cd.hasDict && PySem.HandSPX.refsVE bm)))
    | _, _ => false)
  | _ => false
theorem excB_ok {K : PySem.W.Frag} {C : Addr} (q : excB K C = true) : ∃ nm q N bs bm sn sub ab col dd k0 k1 k2 k3 k5, K.lookup C = some (excClassObj nm q C N bs bm true sn sub ab col dd k0 k1 k2 k3 k5 "ValueError.__new__") ∧ PySem.HandSPX.refsVE bm = true := by
  unfold excB at q
  split at q
  · rename_i dd cd sl ho
    split at q
    · rename_i C' bm k0 k1 k2 k3 n k5 hm hs
      obtain ⟨q1, q⟩ := ba q
      obtain ⟨q2, q⟩ := ba q
      obtain ⟨q3, q⟩ := ba q
      obtain ⟨q4, q5⟩ := ba q
      have e1 : C' = C := beq_iff_eq.mp q1
      have e2 : n = "ValueError.__new__" := beq_iff_eq.mp q2
      have e3 : cd.hasDel = false := by simpa using q3
      obtain ⟨nm, bs, mro, ns, qn, hd, sn, sub, ab, col, del⟩ := cd
      dsimp only at hm e3 q4
      subst hm e3 q4 e1 e2
      have hsl : sl = #[k0, k1, k2, k3, some (.builtin "ValueError.__new__"), k5] := by
        obtain ⟨l⟩ := sl
        simp only at hs
        rw [hs]
      subst hsl
      exact ⟨_, _, _, _, _, _, _, _, _, _, _, _, _, _, _, ho, q5⟩
    · cases q
  · cases q
/-- a function's data but its closure and defaults -/
abbrev FnY : Type := Option (Str × Str × Arguments × FuncBody × Scope × Addr × Addr)
def fy (nm q : Str) (p : Arguments) (b : List Stmt) (s : Scope) : FnY := some (nm, q, p, .stmts b, s, mainGlobals, builtinsNs)
def fnY (K : PySem.W.Frag) (f : Addr) : FnY := match K.lookup f with
  | some ⟨_, _, .func fd, _⟩ => some (fd.name, fd.qualname, fd.params, fd.body, fd.scope, fd.globals, fd.builtins)
  | _ => none
def superB (K : PySem.W.Frag) (f D : Addr) (q file : Str) : Bool := match K.lookup f with
  | some ⟨_, _, .func fd, _⟩ => (match fd.closure, fd.code, fd.defaults with
    | [(x, c)], .ref cda, .none => decide (x = "__class__") && (codeIn K (.ref cda) q && ((match K.lookup c with
        | some ⟨_, _, .cell (some (.ref d)), _⟩ => decide (d = D)
        | _ => false) && (match K.lookup cda with
        | some ⟨_, _, .fields vs, _⟩ => (match (vs[2]? : Option Value) with
          | some (Value.str y _) => decide (y = file)
          | _ => false)
        | _ => false)))
    | _, _, _ => false)
  | _ => false
theorem superB_ok {K : PySem.W.Frag} {f D : Addr} {q file : Str} {p : Arguments} {b : List Stmt} {s : Scope} (e : fnY K f = fy "__init__" q p b s) (h : superB K f D q file = true) :
    ∃ cc cda, (∃ (oc : Value) (od : Option Addr) (kV doc pm : Value) (an : Option Addr) (ct : Value) (osl : Array (Option Value)), K.lookup f = some ⟨oc, od, .func (PySem.W.ksFn "__init__" q p b s .none kV doc pm an (.ref cda) ct cc), osl⟩) ∧ codeIn K (.ref cda) q = true ∧
      (∃ (ccl : Value) (cdd : Option Addr) (vs : Array Value) (ccs : Array (Option Value)) (tf : Tok), K.lookup cda = some ⟨ccl, cdd, .fields vs, ccs⟩ ∧ vs[2]? = some (.str file tf)) ∧
      ∃ (cl : Value) (cld : Option Addr) (csl : Array (Option Value)), K.lookup cc = some ⟨cl, cld, .cell (some (.ref D)), csl⟩ := by
  unfold fnY at e
  unfold superB at h
  cases hq : K.lookup f with
  | none => rw [hq] at e; cases e
  | some o =>
    obtain ⟨oc, od, dt, osl⟩ := o
    rw [hq] at e h
    cases dt with
    | func fd =>
      obtain ⟨n1, n2, n3, n4, n5, n6, n7, n8, n9, n10, n11, n12, n13, n14, n15⟩ := fd
      have e2 : (some (n1, n2, n3, n4, n5, n6, n15) : FnY) = some (Str.ofString "__init__", q, p, FuncBody.stmts b, s, mainGlobals, builtinsNs) := e
      simp only [Option.some.injEq, Prod.mk.injEq] at e2
      obtain ⟨h1, h2, h3, h4, h5, h6, h7⟩ := e2
      subst h1 h2 h3 h4 h5 h6 h7
      dsimp only at h
      split at h
      · rename_i x c cda
        obtain ⟨k1, h⟩ := ba h
        obtain ⟨k2, h⟩ := ba h
        obtain ⟨k3, k4⟩ := ba h
        have ex : x = "__class__" := of_decide_eq_true k1
        subst ex
        refine ⟨c, cda, ⟨oc, od, n9, n10, n11, n12, n14, osl, rfl⟩, k2, ?_, ?_⟩
        · split at k4
          · rename_i ccl cdd vs ccs hc
            split at k4
            · rename_i y tf hy
              have ey : y = file := of_decide_eq_true k4
              subst ey
              exact ⟨_, _, _, _, _, hc, hy⟩
            · cases k4
          · cases k4
        · split at k3
          · rename_i cl cld d csl hc
            have ed : d = D := of_decide_eq_true k3
            subst ed
            exact ⟨_, _, _, hc⟩
          · cases k3
      · cases h
    | _ => cases e
/-- C by the text's name, D the class whose __init__ it has -/
def excOk (K : PySem.W.Frag) (k : Fk) (C D file : Str) : Bool :=
  excB K (ga K C) && (eqO (findIn K (.ref (ga K C)) "__setattr__") (some (some (.builtin "object.__setattr__"))) && (eqO (findIn K (.ref (ga K C)) k.name) (some none) && (eqO (findIn K (.ref (ga K C)) "__init__") (some (some (.ref (ma K (ga K C) "__init__")))) &&
  (decide (typeIn K (.ref (ma K (ga K C) "__init__")) = some (.type "function")) && (keepIn K (.ref (ga K C)) && (decide (subIn K (.ref (ga K C)) (.type "BaseException") = some true) && (decide (subIn K (.ref (ga K C)) (.type "ValueError") = some true) &&
  (decide (typeIn K (.ref (ga K C)) = some (.type "type")) && ((clsIn K (ga K D)).isSome && (decide (mroIn K (ga K C) (.ref (ga K D)) = some true) && (eqO (nsIn K mainGlobals "super") (some none) && (eqO (nsIn K cStatics "thirdparty.any") (some none) &&
  (eqO (ks_superIn K (ga K C) (ga K D) "__init__") (some (some (.builtin "ValueError.__init__"))) && superB K (ma K (ga K C) "__init__") (ga K D) k.qual file)))))))))))))
theorem excOk_ok {prog : Program} {K : PySem.W.Frag} {k : Fk} {C D : Str} {st : Stmt} (h : excOk K k C D prog.main.file = true) (e : fnY K (ma K (ga K C) "__init__") = fy "__init__" k.qual (defArgs st) (defBody st) (defScope st))
    (hs : ∃ p1 p2 q1 q2 q3 q4 q5 q6 q7 q8 q9 q10 : Pos, defArgs st = iA k p1 p2 ∧ defBody st = iB k q1 q2 q3 q4 q5 q6 q7 q8 q9 q10 ∧ defScope st = iS k ∧ (q3.endLine == q5.line) = true) (ht : (prog.main.scope.names.lookup ("super" : Str)).isSome = false) :
    ∃ D' fI cc cda, XTxt prog K k (ga K C) D' fI cc cda := by
  obtain ⟨a1, h⟩ := ba h
  obtain ⟨a2, h⟩ := ba h
  obtain ⟨a3, h⟩ := ba h
  obtain ⟨a4, h⟩ := ba h
  obtain ⟨a5, h⟩ := ba h
  obtain ⟨a6, h⟩ := ba h
  obtain ⟨a7, h⟩ := ba h
  obtain ⟨a8, h⟩ := ba h
  obtain ⟨a9, h⟩ := ba h
  obtain ⟨a10, h⟩ := ba h
  obtain ⟨a11, h⟩ := ba h
  obtain ⟨a12, h⟩ := ba h
  obtain ⟨a13, h⟩ := ba h
  obtain ⟨a14, a15⟩ := ba h
  obtain ⟨p1, p2, q1, q2, q3, q4, q5, q6, q7, q8, q9, q10, e1, e2, e3, e4⟩ := hs
  rw [e1, e2, e3] at e
  obtain ⟨cc, cda, ⟨oc, od, kV, doc, pm, an, ct, osl, hl⟩, hcd, ⟨ccl, cdd, vs, ccs, tf, hc, hv⟩, cl, cld, csl, hcc⟩ := superB_ok e a15
  exact ⟨ga K D, ma K (ga K C) "__init__", cc, cda, ⟨excB_ok a1, eqO_ok a2, eqO_ok a3, eqO_ok a4, of_decide_eq_true a5, a6, of_decide_eq_true a7, of_decide_eq_true a8, of_decide_eq_true a9, a10, of_decide_eq_true a11, eqO_ok a12, eqO_ok a13, eqO_ok a14,
    ⟨oc, od, kV, doc, pm, an, ct, osl, p1, p2, q1, q2, q3, q4, q5, q6, q7, q8, q9, q10, hl, hcd, e4⟩, ⟨ccl, cdd, vs, ccs, _, tf, hc, hv, by simp⟩, ⟨cl, cld, csl, hcc⟩, ht⟩⟩
/-- such an exception's class, as a value -/
def xcB (K : PySem.W.Frag) (C : Str) : Bool :=
  eqO (findIn K (.ref (ga K C)) "__getattribute__") (some (some (.builtin "BaseException.__getattribute__"))) && (eqO (findIn K (.ref (ga K C)) "__getattr__") (some none) && (decide (subIn K (.ref (ga K C)) (.type "BaseException") = some true) && (hasDictIn K (ga K C) &&
  (eqO (findIn K (.ref (ga K C)) "__class__") (some (some (.builtin "object.__class__"))) && (eqO (specialIn K (.builtin "object.__class__") "__get__") (some (some (.builtin "getset_descriptor.__get__"))) && (decide (takesIn K (.builtin "object.__class__") = some true) && decide (mroIn K (ga K C) (.type "object") = some true)))))))
theorem xcB_ok {K : PySem.W.Frag} {C : Str} (h : xcB K C = true) : XC K (ga K C) := by
  obtain ⟨a1, h⟩ := ba h
  obtain ⟨a2, h⟩ := ba h
  obtain ⟨a3, h⟩ := ba h
  obtain ⟨a4, h⟩ := ba h
  obtain ⟨a5, h⟩ := ba h
  obtain ⟨a6, h⟩ := ba h
  obtain ⟨a7, a8⟩ := ba h
  exact ⟨eqO_ok a1, eqO_ok a2, of_decide_eq_true a3, a4, eqO_ok a5, eqO_ok a6, of_decide_eq_true a7, of_decide_eq_true a8⟩
/-! ### a property -/
def propB (K : PySem.W.Frag) (C f q : Str) : Bool :=
  eqO (findIn K (.ref (ga K C)) f) (some (some (.ref (ma K (ga K C) f)))) && (eqO (specialIn K (.ref (ma K (ga K C) f)) "__get__") (some (some (.builtin "property.__get__"))) && (decide (takesIn K (.ref (ma K (ga K C) f)) = some true) &&
  ((match recIn K (ma K (ga K C) f) "property" with
    | some (.ref _ :: _) => true
    | _ => false) && (keepIn K (.ref (getterAt K (ma K (ga K C) f))) && (match K.lookup (getterAt K (ma K (ga K C) f)) with
    | some ⟨_, _, .func fd, _⟩ => codeIn K fd.code q && (dflB K fd.defaults [] && (match fd.closure with
      | [] => true
      | _ => false))
    | _ => false)))))
theorem propB_ok {K : PySem.W.Frag} {C f q : Str} {st : Stmt} (h : propB K C f q = true) (e : fnY K (getterAt K (ma K (ga K C) f)) = fy f q (defArgs st) (defBody st) (defScope st)) :
    ∃ p g fd, PropOf K (ga K C) f p g ∧ FunD K f q (defArgs st) (defBody st) (defScope st) [] [] g fd := by
  obtain ⟨a1, h⟩ := ba h
  obtain ⟨a2, h⟩ := ba h
  obtain ⟨a3, h⟩ := ba h
  obtain ⟨a4, h⟩ := ba h
  obtain ⟨a5, a6⟩ := ba h
  have hr : ∃ rest, recIn K (ma K (ga K C) f) "property" = some (.ref (getterAt K (ma K (ga K C) f)) :: rest) := by
    split at a4
    · rename_i g rest hg
      refine ⟨rest, ?_⟩
      unfold getterAt
      rw [hg]
    · cases a4
  unfold fnY at e
  cases hq : K.lookup (getterAt K (ma K (ga K C) f)) with
  | none => rw [hq] at e; cases e
  | some o =>
    obtain ⟨oc, od, dt, osl⟩ := o
    rw [hq] at e a6
    cases dt with
    | func fd =>
      obtain ⟨n1, n2, n3, n4, n5, n6, n7, n8, n9, n10, n11, n12, n13, n14, n15⟩ := fd
      have e2 : (some (n1, n2, n3, n4, n5, n6, n15) : FnY) = some (f, q, defArgs st, .stmts (defBody st), defScope st, mainGlobals, builtinsNs) := e
      simp only [Option.some.injEq, Prod.mk.injEq] at e2
      obtain ⟨h1, h2, h3, h4, h5, h6, h7⟩ := e2
      subst h1 h2 h3 h4 h5 h6 h7
      dsimp only at a6
      obtain ⟨b1, b⟩ := ba a6
      obtain ⟨b2, b3⟩ := ba b
      split at b3
      · exact ⟨_, _, _, ⟨eqO_ok a1, eqO_ok a2, of_decide_eq_true a3, hr⟩, ⟨oc, od, n8, n9, n10, n11, n12, n13, n14, osl, rfl, hq, b1, dflB_ok b2, .inl rfl⟩, a5⟩
      · cases b3
    | _ => cases e
/-! ### a def that makes lambdas -/
def headB (K : PySem.W.Frag) (c : Addr) : Bool := match K.lookup c with
  | some ⟨.type t, _, .fields vs, _⟩ => decide (t = "code") && (match (vs[11]? : Option Value), (vs.getD 18 .none : Value), (vs.getD 7 .none : Value), (vs.getD 9 .none : Value), (vs.getD 10 .none : Value) with
    | some (Value.ref p), Value.str _ _, Value.int _ _, Value.bool _, Value.int _ _ => decide (c ≠ p)
    | _, _, _, _, _ => false)
  | _ => false
theorem headB_ok {K : PySem.W.Frag} {h : Heap} {c : Addr} (X : K.In h) (q : headB K c = true) : PySem.W.CodeHd h c (tabAt K c) := by
  unfold headB at q
  split at q
  · rename_i t od vs sl ho
    obtain ⟨q1, q⟩ := ba q
    have e : t = "code" := of_decide_eq_true q1
    subst e
    split at q
    · rename_i p file tf flags tg inF text tt h1 h2 h3 h4 h5
      have et : tabAt K c = p := by
        unfold tabAt
        rw [ho]
        dsimp only
        rw [h1]
      rw [et]
      refine ⟨_, vs, file, tf, flags, tg, inF, text, tt, X _ _ ho, rfl, rfl, h1, ?_, h2, h3, h4, h5, of_decide_eq_true q⟩
      rw [Array.getD_eq_getD_getElem?, h1]
      rfl
    · cases q
  · cases q
theorem codeAt_ok {K : PySem.W.Frag} {x qual : Str} {params : Arguments} {body : List Stmt} {scope : Scope} {dvs : List V} {kws : List (Str × V)} {f : Addr} {fd : FuncData} (F : FunD K x qual params body scope dvs kws f fd) : fd.code = .ref (codeAt K f) := by
  obtain ⟨oc, od, dV, kV, doc, pm, an, cdv, ct, osl, rfl, lk, hcd, _, _⟩ := F.ex
  unfold codeAt
  rw [lk]
  dsimp only
  show cdv = _
  unfold codeIn at hcd
  cases cdv with
  | ref a => rfl
  | _ => cases hcd
/-- an empty table -/
def isTab : Option Obj → Bool
  | some ⟨.none, none, .fields vs, sl⟩ => vs.isEmpty && sl.isEmpty
  | _ => false
theorem isTab_ok {o : Option Obj} (h : isTab o = true) : o = some { cls := .none, data := .fields #[] } := by
  unfold isTab at h
  split at h
  · rename_i vs sl
    obtain ⟨h1, h2⟩ := ba h
    rw [Array.isEmpty_iff.mp h1, Array.isEmpty_iff.mp h2]
  · cases h
/-! ### keys that a table has not -/
theorem ns_miss {K : PySem.W.Frag} {P : Params} {a : Addr} {ks : List Str} (h : dicW K a = some (keysIn P ks)) {z : Str} (hz : z ∉ ks) : nsIn K a z = some none := by
  unfold dicW at h
  cases q : K.lookup a with
  | none => rw [q] at h; cases h
  | some o =>
    obtain ⟨oc, od, dt, osl⟩ := o
    rw [q] at h
    cases oc with
    | type c =>
      cases od with
      | none =>
        cases dt with
        | dict es n =>
          have h1 : (match decide (c = "dict") && (osl.isEmpty && !(a == sysModules)) with
            | true => some (es.toList.map He.keyOf)
            | false => none) = some (keysIn P ks) := h
          split at h1
          · have hk := keysLit_of (Option.some.inj h1)
            have e1 := Option.some.inj h1
            have key : ∀ e ∈ es.toList, ∃ k ∈ ks, ∃ t, e.key = .str k t := by
              intro e he
              have hm : He.keyOf e ∈ keysIn P ks := by rw [← e1]; exact List.mem_map_of_mem he
              obtain ⟨k, hk1, hk2⟩ := List.mem_map.mp hm
              unfold He.keyOf at hk2
              split at hk2
              · rename_i x t hx
                have hk3 := congrArg Prod.fst (Option.some.inj hk2)
                have hk4 : k = x := hk3
                exact ⟨k, hk1, t, by rw [hx, hk4]⟩
              · cases hk2
            unfold nsIn
            rw [q]
            dsimp only
            have n1 : es.toList.find? (·.key.isStr z) = none := by
              rw [List.find?_eq_none]
              intro e he hc
              obtain ⟨k, hk1, t, hk2⟩ := key e he
              rw [hk2] at hc
              have ez : k = z := by
                have h3 : (Value.str k t).isStr z = true := hc
                unfold Value.isStr at h3
                first
                  | exact beq_iff_eq.mp h3
                  | simpa using h3
              rw [ez] at hk1
              exact hz hk1
            rw [n1]
            have n2 : es.toList.any (·.refKey) = false := by
              rw [List.any_eq_false]
              intro e he hc
              obtain ⟨k, hk1, t, hk2⟩ := key e he
              unfold DictEntry.refKey at hc
              rw [hk2] at hc
              exact absurd hc (by simp)
            dsimp only
            rw [n2]
            rfl
          · cases h1
        | _ => cases h
      | some b => cases dt <;> cases h
    | _ => cases od <;> cases dt <;> cases h
/-! ### the Hook -/
/-- from the names alone (the table of the module is not followed), breadth first, what was seen as the bits of a number -/
def newsX {α : Type} : List Addr → Nat → List Addr → (List Addr → Nat → α) → α
  | [], v, acc, k => k acc v
  | a :: r, v, acc, k => HandSHeadRun.frNat a fun a => match Nat.testBit v a with
    | true => newsX r v acc k
    | false => HandSHeadRun.frNat (Nat.lor v (Nat.shiftLeft 1 a)) fun v => newsX r v (a :: acc) k
def bfsX (g : Addr → Option Obj) : Nat → List Addr → Nat → List Addr → List Addr
  | 0, _, _, acc => acc
  | n + 1, fr, v, acc => newsX (fr.flatMap fun a => match g a with
    | some o => refsD o
    | none => []) v [] fun new v => bfsX g n new v (acc ++ new)
def asX (g : Addr → Option Obj) (rt : List Str) (n : Nat) : List Addr :=
  newsX (mainGlobals :: cStatics :: rt.map fun x => ga (frG g [mainGlobals]) x) 0 [] fun new v => (bfsX g n (new.filter fun a => !(Nat.beq a mainGlobals || Nat.beq a cStatics)) v new).filter fun a => !isTab (g a)
abbrev Gf : Type := (PySem.W.Frag → Addr) × FnY
abbrev AlX : Type := AlT × List FnY × Bool
structure Spec where
  n : Nat
  fa : List Fa
  fn : List DefD
  ts : List Tab
  gs : List Gf
  ck : PySem.W.Frag → Bool
  lam : List Str
  rt : List Str
def tabsB (S : Spec) (g : Addr → Option Obj) (K : PySem.W.Frag) : Bool := S.lam.all fun x => headB K (codeAt K (ga K x)) && (isTab (g (tabAt K (codeAt K (ga K x)))) && (K.lookup (tabAt K (codeAt K (ga K x)))).isNone)
def obsX (S : Spec) (g : Addr → Option Obj) (K : PySem.W.Frag) : AlX := (obsT S.fa S.fn S.ts K, S.gs.map fun p => fnY K (p.1 K), S.ck K && tabsB S g K)
def valX (S : Spec) (w : World) : AlX := (valT S.fn S.ts w, S.gs.map (·.2), true)
def obsXG (S : Spec) (g : Addr → Option Obj) : AlX := obsX S g (frG g (asX g S.rt S.n))
structure SaysX (S : Spec) (w : World) (h : Heap) (K : PySem.W.Frag) : Prop where
  t : SaysT S.fa S.fn S.ts w K
  g : S.gs.map (fun p => fnY K (p.1 K)) = S.gs.map (·.2)
  c : S.ck K = true
  l : ∀ x ∈ S.lam, PySem.W.CodeHd h (codeAt K (ga K x)) (tabAt K (codeAt K (ga K x))) ∧ h.get? (tabAt K (codeAt K (ga K x))) = some { cls := .none, data := .fields #[] } ∧ K.lookup (tabAt K (codeAt K (ga K x))) = none
theorem SaysX.of {S : Spec} {w : World} {s : Shared} (e : obsXG S s.heap.get? = valX S w) : ∃ K : PySem.W.Frag, K.In s.heap ∧ SaysX S w s.heap K := by
  refine ⟨_, frG_in (as := asX s.heap.get? S.rt S.n), ?_⟩
  have h1 := congrArg (fun z : AlX => z.1) e
  have h2 := congrArg (fun z : AlX => z.2.1) e
  have h3 : (S.ck _ && tabsB S _ _) = true := congrArg (fun z : AlX => z.2.2) e
  obtain ⟨h4, h5⟩ := ba h3
  refine ⟨h1, h2, h4, fun x hx => ?_⟩
  have h6 := List.all_eq_true.mp h5 x hx
  obtain ⟨k1, k⟩ := ba h6
  obtain ⟨k2, k3⟩ := ba k
  exact ⟨headB_ok frG_in k1, isTab_ok k2, Option.isNone_iff_eq_none.mp k3⟩
theorem SaysX.keeps {S : Spec} {w : World} {h h' : Heap} {K : PySem.W.Frag} (c : SaysX S w h K) (k : ∀ b o, h.get? b = some o → h'.get? b = some o) : SaysX S w h' K :=
  ⟨c.t, c.g, c.c, fun x hx => ⟨(c.l x hx).1.keeps k, k _ _ (c.l x hx).2.1, (c.l x hx).2.2⟩⟩
def hookX (S : Spec) : PySem.W.Hook where
  α := AlX
  obs := fun s => obsXG S s.heap.get?
  val := fun w => valX S w
  says := fun w h => ∃ K : PySem.W.Frag, K.In h ∧ SaysX S w h K
  of := fun _ _ e => SaysX.of e
  keeps := fun _ _ _ ⟨K, hK, c⟩ k => ⟨K, PySem.W.Frag.In.keeps hK k, c.keeps k⟩
theorem obsXG_eq {S : Spec} {g : Addr → Option Obj} {s : Shared} (h : ∀ a, g a = s.heap.get? a) : obsXG S g = (hookX S).obs s := by
  have e : g = s.heap.get? := funext h
  rw [e] <;> rfl
section
variable {S : Spec} {w : World} {h : Heap} {K : PySem.W.Frag}
theorem SaysX.gf (c : SaysX S w h K) (i : Nat) {p : Gf} (e : S.gs[i]? = some p) : fnY K (p.1 K) = p.2 := by
  have e2 : (S.gs.map (fun p => fnY K (p.1 K)))[i]? = (S.gs.map (·.2))[i]? := by rw [c.g]
  rw [List.getElem?_map, List.getElem?_map, e] at e2
  exact Option.some.inj e2
end
end HX
set_option maxHeartbeats 0
namespace K24
open PySem L2 PySem.EX PyProof.Rows
abbrev prog : Program := PySem.Challenge.pw_restsallowed_k24_across_texts_of_planboo
abbrev file : Str := prog.main.file
abbrev est (i : Nat) : Stmt := (clsBody (top i)).getD 0 (.Pass ⟨0, 0, 0, 0⟩)
def fn : List He.DefD := [⟨("_law_begun", none), "_law_begun", "_law_begun", defArgs (sBegun), defBody (sBegun), defScope (sBegun), [], []⟩,
  ⟨("_law_blend", none), "_law_blend", "_law_blend", defArgs (sBlend), defBody (sBlend), defScope (sBlend), [], []⟩,
  ⟨("_law_draw", none), "_law_draw", "_law_draw", defArgs (sDraw), defBody (sDraw), defScope (sDraw), [], []⟩,
  ⟨("_law_pick", none), "_law_pick", "_law_pick", defArgs (sPick), defBody (sPick), defScope (sPick), [], []⟩,
  ⟨("is_number", none), "is_number", "is_number", defArgs (sNum), defBody (sNum), defScope (sNum), [], []⟩,
  ⟨("is_between", none), "is_between", "is_between", defArgs (sBtw), defBody (sBtw), defScope (sBtw), [], []⟩,
  ⟨("is_list", none), "is_list", "is_list", defArgs (sLst), defBody (sLst), defScope (sLst), [], []⟩,
  ⟨("switches_in", none), "switches_in", "switches_in", defArgs (sSw), defBody (sSw), defScope (sSw), [], []⟩,
  ⟨("lines_of", none), "lines_of", "lines_of", defArgs (sLines), defBody (sLines), defScope (sLines), [], []⟩,
  ⟨("is_arrow", none), "is_arrow", "is_arrow", defArgs (sIsArrow), defBody (sIsArrow), defScope (sIsArrow), [], []⟩,
  ⟨("need_arrows", none), "need_arrows", "need_arrows", defArgs (sNeedA), defBody (sNeedA), defScope (sNeedA), [], []⟩,
  ⟨("Plan", some "__init__"), "__init__", "Plan.__init__", defArgs (mst 0), defBody (mst 0), defScope (mst 0), [], []⟩,
  ⟨("Plan", some "__eq__"), "__eq__", "Plan.__eq__", defArgs (mst 3), defBody (mst 3), defScope (mst 3), [], []⟩,
  ⟨("need_plan", none), "need_plan", "need_plan", defArgs sNeedP, defBody sNeedP, defScope sNeedP, [.non], []⟩,
  ⟨("plan_line", none), "plan_line", "plan_line", defArgs (top 62), defBody (top 62), defScope (top 62), [], []⟩,
  ⟨("plan_text", none), "plan_text", "plan_text", defArgs (top 63), defBody (top 63), defScope (top 63), [], []⟩,
  ⟨("plan_arrow_in", none), "plan_arrow_in", "plan_arrow_in", defArgs (top 64), defBody (top 64), defScope (top 64), [], []⟩,
  ⟨("read_plan", none), "read_plan", "read_plan", defArgs (top 65), defBody (top 65), defScope (top 65), [], []⟩,
  ⟨("is_rising", none), "is_rising", "is_rising", defArgs (top 16), defBody (top 16), defScope (top 16), [], []⟩,
  ⟨("is_asked", none), "is_asked", "is_asked", defArgs (top 22), defBody (top 22), defScope (top 22), [], []⟩,
  ⟨("flipped_arrows", none), "flipped_arrows", "flipped_arrows", defArgs (top 49), defBody (top 49), defScope (top 49), [], []⟩,
  ⟨("deed_right", none), "deed_right", "deed_right", defArgs (top 50), defBody (top 50), defScope (top 50), [], []⟩,
  ⟨("plan_behind", none), "plan_behind", "plan_behind", defArgs (top 51), defBody (top 51), defScope (top 51), [], []⟩,
  ⟨("Planbook", some "__init__"), "__init__", "Planbook.__init__", defArgs (bst 0), defBody (bst 0), defScope (bst 0), [], []⟩,
  ⟨("Planbook", some "do"), "do", "Planbook.do", defArgs (bst 3), defBody (bst 3), defScope (bst 3), [], []⟩,
  ⟨("Planbook", some "redo"), "redo", "Planbook.redo", defArgs (bst 5), defBody (bst 5), defScope (bst 5), [], []⟩,
  ⟨("Planbook", some "log"), "log", "Planbook.log", defArgs (bst 6), defBody (bst 6), defScope (bst 6), [], []⟩,
  ⟨("Planbook", some "telling"), "telling", "Planbook.telling", defArgs (bst 7), defBody (bst 7), defScope (bst 7), [], []⟩,
  ⟨("Planbook", some "__eq__"), "__eq__", "Planbook.__eq__", defArgs (bst 13), defBody (bst 13), defScope (bst 13), [], []⟩,
  ⟨("deed_line", none), "deed_line", "deed_line", defArgs (top 55), defBody (top 55), defScope (top 55), [], []⟩,
  ⟨("planbook_text", none), "planbook_text", "planbook_text", defArgs (top 56), defBody (top 56), defScope (top 56), [], []⟩,
  ⟨("deeds_of", none), "deeds_of", "deeds_of", defArgs (top 57), defBody (top 57), defScope (top 57), [], []⟩,
  ⟨("flips_of", none), "flips_of", "flips_of", defArgs (top 58), defBody (top 58), defScope (top 58), [], []⟩,
  ⟨("read_planbook", none), "read_planbook", "read_planbook", defArgs (top 59), defBody (top 59), defScope (top 59), [], []⟩,
  ⟨("_law_some", none), "_law_some", "_law_some", defArgs (top 72), defBody (top 72), defScope (top 72), [], []⟩,
  ⟨("_law_arrow", none), "_law_arrow", "_law_arrow", defArgs (top 73), defBody (top 73), defScope (top 73), [], []⟩,
  ⟨("_law_line", none), "_law_line", "_law_line", defArgs (top 74), defBody (top 74), defScope (top 74), [], []⟩,
  ⟨("_law_wrong", none), "_law_wrong", "_law_wrong", defArgs (top 75), defBody (top 75), defScope (top 75), [], []⟩,
  ⟨("_law_caught", none), "_law_caught", "_law_caught", defArgs (sCaught), defBody (sCaught), defScope (sCaught), [], []⟩,
  ⟨("_law_at_line", none), "_law_at_line", "_law_at_line", defArgs (sAtLine), defBody (sAtLine), defScope (sAtLine), [], []⟩,
  ⟨("rings_from", none), "rings_from", "rings_from", defArgs (top 25), defBody (top 25), defScope (top 25), [], []⟩,
  ⟨("ring_sign", none), "ring_sign", "ring_sign", defArgs (top 24), defBody (top 24), defScope (top 24), [], []⟩,
  ⟨("rings_among", none), "rings_among", "rings_among", defArgs (top 26), defBody (top 26), defScope (top 26), [], []⟩,
  ⟨("plan_rings_by", none), "plan_rings_by", "plan_rings_by", defArgs (top 39), defBody (top 39), defScope (top 39), [], []⟩,
  ⟨("telling_by", none), "telling_by", "telling_by", defArgs (top 52), defBody (top 52), defScope (top 52), [], []⟩,
  ⟨("law", none), "law", "law", defArgs (sLaw), defBody (sLaw), defScope (sLaw), [], []⟩]
def fa : List He.Fa := [.glo "_law_begun", .glo "_law_blend", .glo "_law_draw", .glo "_law_pick", .free "abs", .free "int", .free "len", .glo "is_number", .glo "is_between", .glo "is_list", .glo "switches_in", .glo "lines_of", .glo "is_arrow", .glo "need_arrows", .int "MOST_SWITCHES" 5, .free "isinstance", .free "bool", .free "tuple", .free "list", .free "str", .free "range", .free "all", .free "enumerate", .glo "BadText", .glo "BadNumber", .glo "BadArrows", .glo "NoPlan", .glo "Plan", .free "sorted", .cls "Plan", .mkr "Plan", .noat "Plan" "own_switches", .noat "Plan" "own_arrows", .glo "need_plan", .glo "plan_line", .glo "plan_text", .glo "PLAN_SIGNS", .glo "plan_arrow_in", .glo "read_plan", .glo "is_rising", .glo "is_asked", .glo "flipped_arrows", .glo "deed_right", .glo "plan_behind", .free "zip", .glo "DEEDS", .glo "Planbook", .cls "Planbook", .mkr "Planbook", .noat "Planbook" "own_plans", .noat "Planbook" "own_deeds", .noat "Planbook" "own_later", .meth "Planbook" "do", .meth "Planbook" "redo", .meth "Planbook" "log", .meth "Planbook" "telling", .glo "BadEdit", .exc "NothingUndone", .glo "NothingUndone", .exc "NoPlanbook", .glo "NoPlanbook", .glo "deed_line", .glo "planbook_text", .glo "deeds_of", .glo "flips_of", .glo "read_planbook", .glo "_law_some", .glo "_law_arrow", .glo "_law_line", .glo "_law_wrong", .free "dict", .glo "_law_caught", .glo "_law_at_line", .glo "NetError", .exm "BadText" "NetError" true, .exm "NothingUndone" "NetError" true, .exm "NoPlanbook" "NetError" true, .noat "BadText" "index", .glo "rings_from", .glo "ring_sign", .glo "rings_among", .glo "plan_rings_by", .glo "telling_by", .glo "law", .free "min"]
def ts : List He.Tab := [(fun K => cS K, ["helps", "hinders"])]
def gi (C : Str) (k : Fk) (i : Nat) : HX.Gf := (fun K => He.ma K (He.ga K C) "__init__", HX.fy "__init__" k.qual (defArgs (est i)) (defBody (est i)) (defScope (est i)))
def gg (C f q : Str) (st : Stmt) : HX.Gf := (fun K => HX.getterAt K (He.ma K (He.ga K C) f), HX.fy f q (defArgs st) (defBody st) (defScope st))
def gs : List HX.Gf := [gi "BadText" .index 4, gi "BadNumber" .part 3, gi "BadArrows" .index 4, gi "NoPlan" .part 3, gg "Plan" "switches" "Plan.switches" (mst 1), gg "Plan" "arrows" "Plan.arrows" (mst 2), gg "Planbook" "switches" "Planbook.switches" (bst 1), gg "Planbook" "plan" "Planbook.plan" (bst 2)]
def cks : List (PySem.W.Frag → Bool) := [fun K => HX.excOk K .index "BadText" "ItemError" file,
  fun K => HX.excOk K .part "BadNumber" "PartError" file,
  fun K => HX.excOk K .index "BadArrows" "ItemError" file,
  fun K => HX.excOk K .part "NoPlan" "PartError" file,
  fun K => HX.propB K "Plan" "switches" "Plan.switches",
  fun K => HX.propB K "Plan" "arrows" "Plan.arrows",
  fun K => He.eqO (PySem.W.findIn K (.ref (cP K)) "__eq__") (some (some (.ref (He.ma K (cP K) "__eq__")))),
  fun K => PySem.W.isFn K (.ref (He.ma K (cP K) "__eq__")),
  fun K => He.eqO (PySem.W.findIn K (.ref (cP K)) "__ne__") (some (some (.builtin "object.__ne__"))),
  fun K => decide (PySem.W.subIn K (.ref (cP K)) (.type "object") = some true),
  fun K => He.eqO (PySem.W.findIn K (.ref (cP K)) "__class__") (some (some (.builtin "object.__class__"))),
  fun K => He.eqO (PySem.W.specialIn K (.builtin "object.__class__") "__get__") (some (some (.builtin "getset_descriptor.__get__"))),
  fun K => decide (PySem.W.takesIn K (.builtin "object.__class__") = some true),
  fun K => decide (PySem.W.mroIn K (cP K) (.type "object") = some true),
  fun K => decide (PySem.W.kitOne K (.type "NoneType") (.ref (cP K)) = some false),
  fun K => decide (PySem.W.kitOne K (.type "int") (.ref (cP K)) = some false),
  fun K => decide (PySem.W.kitOne K (.type "str") (.ref (cP K)) = some false),
  fun K => He.valsB K (cS K) [("helps", .int 1), ("hinders", .int (-1))],
  fun K => He.tupB K "DEEDS" [.str "may", .str "not", .str "flip"],
  fun K => HX.propB K "Planbook" "switches" "Planbook.switches",
  fun K => HX.propB K "Planbook" "plan" "Planbook.plan",
  fun K => He.eqO (PySem.W.findIn K (.ref (cB K)) "__eq__") (some (some (.ref (He.ma K (cB K) "__eq__")))),
  fun K => PySem.W.isFn K (.ref (He.ma K (cB K) "__eq__")),
  fun K => He.eqO (PySem.W.findIn K (.ref (cB K)) "__ne__") (some (some (.builtin "object.__ne__"))),
  fun K => decide (PySem.W.subIn K (.ref (cB K)) (.type "object") = some true),
  fun K => He.eqO (PySem.W.findIn K (.ref (cB K)) "__class__") (some (some (.builtin "object.__class__"))),
  fun K => decide (PySem.W.mroIn K (cB K) (.type "object") = some true),
  fun K => decide (PySem.W.kitOne K (.type "NoneType") (.ref (cB K)) = some false),
  fun K => decide (PySem.W.kitOne K (.type "int") (.ref (cB K)) = some false),
  fun K => decide (PySem.W.kitOne K (.ref (cP K)) (.ref (cB K)) = some false),
  fun K => HX.xcB K "BadText",
  fun K => HX.xcB K "NothingUndone",
  fun K => HX.xcB K "NoPlanbook",
  fun K => decide (PySem.W.kitOne K (.ref (cB K)) (.ref (He.ga K "NetError")) = some false),
  fun K => decide (HX.tabAt K (HX.codeAt K (He.ga K "_law_at_line")) ≠ HX.tabAt K (HX.codeAt K (He.ga K "law"))),
  fun K => decide (HX.tabAt K (HX.codeAt K (He.ga K "_law_at_line")) ≠ HX.tabAt K (HX.codeAt K (He.ga K "rings_among"))),
  fun K => decide (HX.tabAt K (HX.codeAt K (He.ga K "law")) ≠ HX.tabAt K (HX.codeAt K (He.ga K "rings_among")))]
def S : HX.Spec := ⟨6, fa, fn, ts, gs, fun K => cks.all fun f => f K, ["_law_at_line", "law", "rings_among"], (["_law_begun", "_law_blend", "_law_draw", "_law_pick", "is_number", "is_between", "is_list", "switches_in", "lines_of", "is_arrow", "need_arrows", "BadText", "BadNumber", "BadArrows", "NoPlan", "Plan", "need_plan", "plan_line", "plan_text", "PLAN_SIGNS", "plan_arrow_in", "read_plan", "is_rising", "is_asked", "flipped_arrows", "deed_right", "plan_behind", "DEEDS", "Planbook", "BadEdit"] : List Str) ++ (["NothingUndone", "NoPlanbook", "deed_line", "planbook_text", "deeds_of", "flips_of", "read_planbook", "_law_some", "_law_arrow", "_law_line", "_law_wrong", "_law_caught", "_law_at_line", "NetError", "rings_from", "ring_sign", "rings_among", "plan_rings_by", "telling_by", "law"] : List Str)⟩
theorem made_index : ∃ p1 p2 q1 q2 q3 q4 q5 q6 q7 q8 q9 q10 : Pos, defArgs (est 4) = iA .index p1 p2 ∧ defBody (est 4) = iB .index q1 q2 q3 q4 q5 q6 q7 q8 q9 q10 ∧ defScope (est 4) = iS .index ∧ (q3.endLine == q5.line) = true := ⟨_, _, _, _, _, _, _, _, _, _, _, _, rfl, rfl, rfl, rfl⟩
theorem made_part : ∃ p1 p2 q1 q2 q3 q4 q5 q6 q7 q8 q9 q10 : Pos, defArgs (est 3) = iA .part p1 p2 ∧ defBody (est 3) = iB .part q1 q2 q3 q4 q5 q6 q7 q8 q9 q10 ∧ defScope (est 3) = iS .part ∧ (q3.endLine == q5.line) = true := ⟨_, _, _, _, _, _, _, _, _, _, _, _, rfl, rfl, rfl, rfl⟩
theorem noSuper : (prog.main.scope.names.lookup ("super" : Str)).isSome = false := by decide +kernel
theorem defT_of {K : PySem.W.Frag} {mg : Str → Option Value} {x : Str} {st : Stmt} (h : ∃ fd, FunD K x x (defArgs st) (defBody st) (defScope st) [] [] (He.ga K x) fd) (g : mg x = some (.ref (He.ga K x))) : DefT K mg x st (HX.codeAt K (He.ga K x)) := by
  obtain ⟨fd, F⟩ := h
  exact ⟨⟨fd, F, HX.codeAt_ok F⟩, g⟩

section
variable {w : World} {h : Heap} {K : PySem.W.Frag} {mg : Str → Option Value}
theorem cks_ok (c : HX.SaysX S w h K) (i : Nat) {f : PySem.W.Frag → Bool} (e : cks[i]? = some f) : f K = true := List.all_eq_true.mp (show (cks.all fun f => f K) = true from c.c) f (List.mem_of_getElem? e)
theorem dicS (c : HX.SaysX S w h K) : He.dicW K (cS K) = some (He.keysIn w.params ["helps", "hinders"]) := by
  have e : S.ts.map (fun t => He.dicW K (t.1 K)) = S.ts.map fun t => some (He.keysIn w.params t.2) := congrArg (fun z : He.AlT => z.2) c.t
  exact (List.cons.inj e).1
theorem hTxL (X : K.In h) (G : h.Ns mainGlobals mg) (c : HX.SaysX S w h K) : TxL K mg := by
  have ck : ∀ (i : Nat) {f : PySem.W.Frag → Bool}, cks[i]? = some f → f K = true := fun i f e => cks_ok c i e
  exact ⟨
    -- begun
    ⟨c.t.d.def_ 0 rfl, (He.glo_ok X G (c.t.d.fact 0 (f := .glo "_law_begun") rfl))⟩,
    -- blend
    ⟨c.t.d.def_ 1 rfl, (He.glo_ok X G (c.t.d.fact 1 (f := .glo "_law_blend") rfl))⟩,
    -- draw
    ⟨c.t.d.def_ 2 rfl, (He.glo_ok X G (c.t.d.fact 2 (f := .glo "_law_draw") rfl))⟩,
    -- pick
    ⟨c.t.d.def_ 3 rfl, (He.glo_ok X G (c.t.d.fact 3 (f := .glo "_law_pick") rfl))⟩,
    -- abs
    (He.free_ok X G (c.t.d.fact 4 (f := .free "abs") rfl)),
    -- int
    (He.free_ok X G (c.t.d.fact 5 (f := .free "int") rfl)),
    -- len
    (He.free_ok X G (c.t.d.fact 6 (f := .free "len") rfl))⟩
theorem hTxP (X : K.In h) (G : h.Ns mainGlobals mg) (c : HX.SaysX S w h K) : TxP prog K mg := by
  have ck : ∀ (i : Nat) {f : PySem.W.Frag → Bool}, cks[i]? = some f → f K = true := fun i f e => cks_ok c i e
  exact ⟨
    -- num
    ⟨c.t.d.def_ 4 rfl, (He.glo_ok X G (c.t.d.fact 7 (f := .glo "is_number") rfl))⟩,
    -- btw
    ⟨c.t.d.def_ 5 rfl, (He.glo_ok X G (c.t.d.fact 8 (f := .glo "is_between") rfl))⟩,
    -- lst
    ⟨c.t.d.def_ 6 rfl, (He.glo_ok X G (c.t.d.fact 9 (f := .glo "is_list") rfl))⟩,
    -- sw
    ⟨c.t.d.def_ 7 rfl, (He.glo_ok X G (c.t.d.fact 10 (f := .glo "switches_in") rfl))⟩,
    -- lines
    ⟨c.t.d.def_ 8 rfl, (He.glo_ok X G (c.t.d.fact 11 (f := .glo "lines_of") rfl))⟩,
    -- isArrow
    ⟨c.t.d.def_ 9 rfl, (He.glo_ok X G (c.t.d.fact 12 (f := .glo "is_arrow") rfl))⟩,
    -- needA
    ⟨c.t.d.def_ 10 rfl, (He.glo_ok X G (c.t.d.fact 13 (f := .glo "need_arrows") rfl))⟩,
    -- most
    (He.int_ok X G (c.t.d.fact 14 (f := .int "MOST_SWITCHES" 5) rfl)),
    -- isinst
    (He.free_ok X G (c.t.d.fact 15 (f := .free "isinstance") rfl)),
    -- int
    (He.free_ok X G (c.t.d.fact 5 (f := .free "int") rfl)),
    -- bool
    (He.free_ok X G (c.t.d.fact 16 (f := .free "bool") rfl)),
    -- tuple
    (He.free_ok X G (c.t.d.fact 17 (f := .free "tuple") rfl)),
    -- list
    (He.free_ok X G (c.t.d.fact 18 (f := .free "list") rfl)),
    -- str
    (He.free_ok X G (c.t.d.fact 19 (f := .free "str") rfl)),
    -- range
    (He.free_ok X G (c.t.d.fact 20 (f := .free "range") rfl)),
    -- len
    (He.free_ok X G (c.t.d.fact 6 (f := .free "len") rfl)),
    -- all
    (He.free_ok X G (c.t.d.fact 21 (f := .free "all") rfl)),
    -- enum
    (He.free_ok X G (c.t.d.fact 22 (f := .free "enumerate") rfl)),
    -- badText
    ⟨(He.glo_ok X G (c.t.d.fact 23 (f := .glo "BadText") rfl)), HX.excOk_ok (ck 0 rfl) (c.gf 0 (p := gi "BadText" .index 4) rfl) made_index noSuper⟩,
    -- badNum
    ⟨(He.glo_ok X G (c.t.d.fact 24 (f := .glo "BadNumber") rfl)), HX.excOk_ok (ck 1 rfl) (c.gf 1 (p := gi "BadNumber" .part 3) rfl) made_part noSuper⟩,
    -- badArr
    ⟨(He.glo_ok X G (c.t.d.fact 25 (f := .glo "BadArrows") rfl)), HX.excOk_ok (ck 2 rfl) (c.gf 2 (p := gi "BadArrows" .index 4) rfl) made_index noSuper⟩,
    -- noPlan
    ⟨(He.glo_ok X G (c.t.d.fact 26 (f := .glo "NoPlan") rfl)), HX.excOk_ok (ck 3 rfl) (c.gf 3 (p := gi "NoPlan" .part 3) rfl) made_part noSuper⟩⟩
theorem hTxC (X : K.In h) (G : h.Ns mainGlobals mg) (c : HX.SaysX S w h K) : TxC K mg := by
  have ck : ∀ (i : Nat) {f : PySem.W.Frag → Bool}, cks[i]? = some f → f K = true := fun i f e => cks_ok c i e
  exact ⟨
    -- glo
    (He.glo_ok X G (c.t.d.fact 27 (f := .glo "Plan") rfl)),
    -- sorted
    (He.free_ok X G (c.t.d.fact 28 (f := .free "sorted") rfl)),
    -- cls
    He.cls_ok (c.t.d.fact 29 (f := .cls "Plan") rfl),
    -- mkr
    He.mkr_ok (c.t.d.fact 30 (f := .mkr "Plan") rfl),
    -- init
    c.t.d.def_ 11 rfl,
    -- noS
    He.noat_ok (c.t.d.fact 31 (f := .noat "Plan" "own_switches") rfl),
    -- noA
    He.noat_ok (c.t.d.fact 32 (f := .noat "Plan" "own_arrows") rfl),
    -- sw
    HX.propB_ok (ck 4 rfl) (c.gf 4 (p := gg "Plan" "switches" "Plan.switches" (mst 1)) rfl),
    -- ar
    HX.propB_ok (ck 5 rfl) (c.gf 5 (p := gg "Plan" "arrows" "Plan.arrows" (mst 2)) rfl),
    -- eqf
    He.eqO_ok (ck 6 rfl),
    -- eqn
    (ck 7 rfl),
    -- eq
    c.t.d.def_ 12 rfl,
    -- ne
    He.eqO_ok (ck 8 rfl),
    -- ob
    of_decide_eq_true (ck 9 rfl),
    -- ha
    He.eqO_ok (ck 10 rfl),
    -- hn
    He.eqO_ok (ck 11 rfl),
    -- htk
    of_decide_eq_true (ck 12 rfl),
    -- hm
    of_decide_eq_true (ck 13 rfl),
    -- nNone
    of_decide_eq_true (ck 14 rfl),
    -- nInt
    of_decide_eq_true (ck 15 rfl),
    -- nStr
    of_decide_eq_true (ck 16 rfl)⟩
theorem hTxQ (X : K.In h) (G : h.Ns mainGlobals mg) (c : HX.SaysX S w h K) : TxQ K mg := by
  have ck : ∀ (i : Nat) {f : PySem.W.Frag → Bool}, cks[i]? = some f → f K = true := fun i f e => cks_ok c i e
  exact ⟨
    -- needP
    ⟨c.t.d.def_ 13 rfl, (He.glo_ok X G (c.t.d.fact 33 (f := .glo "need_plan") rfl))⟩,
    -- line
    ⟨c.t.d.def_ 14 rfl, (He.glo_ok X G (c.t.d.fact 34 (f := .glo "plan_line") rfl))⟩,
    -- text
    ⟨c.t.d.def_ 15 rfl, (He.glo_ok X G (c.t.d.fact 35 (f := .glo "plan_text") rfl))⟩⟩
theorem hTxS (X : K.In h) (G : h.Ns mainGlobals mg) (c : HX.SaysX S w h K) : TxS K w mg := by
  have ck : ∀ (i : Nat) {f : PySem.W.Frag → Bool}, cks[i]? = some f → f K = true := fun i f e => cks_ok c i e
  exact ⟨
    -- glo
    (He.glo_ok X G (c.t.d.fact 36 (f := .glo "PLAN_SIGNS") rfl)),
    -- kd
    c.t.tab 0 (t := (fun K => cS K, ["helps", "hinders"])) rfl,
    -- miss
    fun z h1 h2 => HX.ns_miss (dicS c) (by simp [h1, h2]),
    -- yes
    He.valsB_ok (q := ("helps", .int 1)) (K := K) (a := cS K) (kvs := [("helps", .int 1), ("hinders", .int (-1))]) (ck 17 rfl) (by simp),
    -- no
    He.valsB_ok (q := ("hinders", .int (-1))) (K := K) (a := cS K) (kvs := [("helps", .int 1), ("hinders", .int (-1))]) (ck 17 rfl) (by simp),
    -- ain
    ⟨c.t.d.def_ 16 rfl, (He.glo_ok X G (c.t.d.fact 37 (f := .glo "plan_arrow_in") rfl))⟩,
    -- read
    ⟨c.t.d.def_ 17 rfl, (He.glo_ok X G (c.t.d.fact 38 (f := .glo "read_plan") rfl))⟩⟩
theorem hTxD (X : K.In h) (G : h.Ns mainGlobals mg) (c : HX.SaysX S w h K) : TxD K mg := by
  have ck : ∀ (i : Nat) {f : PySem.W.Frag → Bool}, cks[i]? = some f → f K = true := fun i f e => cks_ok c i e
  exact ⟨
    -- rising
    ⟨c.t.d.def_ 18 rfl, (He.glo_ok X G (c.t.d.fact 39 (f := .glo "is_rising") rfl))⟩,
    -- asked
    ⟨c.t.d.def_ 19 rfl, (He.glo_ok X G (c.t.d.fact 40 (f := .glo "is_asked") rfl))⟩,
    -- flipped
    ⟨c.t.d.def_ 20 rfl, (He.glo_ok X G (c.t.d.fact 41 (f := .glo "flipped_arrows") rfl))⟩,
    -- right
    ⟨c.t.d.def_ 21 rfl, (He.glo_ok X G (c.t.d.fact 42 (f := .glo "deed_right") rfl))⟩,
    -- behind
    ⟨c.t.d.def_ 22 rfl, (He.glo_ok X G (c.t.d.fact 43 (f := .glo "plan_behind") rfl))⟩,
    -- zip
    (He.free_ok X G (c.t.d.fact 44 (f := .free "zip") rfl)),
    -- deeds
    ⟨(He.glo_ok X G (c.t.d.fact 45 (f := .glo "DEEDS") rfl)), fun H => He.tupB_ok (ck 18 rfl) H⟩⟩
theorem hTxB (X : K.In h) (G : h.Ns mainGlobals mg) (c : HX.SaysX S w h K) : TxB prog K mg := by
  have ck : ∀ (i : Nat) {f : PySem.W.Frag → Bool}, cks[i]? = some f → f K = true := fun i f e => cks_ok c i e
  exact ⟨
    -- bGlo
    (He.glo_ok X G (c.t.d.fact 46 (f := .glo "Planbook") rfl)),
    -- bCls
    He.cls_ok (c.t.d.fact 47 (f := .cls "Planbook") rfl),
    -- bMk
    He.mkr_ok (c.t.d.fact 48 (f := .mkr "Planbook") rfl),
    -- bInit
    c.t.d.def_ 23 rfl,
    -- bP
    He.noat_ok (c.t.d.fact 49 (f := .noat "Planbook" "own_plans") rfl),
    -- bD
    He.noat_ok (c.t.d.fact 50 (f := .noat "Planbook" "own_deeds") rfl),
    -- bL
    He.noat_ok (c.t.d.fact 51 (f := .noat "Planbook" "own_later") rfl),
    -- bSw
    HX.propB_ok (ck 19 rfl) (c.gf 6 (p := gg "Planbook" "switches" "Planbook.switches" (bst 1)) rfl),
    -- bPl
    HX.propB_ok (ck 20 rfl) (c.gf 7 (p := gg "Planbook" "plan" "Planbook.plan" (bst 2)) rfl),
    -- mDo
    He.meth_ok (c.t.d.fact 52 (f := .meth "Planbook" "do") rfl),
    -- fDo
    c.t.d.def_ 24 rfl,
    -- mRedo
    He.meth_ok (c.t.d.fact 53 (f := .meth "Planbook" "redo") rfl),
    -- fRedo
    c.t.d.def_ 25 rfl,
    -- mLog
    He.meth_ok (c.t.d.fact 54 (f := .meth "Planbook" "log") rfl),
    -- fLog
    c.t.d.def_ 26 rfl,
    -- mTel
    He.meth_ok (c.t.d.fact 55 (f := .meth "Planbook" "telling") rfl),
    -- fTel
    c.t.d.def_ 27 rfl,
    -- eqf
    He.eqO_ok (ck 21 rfl),
    -- eqn
    (ck 22 rfl),
    -- eq
    c.t.d.def_ 28 rfl,
    -- ne
    He.eqO_ok (ck 23 rfl),
    -- ob
    of_decide_eq_true (ck 24 rfl),
    -- ha
    He.eqO_ok (ck 25 rfl),
    -- hn
    He.eqO_ok (ck 11 rfl),
    -- htk
    of_decide_eq_true (ck 12 rfl),
    -- hm
    of_decide_eq_true (ck 26 rfl),
    -- nNone
    of_decide_eq_true (ck 27 rfl),
    -- nInt
    of_decide_eq_true (ck 28 rfl),
    -- nPlan
    of_decide_eq_true (ck 29 rfl),
    -- badEdit
    (He.glo_ok X G (c.t.d.fact 56 (f := .glo "BadEdit") rfl)),
    -- undone
    (let q := He.exc_ok (c.t.d.fact 57 (f := .exc "NothingUndone") rfl); ⟨(He.glo_ok X G (c.t.d.fact 58 (f := .glo "NothingUndone") rfl)), q.1, q.2.1, q.2.2.1, q.2.2.2⟩),
    -- noBook
    (let q := He.exc_ok (c.t.d.fact 59 (f := .exc "NoPlanbook") rfl); ⟨(He.glo_ok X G (c.t.d.fact 60 (f := .glo "NoPlanbook") rfl)), q.1, q.2.1, q.2.2.1, q.2.2.2⟩)⟩
theorem hTxT (X : K.In h) (G : h.Ns mainGlobals mg) (c : HX.SaysX S w h K) : TxT K mg := by
  have ck : ∀ (i : Nat) {f : PySem.W.Frag → Bool}, cks[i]? = some f → f K = true := fun i f e => cks_ok c i e
  exact ⟨
    -- dLine
    ⟨c.t.d.def_ 29 rfl, (He.glo_ok X G (c.t.d.fact 61 (f := .glo "deed_line") rfl))⟩,
    -- pbText
    ⟨c.t.d.def_ 30 rfl, (He.glo_ok X G (c.t.d.fact 62 (f := .glo "planbook_text") rfl))⟩⟩
theorem hTxF (X : K.In h) (G : h.Ns mainGlobals mg) (c : HX.SaysX S w h K) : TxF K mg := by
  have ck : ∀ (i : Nat) {f : PySem.W.Frag → Bool}, cks[i]? = some f → f K = true := fun i f e => cks_ok c i e
  exact ⟨
    -- deeds
    ⟨c.t.d.def_ 31 rfl, (He.glo_ok X G (c.t.d.fact 63 (f := .glo "deeds_of") rfl))⟩,
    -- flips
    ⟨c.t.d.def_ 32 rfl, (He.glo_ok X G (c.t.d.fact 64 (f := .glo "flips_of") rfl))⟩,
    -- readPb
    ⟨c.t.d.def_ 33 rfl, (He.glo_ok X G (c.t.d.fact 65 (f := .glo "read_planbook") rfl))⟩⟩
theorem hTxH (X : K.In h) (G : h.Ns mainGlobals mg) (c : HX.SaysX S w h K) : TxH K mg := by
  have ck : ∀ (i : Nat) {f : PySem.W.Frag → Bool}, cks[i]? = some f → f K = true := fun i f e => cks_ok c i e
  exact ⟨
    -- some_
    ⟨c.t.d.def_ 34 rfl, (He.glo_ok X G (c.t.d.fact 66 (f := .glo "_law_some") rfl))⟩,
    -- arrow
    ⟨c.t.d.def_ 35 rfl, (He.glo_ok X G (c.t.d.fact 67 (f := .glo "_law_arrow") rfl))⟩,
    -- line
    ⟨c.t.d.def_ 36 rfl, (He.glo_ok X G (c.t.d.fact 68 (f := .glo "_law_line") rfl))⟩⟩
theorem hTxZ (X : K.In h) (G : h.Ns mainGlobals mg) (c : HX.SaysX S w h K) : TxZ K mg := by
  have ck : ∀ (i : Nat) {f : PySem.W.Frag → Bool}, cks[i]? = some f → f K = true := fun i f e => cks_ok c i e
  exact ⟨
    -- wrong
    ⟨c.t.d.def_ 37 rfl, (He.glo_ok X G (c.t.d.fact 69 (f := .glo "_law_wrong") rfl))⟩,
    -- dict
    (He.free_ok X G (c.t.d.fact 70 (f := .free "dict") rfl))⟩
theorem hTxW (X : K.In h) (G : h.Ns mainGlobals mg) (c : HX.SaysX S w h K) : TxW K mg (HX.codeAt K (He.ga K "_law_at_line")) := by
  have ck : ∀ (i : Nat) {f : PySem.W.Frag → Bool}, cks[i]? = some f → f K = true := fun i f e => cks_ok c i e
  exact ⟨
    -- caught
    ⟨c.t.d.def_ 38 rfl, (He.glo_ok X G (c.t.d.fact 71 (f := .glo "_law_caught") rfl))⟩,
    -- atLine
    (defT_of (c.t.d.def_ 39 rfl) (He.glo_ok X G (c.t.d.fact 72 (f := .glo "_law_at_line") rfl))),
    -- net
    (He.glo_ok X G (c.t.d.fact 73 (f := .glo "NetError") rfl)),
    -- exT
    He.exm_ok (c.t.d.fact 74 (f := .exm "BadText" "NetError" true) rfl),
    -- exU
    He.exm_ok (c.t.d.fact 75 (f := .exm "NothingUndone" "NetError" true) rfl),
    -- exN
    He.exm_ok (c.t.d.fact 76 (f := .exm "NoPlanbook" "NetError" true) rfl),
    -- xcT
    HX.xcB_ok (ck 30 rfl),
    -- xcU
    HX.xcB_ok (ck 31 rfl),
    -- xcN
    HX.xcB_ok (ck 32 rfl),
    -- noI
    He.noat_ok (c.t.d.fact 77 (f := .noat "BadText" "index") rfl)⟩
theorem hTxR (X : K.In h) (G : h.Ns mainGlobals mg) (c : HX.SaysX S w h K) : TxR K mg := by
  have ck : ∀ (i : Nat) {f : PySem.W.Frag → Bool}, cks[i]? = some f → f K = true := fun i f e => cks_ok c i e
  exact ⟨
    -- rf
    ⟨c.t.d.def_ 40 rfl, (He.glo_ok X G (c.t.d.fact 78 (f := .glo "rings_from") rfl))⟩,
    -- rsign
    ⟨c.t.d.def_ 41 rfl, (He.glo_ok X G (c.t.d.fact 79 (f := .glo "ring_sign") rfl))⟩,
    -- rlen
    (He.free_ok X G (c.t.d.fact 6 (f := .free "len") rfl)),
    -- rsorted
    (He.free_ok X G (c.t.d.fact 28 (f := .free "sorted") rfl))⟩
theorem hTxRa (X : K.In h) (G : h.Ns mainGlobals mg) (c : HX.SaysX S w h K) : TxRa K mg (HX.codeAt K (He.ga K "rings_among")) := by
  have ck : ∀ (i : Nat) {f : PySem.W.Frag → Bool}, cks[i]? = some f → f K = true := fun i f e => cks_ok c i e
  exact ⟨
    -- ra
    (defT_of (c.t.d.def_ 42 rfl) (He.glo_ok X G (c.t.d.fact 80 (f := .glo "rings_among") rfl)))⟩
theorem hTxRt (X : K.In h) (G : h.Ns mainGlobals mg) (c : HX.SaysX S w h K) : TxRt K mg := by
  have ck : ∀ (i : Nat) {f : PySem.W.Frag → Bool}, cks[i]? = some f → f K = true := fun i f e => cks_ok c i e
  exact ⟨
    -- prings
    ⟨c.t.d.def_ 43 rfl, (He.glo_ok X G (c.t.d.fact 81 (f := .glo "plan_rings_by") rfl))⟩,
    -- tel
    ⟨c.t.d.def_ 44 rfl, (He.glo_ok X G (c.t.d.fact 82 (f := .glo "telling_by") rfl))⟩,
    -- rlist
    (He.free_ok X G (c.t.d.fact 18 (f := .free "list") rfl))⟩
theorem txs (X : K.In h) (G : h.Ns mainGlobals mg) (c : HX.SaysX S w h K) : TxA prog w K mg (HX.codeAt K (He.ga K "_law_at_line")) (HX.codeAt K (He.ga K "law")) (HX.codeAt K (He.ga K "rings_among")) := by
  have ck : ∀ (i : Nat) {f : PySem.W.Frag → Bool}, cks[i]? = some f → f K = true := fun i f e => cks_ok c i e
  exact ⟨(hTxL X G c), (hTxP X G c), (hTxC X G c), (hTxQ X G c), (hTxS X G c), (hTxD X G c), (hTxB X G c), (hTxT X G c), (hTxF X G c), (hTxH X G c), (hTxZ X G c), (hTxW X G c), (hTxR X G c), (hTxRa X G c), (hTxRt X G c), (defT_of (c.t.d.def_ 45 rfl) (He.glo_ok X G (c.t.d.fact 83 (f := .glo "law") rfl))), (He.free_ok X G (c.t.d.fact 84 (f := .free "min") rfl)), of_decide_eq_true (ck 33 rfl)⟩
theorem apart_0_1 (c : HX.SaysX S w h K) : HX.tabAt K (HX.codeAt K (He.ga K "_law_at_line")) ≠ HX.tabAt K (HX.codeAt K (He.ga K "law")) := of_decide_eq_true (cks_ok c 34 rfl)
theorem apart_0_2 (c : HX.SaysX S w h K) : HX.tabAt K (HX.codeAt K (He.ga K "_law_at_line")) ≠ HX.tabAt K (HX.codeAt K (He.ga K "rings_among")) := of_decide_eq_true (cks_ok c 35 rfl)
theorem apart_1_2 (c : HX.SaysX S w h K) : HX.tabAt K (HX.codeAt K (He.ga K "law")) ≠ HX.tabAt K (HX.codeAt K (He.ga K "rings_among")) := of_decide_eq_true (cks_ok c 36 rfl)
end
end K24
set_option maxHeartbeats 0
namespace K24
open PySem L2 PySem.EX PyProof.Rows
abbrev R : PySem.W.OpenRow := PySem.W.OpenLaw.row PySem.Challenge.rw_restsallowed_k24_across_texts_of_planboo
abbrev hk : PySem.W.Hook := HX.hookX S
def ob (s : PySem.W.SharedT) : HX.AlX := HX.obsXG S (HandSHeadRun.getT s)
theorem ob_eq (s : PySem.W.SharedT) : ob s = hk.obs s.abs := HX.obsXG_eq (HandSHeadRun.getT_eq s)
def names : List Str := (["_wall", "__name__", "NetError", "PartError", "ItemError", "BadNumber", "BadText", "BadEdit", "NothingUndone", "NoPlan", "BadArrows", "NoPlanbook", "is_number", "is_between", "is_list", "is_rising", "is_tuple_of", "MOST_SWITCHES", "all_states", "is_state", "is_asked", "ring_sign", "rings_from", "rings_among", "fit_of", "first_lots", "fitting_to", "without_one", "greater_lot", "greatest_lot"] : List Str) ++ (["is_arrow", "need_arrows", "Plan", "need_plan", "plan_rings_by", "leads_from", "clash_between", "fits_by", "switches_in", "lines_of", "DEEDS", "flipped_arrows", "deed_right", "plan_behind", "telling_by", "most_by", "Planbook", "deed_line", "planbook_text", "deeds_of", "flips_of", "read_planbook", "PLAN_SIGNS", "plan_line", "plan_text", "plan_arrow_in", "read_plan", "_law_begun", "_law_blend", "_law_draw"] : List Str) ++ (["_law_pick", "_law_caught", "_law_some", "_law_arrow", "_law_line", "_law_wrong", "_law_at_line"] : List Str)
section
open PySem.W HandSHeadRun PySem.Calls
theorem runA0 (w0 : World) : let w := w0.withFollow "special-get-raises" false; ∀ os : OsState, (HandSHeadRun.endF (HandSHeadRun.stepQ (HandSHeadRun.denQ HandSHeadRun.tabQ) R.prog w) 20000 R.prog w os).map (fun s => (HandSHeadRun.looksF R.prog (boot_heap w.params) s.abs, HandSHeadRun.seenQ (PySem.W.view R.prog [77]) names (importedModules R.prog.main.body) (fun s => xlAt (PySem.W.view R.prog [77]) [] s && recOk R.toRowW.records s) s.abs)) = some ((true, openGood (PySem.W.view R.prog [77]) names)) := by
  intro w os
  kernel_rfl
theorem runA1 (w0 : World) : let w := w0.withFollow "special-get-raises" true; ∀ os : OsState, (HandSHeadRun.endF (HandSHeadRun.stepQ (HandSHeadRun.denQ HandSHeadRun.tabQ) R.prog w) 20000 R.prog w os).map (fun s => (HandSHeadRun.looksF R.prog (boot_heap w.params) s.abs, HandSHeadRun.seenQ (PySem.W.view R.prog [77]) names (importedModules R.prog.main.body) (fun s => xlAt (PySem.W.view R.prog [77]) [] s && recOk R.toRowW.records s) s.abs)) = some ((true, openGood (PySem.W.view R.prog [77]) names)) := by
  intro w os
  kernel_rfl
theorem runB0 (w0 : World) : let w := w0.withFollow "special-get-raises" false; ∀ os : OsState, (HandSHeadRun.endF (HandSHeadRun.stepQ (HandSHeadRun.denQ HandSHeadRun.tabQ) R.prog w) 20000 R.prog w os).map (fun s => (ob s).1) = some ((hk.val w).1) := by
  intro w os
  kernel_rfl
theorem runB1 (w0 : World) : let w := w0.withFollow "special-get-raises" true; ∀ os : OsState, (HandSHeadRun.endF (HandSHeadRun.stepQ (HandSHeadRun.denQ HandSHeadRun.tabQ) R.prog w) 20000 R.prog w os).map (fun s => (ob s).1) = some ((hk.val w).1) := by
  intro w os
  kernel_rfl
theorem runC0 (w0 : World) : let w := w0.withFollow "special-get-raises" false; ∀ os : OsState, (HandSHeadRun.endF (HandSHeadRun.stepQ (HandSHeadRun.denQ HandSHeadRun.tabQ) R.prog w) 20000 R.prog w os).map (fun s => (ob s).2) = some ((hk.val w).2) := by
  intro w os
  kernel_rfl
theorem runC1 (w0 : World) : let w := w0.withFollow "special-get-raises" true; ∀ os : OsState, (HandSHeadRun.endF (HandSHeadRun.stepQ (HandSHeadRun.denQ HandSHeadRun.tabQ) R.prog w) 20000 R.prog w os).map (fun s => (ob s).2) = some ((hk.val w).2) := by
  intro w os
  kernel_rfl
end
theorem map_split {δ A B C D : Type} {x : Option δ} {f : δ → A} {g : δ → B} {o : δ → C × D} {a : A} {b : B} {c : C} {d : D} (h1 : x.map (fun s => (f s, g s)) = some (a, b)) (h2 : x.map (fun s => (o s).1) = some c) (h3 : x.map (fun s => (o s).2) = some d) : x.map (fun s => (f s, g s, o s)) = some (a, b, (c, d)) := by
  cases x with
  | none => cases h1
  | some s =>
    have e1 := Option.some.inj h1
    have e2 : (o s).1 = c := Option.some.inj h2
    have e3 : (o s).2 = d := Option.some.inj h3
    have e4 : f s = a := congrArg Prod.fst e1
    have e5 : g s = b := congrArg Prod.snd e1
    show some (f s, g s, o s) = _
    rw [← e2, ← e3, ← e4, ← e5]
theorem run (w : World) : HandSHeadRun.RunEq R (PySem.W.view R.prog [77]) hk ob 20000 names w :=
  PySem.W.byRow2 "special-get-raises" (P := fun w => HandSHeadRun.RunEq R (PySem.W.view R.prog [77]) hk ob 20000 names w) (fun w os => map_split (runA0 w os) (runB0 w os) (runC0 w os)) (fun w os => map_split (runA1 w os) (runB1 w os) (runC1 w os)) w
theorem law_at {w : World} {mg : Str → Option Value} {fa : Addr} {h : Heap} (Y : hk.says w h) (G : h.Ns mainGlobals mg) (hmg : mg ("law" : Str) = some (.ref fa)) :
    ∃ K : PySem.W.Frag, K.In h ∧ LamX.LawAtS PySem.Challenge.rw_restsallowed_k24_across_texts_of_planboo w K CX0 13 63 "script" mg fa h := by
  obtain ⟨K, KX, c⟩ := Y
  refine ⟨K, KX, ?_⟩
  have Z := txs KX G c
  obtain ⟨a0, b0, c0⟩ := c.l "_law_at_line" (by simp [S])
  obtain ⟨a1, b1, c1⟩ := c.l "law" (by simp [S])
  obtain ⟨a2, b2, c2⟩ := c.l "rings_among" (by simp [S])
  have e := hmg.symm.trans Z.law.2
  cases e
  obtain ⟨⟨fd0, F0, _⟩, _⟩ := id Z.law
  have bnd := FunD.bindsA (ps := ["script"]) F0 fun _ _ _ _ _ _ us hl => match us, hl with | [_], _ => rfl
  refine ⟨fd0, [(HX.codeAt K (He.ga K "_law_at_line"), HX.tabAt K (HX.codeAt K (He.ga K "_law_at_line"))), (HX.codeAt K (He.ga K "law"), HX.tabAt K (HX.codeAt K (He.ga K "law"))), (HX.codeAt K (He.ga K "rings_among"), HX.tabAt K (HX.codeAt K (He.ga K "rings_among")))],
    spLaw K [(HX.tabAt K (HX.codeAt K (He.ga K "_law_at_line")), lamQ "_law_at_line"), (HX.tabAt K (HX.codeAt K (He.ga K "law")), lamQ "law"), (HX.tabAt K (HX.codeAt K (He.ga K "rings_among")), lamQ "rings_among")], ?_, ?_, ?_, fun s u => bnd s [u] rfl, ?_, ?_⟩
  · intro p hp
    rcases List.mem_cons.mp hp with rfl | hp
    · exact b0
    rcases List.mem_cons.mp hp with rfl | hp
    · exact b1
    · rw [List.mem_singleton.mp hp]; exact b2
  · intro p hp
    rcases List.mem_cons.mp hp with rfl | hp
    · exact c0
    rcases List.mem_cons.mp hp with rfl | hp
    · exact c1
    · rw [List.mem_singleton.mp hp]; exact c2
  · intro p hp
    rcases List.mem_cons.mp hp with rfl | hp
    · exact a0
    rcases List.mem_cons.mp hp with rfl | hp
    · exact a1
    · rw [List.mem_singleton.mp hp]; exact a2
  · intro H a ns hl _ hH hS
    refine ⟨a, ns, rfl, hS, hl, fun p hp => ?_, fun _ => rfl⟩
    rcases List.mem_cons.mp hp with rfl | hp
    · exact LamX.TabS.nil (hH (_, _) List.mem_cons_self)
    rcases List.mem_cons.mp hp with rfl | hp
    · exact LamX.TabS.nil (hH (_, _) (List.mem_cons_of_mem _ List.mem_cons_self))
    · rw [List.mem_singleton.mp hp]
      exact LamX.TabS.nil (hH (_, _) (List.mem_cons_of_mem _ (List.mem_cons_of_mem _ List.mem_cons_self)))
  · intro base hK hG TB
    have m0 : (HX.tabAt K (HX.codeAt K (He.ga K "_law_at_line")), lamQ "_law_at_line") ∈ ([(HX.tabAt K (HX.codeAt K (He.ga K "_law_at_line")), lamQ "_law_at_line"), (HX.tabAt K (HX.codeAt K (He.ga K "law")), lamQ "law"), (HX.tabAt K (HX.codeAt K (He.ga K "rings_among")), lamQ "rings_among")] : List (Addr × Str)) := List.mem_cons_self
    have u0 : ∀ p ∈ ([(HX.tabAt K (HX.codeAt K (He.ga K "_law_at_line")), lamQ "_law_at_line"), (HX.tabAt K (HX.codeAt K (He.ga K "law")), lamQ "law"), (HX.tabAt K (HX.codeAt K (He.ga K "rings_among")), lamQ "rings_among")] : List (Addr × Str)), p.1 = HX.tabAt K (HX.codeAt K (He.ga K "_law_at_line")) → p.2 = lamQ "_law_at_line" := fun p hp e => by
      rcases List.mem_cons.mp hp with rfl | hp
      · rfl
      rcases List.mem_cons.mp hp with rfl | hp
      · exact absurd e.symm (apart_0_1 c)
      · rw [List.mem_singleton.mp hp] at e ⊢
        exact absurd e.symm (apart_0_2 c)
    have t0 := TB (_, _) List.mem_cons_self
    have m1 : (HX.tabAt K (HX.codeAt K (He.ga K "law")), lamQ "law") ∈ ([(HX.tabAt K (HX.codeAt K (He.ga K "_law_at_line")), lamQ "_law_at_line"), (HX.tabAt K (HX.codeAt K (He.ga K "law")), lamQ "law"), (HX.tabAt K (HX.codeAt K (He.ga K "rings_among")), lamQ "rings_among")] : List (Addr × Str)) := (List.mem_cons_of_mem _ List.mem_cons_self)
    have u1 : ∀ p ∈ ([(HX.tabAt K (HX.codeAt K (He.ga K "_law_at_line")), lamQ "_law_at_line"), (HX.tabAt K (HX.codeAt K (He.ga K "law")), lamQ "law"), (HX.tabAt K (HX.codeAt K (He.ga K "rings_among")), lamQ "rings_among")] : List (Addr × Str)), p.1 = HX.tabAt K (HX.codeAt K (He.ga K "law")) → p.2 = lamQ "law" := fun p hp e => by
      rcases List.mem_cons.mp hp with rfl | hp
      · exact absurd e (apart_0_1 c)
      rcases List.mem_cons.mp hp with rfl | hp
      · rfl
      · rw [List.mem_singleton.mp hp] at e ⊢
        exact absurd e.symm (apart_1_2 c)
    have t1 := TB (_, _) (List.mem_cons_of_mem _ List.mem_cons_self)
    have m2 : (HX.tabAt K (HX.codeAt K (He.ga K "rings_among")), lamQ "rings_among") ∈ ([(HX.tabAt K (HX.codeAt K (He.ga K "_law_at_line")), lamQ "_law_at_line"), (HX.tabAt K (HX.codeAt K (He.ga K "law")), lamQ "law"), (HX.tabAt K (HX.codeAt K (He.ga K "rings_among")), lamQ "rings_among")] : List (Addr × Str)) := (List.mem_cons_of_mem _ (List.mem_cons_of_mem _ List.mem_cons_self))
    have u2 : ∀ p ∈ ([(HX.tabAt K (HX.codeAt K (He.ga K "_law_at_line")), lamQ "_law_at_line"), (HX.tabAt K (HX.codeAt K (He.ga K "law")), lamQ "law"), (HX.tabAt K (HX.codeAt K (He.ga K "rings_among")), lamQ "rings_among")] : List (Addr × Str)), p.1 = HX.tabAt K (HX.codeAt K (He.ga K "rings_among")) → p.2 = lamQ "rings_among" := fun p hp e => by
      rcases List.mem_cons.mp hp with rfl | hp
      · exact absurd e (apart_0_2 c)
      rcases List.mem_cons.mp hp with rfl | hp
      · exact absurd e (apart_1_2 c)
      · rw [List.mem_singleton.mp hp] at e ⊢
        try rfl
    have t2 := TB (_, _) (List.mem_cons_of_mem _ (List.mem_cons_of_mem _ List.mem_cons_self))
    obtain ⟨fdT, GT, hbT⟩ := ok_tel (P := prog) (w := w) (base := base) (T := [(HX.tabAt K (HX.codeAt K (He.ga K "_law_at_line")), lamQ "_law_at_line"), (HX.tabAt K (HX.codeAt K (He.ga K "law")), lamQ "law"), (HX.tabAt K (HX.codeAt K (He.ga K "rings_among")), lamQ "rings_among")]) Z.c Z.b Z.r Z.ra Z.rt t2 m2 u2
    obtain ⟨fd, ok, b, F⟩ := ok_law (P := prog) (w := w) (base := base) (T := [(HX.tabAt K (HX.codeAt K (He.ga K "_law_at_line")), lamQ "_law_at_line"), (HX.tabAt K (HX.codeAt K (He.ga K "law")), lamQ "law"), (HX.tabAt K (HX.codeAt K (He.ga K "rings_among")), lamQ "rings_among")]) (f := telA) GT hbT Z.toTxs t0 t1 m0 u0 m1 u1
    have ef : fd = fd0 := by
      obtain ⟨oc, od, dV, kV, doc, pm, an, cdv, ct, osl, e1, lk, _⟩ := F.ex
      obtain ⟨oc', od', dV', kV', doc', pm', an', cdv', ct', osl', e1', lk', _⟩ := F0.ex
      rw [lk] at lk'
      cases lk'
      rfl
    rw [← ef]
    exact ok
end K24
open PySem PySem.W PySem.Calls PyProof.Rows
theorem PySem.Challenge.cw_restsallowed_k24_across_texts_of_planboo_holds : PySem.Challenge.rw_restsallowed_k24_across_texts_of_planboo.Holds := by
  w_on; o_law
  refine HandSHeadRun.head_any (r := OpenLaw.row PySem.Challenge.rw_restsallowed_k24_across_texts_of_planboo) (q := view (OpenLaw.row PySem.Challenge.rw_restsallowed_k24_across_texts_of_planboo).prog [77]) (H := K24.hk) (ob := K24.ob) (M := 20000) (loose := K24.names) (d := HandSHeadRun.topDef (OpenLaw.row PySem.Challenge.rw_restsallowed_k24_across_texts_of_planboo).prog 77) (kwd := []) K24.ob_eq
    (by kernel_rfl) (fun s => by kernel_rfl) K24.run (by kernel_rfl) (by kernel_rfl) (by kernel_rfl) (by rfl) (by first | assumption | decide +kernel) (by decide +kernel) ⟨rfl, rfl, rfl, rfl, rfl, by decide +kernel⟩ ?hw ?hc
  case hw => w_witness2
  case hc =>
    refine LamX.walk_ofTsE (l := PySem.Challenge.rw_restsallowed_k24_across_texts_of_planboo) (n := 63) (k := 13) (x := "script") (CX := fun _ => L2.CX0) rfl (by decide) (by kernel_rfl) ⟨rfl, by decide, by decide⟩ ?F (fun _ _ _ _ _ z => z)
    intro w mg fa h Y G hmg0
    have hmg : mg ("law" : PySem.Str) = some (.ref fa) := by
      have e : (HandSHeadRun.topDef (OpenLaw.row PySem.Challenge.rw_restsallowed_k24_across_texts_of_planboo).prog 77).name = ("law" : PySem.Str) := by kernel_rfl
      rw [← e]
      exact hmg0
    exact K24.law_at Y G hmg
