import PyProof.Rows.All
import Wide.All
import OpenK.AllK
import Wide.FinOn
import KE.KExcSuper
import KE.KExcInit
import HandS.Base
import HandS.Call
import HandS.Exc
import HandS.ExcField
import HandS.TryMany
import HandS.HeadHook2
import KE.GoesMore
import KE.GoesZip
import HandS.Zip
import HandS.Conv
import HandS.ForSpec
import HandS.ForMost
import HandS.Wide
import HandS.Walk
import HandS.Deep
import HandS.TupAny
import HandS.Style
import HandS.NoneIn
import HandS.IsInst
import HandS.RaiseMore
import HandS.Lambda
import HandS.HeadHook1
import PyProof.ListMulRoad
import PyProof.FactsAll.tuple_2
import PyProof.StrOps2
import HandS.List
import HandS.ExcOwn
import HandS.Defaults
import HandS.Words
import PyProof.ReprLen
import HandS.SortInts
import HandS.More
import HandS.Small
import HandS.Text
import HandS.Dict
import HandS.Ends
import HandS.HeadEnd
import KE.KNestM
import HandS.Head0
import HandS.Head1
import HandS.Head2
import HandS.HeadHook3
import KE.KStateDown
import Lean
import PySem.Challenge.RW_forevern_k21_errors_of_units
set_option Elab.async false
set_option linter.all false
set_option maxRecDepth 100000
set_option maxHeartbeats 1000000
/-! ## Mi29: an own error class that keeps one field, made by super().__init__(text); self.f = f -/
namespace PySem
namespace MiX
open PySem.W PySem.Calls PyProof.Rows

/-- a built-in class that an own error class stands over -/
structure BaseX (B newId i : String) (bmB : List Value) : Prop where
  call : ExcBaseFacts B newId i bmB
  sup : KxsFacts B i
  store : StoreFacts B bmB "object.__setattr__" "object"
theorem base_IndexError : BaseX "IndexError" "IndexError.__new__" "IndexError.__init__" [.type "IndexError", .type "LookupError", .type "Exception", .type "BaseException", .type "object"] := ⟨PySem.F.excBase_IndexError, kxs_IndexError, PySem.F.store_IndexError⟩
theorem base_OverflowError : BaseX "OverflowError" "OverflowError.__new__" "OverflowError.__init__" [.type "OverflowError", .type "ArithmeticError", .type "Exception", .type "BaseException", .type "object"] := ⟨PySem.F.excBase_OverflowError, kxs_OverflowError, PySem.F.store_OverflowError⟩
theorem base_ValueError : BaseX "ValueError" "ValueError.__new__" "ValueError.__init__" [.type "ValueError", .type "Exception", .type "BaseException", .type "object"] := ⟨PySem.F.excBase_ValueError, kxs_ValueError, PySem.F.store_ValueError⟩
theorem base_ArithmeticError : BaseX "ArithmeticError" "ArithmeticError.__new__" "ArithmeticError.__init__" [.type "ArithmeticError", .type "Exception", .type "BaseException", .type "object"] := ⟨PySem.F.excBase_ArithmeticError, kxs_ArithmeticError, PySem.F.store_ArithmeticError⟩
theorem base_RuntimeError : BaseX "RuntimeError" "RuntimeError.__new__" "RuntimeError.__init__" [.type "RuntimeError", .type "Exception", .type "BaseException", .type "object"] := ⟨PySem.F.excBase_RuntimeError, kxs_RuntimeError, PySem.F.store_RuntimeError⟩

/-! ### the text of __init__ -/
def kA (f : Str) (p1 p2 : Pos) : Arguments := { posonlyargs := [], args := [{ arg := "self", annotation := none, pos := p1 }, { arg := f, annotation := none, pos := p2 }], vararg := none, kwonlyargs := [], kw_defaults := [], kwarg := none, defaults := [] }
def kB (msg f : Str) (k : Nat) (p0 p1 p2 p3 p4 p5 q1 q2 q3 q4 : Pos) : List Stmt :=
  [.Expr (.Call (.Attribute (.Call (.Name "super" p0) [] [] p1) "__init__" p2) [.Constant (.str msg) k p3] [] p4) p5, .Assign [.Attribute (.Name "self" q1) f q2] (.Name f q3) q4]
structure KScope (sc : Scope) (f : Str) : Prop where
  kd : sc.kind = .function
  co : sc.isCoroutine = false
  gen : sc.isGenerator = false
  nc : ∀ x ∈ sc.names, x.2 ≠ .cell
  sup : sc.names.lookup ("super" : Str) = some .globalImplicit
  cl : sc.names.lookup ("__class__" : Str) = some .free
  slf : sc.names.lookup ("self" : Str) = some .local
  fld : sc.names.lookup f = some .local
  db : (f == ("__debug__" : Str)) = false
  ne : f ≠ "self"
/-- what the written part says of the class x at C, of its __init__ at fI -/
structure KtTxt (prog : Program) (K : Frag) (x f : Str) (C fI : Addr) (B newId i : String) (bmB : List Value) : Prop where
  ini : excInitIn K C bmB newId = true
  over : excOver K C bmB = true
  noF : takerIn K C f = some none
  sa : findIn K (.ref C) "__setattr__" = some (some (.builtin "object.__setattr__"))
  hd : hasDictIn K C = true
  iC : findIn K (.ref C) "__init__" = some (some (.ref fI))
  fnI : isFn K (.ref fI) = true
  kC : keepIn K (.ref C) = true
  exC : subIn K (.ref C) (.type "BaseException") = some true
  tyC : typeIn K (.ref C) = some (.type "type")
  hB : subIn K (.ref C) (.type B) = some true
  slf : mroIn K C (.ref C) = some true
  opq : nsIn K cStatics "thirdparty.any" = some none
  sup : ks_superIn K C C "__init__" = some (some (.builtin i))
  noTop : (prog.main.scope.names.lookup ("super" : Str)).isSome = false
  fn : ∃ (oc : Value) (od : Option Addr) (doc pm ct : Value) (an : Option Addr) (osl : Array (Option Value)) (sc : Scope) (cc cda : Addr) (msg qual : Str) (k : Nat) (p1 p2 p0 p3 p4 p5 p6 p7 q1 q2 q3 q4 : Pos),
    K.lookup fI = some ⟨oc, od, .func (ksFn "__init__" qual (kA f p1 p2) (kB msg f k p0 p3 p4 p5 p6 p7 q1 q2 q3 q4) sc .none .none doc pm an (.ref cda) ct cc), osl⟩ ∧ codeIn K (.ref cda) qual = true ∧ KScope sc f ∧ (p4.endLine == p6.line) = true ∧
    (∃ ccl cdd vs ccs file tf, K.lookup cda = some ⟨ccl, cdd, .fields vs, ccs⟩ ∧ vs[2]? = some (.str file tf) ∧ ((prog.main.file : Str) == file) = true) ∧ (∃ cl cld csl, K.lookup cc = some ⟨cl, cld, .cell (some (.ref C)), csl⟩)

theorem kept_but {K : Frag} {h h' : Heap} {x : Addr} (X : K.In h) (hx : K.lookup x = none) (k : ∀ b o, b ≠ x → h.get? b = some o → h'.get? b = some o) : K.In h' := fun a o e =>
  k a o (fun z => by rw [z, hx] at e; cases e) (X a o e)
theorem ns_up {h h' : Heap} {L : Addr} {m : Str → Option Value} (n : h.Ns L m) (k : ∀ b o, h.get? b = some o → h'.get? b = some o) : h'.Ns L m := by
  obtain ⟨o, es, ep, e, r⟩ := n
  exact ⟨o, es, ep, k _ _ e, r⟩
theorem ns_but {h h' : Heap} {L x : Addr} {m : Str → Option Value} (n : h.Ns L m) (hL : L ≠ x) (k : ∀ b o, b ≠ x → h.get? b = some o → h'.get? b = some o) : h'.Ns L m := by
  obtain ⟨o, es, ep, e, r⟩ := n
  exact ⟨o, es, ep, k _ _ hL e, r⟩

section
variable {prog : Program} {w : World} {A : Around} {E : Value → Shared → Prop} {h : Heap} {g : Array GenState} {d : Drawn} {t : Nat} {os : OsState}
variable {nm q : Str} {C N : Addr} {bs bm bmB : List Value} {hdct : Bool} {sn : List Str} {sub : List Value} {ab : Bool} {col : Option Bool} {dd : Option Addr} {k0 k1 k2 k3 k5 : Option Value} {B newId i : String}
/-- the bound built-in __init__ called -/
theorem call_mw (FB : ExcBaseFacts B newId i bmB) {u e t0 : Addr} {rest : List Value} {Q : Value → Shared → Prop}
    (hC : h.get? C = some (excClassObj nm q C N bs bm hdct sn sub ab col dd k0 k1 k2 k3 k5 newId)) (he : h.get? e = some (excObj C t0 none .none)) (hu : h.get? u = some (kxs_mw i e)) (hrest : rest.length ≤ sizeLine)
    (hq : ∀ h' t1, (∀ b o, b ≠ e → h.get? b = some o → h'.get? b = some o) → h'.get? e = some (excObj C t1 none .none) → Q .none ⟨h', g, d, t, os⟩) :
    wpAny (model prog w) A (call (.ref u) rest) Q E ⟨h, g, d, t, os⟩ := by
  refine wpAny_call (codeAny_of_tree ?_)
  show wpAny _ A.in1 (callAny (.ref u) ⟨rest, []⟩) _ _ _
  simp only [callAny]
  refine wpAny_bind (wpAny_load hu ?_)
  simp only [kxs_mw, show (Value.type "method-wrapper" == Value.type "method" || Value.type "method-wrapper" == Value.type "builtin_function_or_method" || Value.type "method-wrapper" == Value.type "method-wrapper") = true by decide, if_true]
  refine KFB.if_so (by decide) ?_
  refine wpAny_bind (check_bound_init FB.toExcCallFacts hC he rfl ?_)
  refine wpAny_bind (wpAny_pure (wpAny_pure ?_))
  refine ⟨plainId_quiet FB.init.plain _, codeAny_builtin FB.initEntry ?_⟩
  exact exc_init_tree (cls := .ref C) (t0 := t0) (dv := none) (c2 := .none) (c3 := .none) (b4 := .bool false) he hrest fun h' k e' _ => hq h' _ k e'
end

theorem kt_bind {qual f : Str} {p1 p2 : Pos} {body : List Stmt} {sc : Scope} {doc pm ct cv : Value} {an : Option Addr} {cc e : Addr} {v : Value} (ne : f ≠ "self") :
    bindArgs (ksFn "__init__" qual (kA f p1 p2) body sc .none .none doc pm an cv ct cc) ⟨[.ref e, v], []⟩ = (pure [(("self" : Str), Value.ref e), (f, v)] : Sem (List (Str × Value))) := by
  have h1 : (f == ("self" : Str)) = false := by simpa using ne
  have h2 : (("self" : Str) == f) = false := by simpa using Ne.symm ne
  unfold bindArgs
  simp [kA, seqItems?, List.lookup, h1, h2]
  rfl
theorem kt_call {prog : Program} {w : World} {A : Around} {c : Code} {E : Value → Shared → Prop} {s : Shared} {env : Env} {o : Expr} {name : Str} {apos pos : Pos} {args : List Expr} {Q : Value → Shared → Prop} (hline : (apos.endLine == pos.line) = true)
    (hfew : ((backTo pos (starEach args env)).all (fun x => !x.1) && (backToKw pos (keywordEach [] env)).all (fun x => x.1.isSome)
      && decide (args.length + ([] : List Keyword).length + (if ([] : List Keyword).isEmpty then 0 else 1) < 30)) = true)
    (h : wpAt (model prog w) A c (attributeBase o name env (eval o env)) (fun ov s₁ => ∀ pl, wpAny (model prog w) A (getMethod ov name pl) (fun fx s₂ => wpAny (model prog w) A (callWith pos fx.1 fx.2 (backTo pos (starEach args env)) []) Q E s₂) E s₁) E s) :
    wpAt (model prog w) A c (eval (.Call (.Attribute o name apos) args [] pos) env) Q E s := by
  rw [arm_eval_Call]
  refine wpAt_bind (wpAt_mono h (fun ov s₁ h₁ => wpAt_of_wpAny (wpAny_bind (wpAny_standAt ?_))) fun _ _ x => x)
  have hform : methodCallForm (args.length + ([] : List Keyword).length) (backTo pos (starEach args env)) (backToKw pos (keywordEach [] env)) = true := hfew
  have hpos : methodCallPos true o env apos pos = pure pos := by unfold methodCallPos; simp [hline]
  unfold methodCall
  rw [hform]
  refine wpAny_bind (wpAny_holding (wpAny_mono (h₁ _) (fun fx s₂ h₂ => ?_) fun _ _ x => x))
  exact wpAny_bind (wpAny_of_eq hpos h₂)
/-- what __init__ leaves of a fresh error at x -/
structure InitEnd (h h' : Heap) (x C dx t1 : Addr) (f : Str) (v : Value) : Prop where
  keep : ∀ b o, b ≠ x → h.get? b = some o → h'.get? b = some o
  obj : h'.get? x = some { cls := .ref C, dict := some dx, data := .fields #[.ref t1, .none, .none, .none, .bool false, .none] }
  dbig : h.objs.size ≤ dx
  dne : dx ≠ x
  ns : h'.Ns1 dx (fun y => if y = f then some v else none)
section
variable {prog : Program} {w : World} {A : Around} {R : Result → Shared → Prop} {s : Shared} {K : Frag} {mg mb : Str → Option Value} {C fI : Addr} {x f : Str} {B newId i : String} {bmB : List Value}
theorem kt_init (BX : BaseX B newId i bmB) (T : KtTxt prog K x f C fI B newId i bmB) {e t0 : Addr} {v : Value} (X : K.In s.heap) (hg : s.heap.Ns mainGlobals mg) (hgs : mg "super" = none) (hb : s.heap.Ns builtinsNs mb) (hbs : mb "super" = some (.type "super"))
    (hlim : s.heap.NoLimit) (hx : s.heap.get? e = some (excObj C t0 none .none)) (hnx : K.lookup e = none) (hroom : A.depth < recursionLimit)
    (hq : ∀ h' tk dx t1, InitEnd s.heap h' e C dx t1 f v → R (.ok (.ret .none)) { s with heap := h', toks := tk }) :
    codeAny (model prog w) A (.call (.ref fI) ⟨[.ref e, v], []⟩) R s := by
  obtain ⟨oc, od, doc, pm, ct, an, osl, sc, cc, cda, msg, qual, k, p1, p2, p0, p3, p4, p5, p6, p7, q1, q2, q3, q4, ho, hcd, S, hline, ⟨ccl, cdd, vs, ccs, file, tf, hcode, hvs, hfile⟩, ⟨cl, cld, csl, hcell⟩⟩ := T.fn
  obtain ⟨nm, N', qn, bs, bm, hdct, sn, sub, ab, col, dd, k0, k1, k2, k3, k5, hC, hT⟩ := excInit_of X T.ini
  refine ks_codeAny_call_defAt (binds := [("self", .ref e), (f, v)]) hroom (X _ _ ho) rfl hlim (codeRec_of X hcd) rfl (BindsTo.of_eq (kt_bind S.ne)) S.nc (fun y hy => ?_) (fun h₁ hn k₁ => ?_) S.co S.gen S.kd
  · rcases List.mem_cons.mp hy with rfl | hy
    · exact S.slf
    · rw [List.mem_singleton.mp hy]; exact S.fld
  have X₁ : K.In h₁ := X.keeps k₁
  have hx₁ := k₁ _ _ hx
  have exs : s.heap.objs.size ≠ e := Nat.ne_of_gt (Heap.lt_size hx)
  have hv : ([("self", Value.ref e), (f, v)] : List (Str × Value)).reverse.lookup f = some v := by simp [List.lookup]
  have hse : ([("self", Value.ref e), (f, v)] : List (Str × Value)).reverse.lookup ("self" : Str) = some (.ref e) := by
    have : (("self" : Str) == f) = false := by simpa using Ne.symm S.ne
    simp [List.lookup, this]
  have hC₁ := k₁ _ _ hC
  have ho' := X₁ _ _ ho
  obtain ⟨cd, hcl, hd⟩ := any_some T.hd
  have hn0 : e ≠ C := fun z => by
    rw [z, hC] at hx
    cases hx
  unfold kB
  refine ks_wpAt_execs_cons (ks_wpAt_Expr_any (kt_call hline (by first | rfl | with_unfolding_all rfl) ?_) (by unfold interactive; simp [callEnv, newEnv, S.kd]))
  refine ks_wpAt_super_base S.sup S.cl (by decide) rfl ho' rfl rfl rfl (X₁ _ _ hcode) rfl hvs hfile T.noTop ?_
  refine ks_loadName_global S.kd S.sup (loadGlobal_builtin (ns_up hg k₁) hgs (ns_up hb k₁) hbs ⟨rfl, ?_⟩)
  refine wpAny_loadName_free S.kd S.cl rfl ⟨_, X₁ _ _ hcell, rfl⟩ ?_
  refine wpAny_loadName_local S.kd S.slf hn hse ?_
  refine ks_wpAny_isType_cls hC₁ rfl ⟨rfl, ?_⟩
  refine ks_wpAny_call_super hC₁ rfl hx₁ rfl (fun c z => by cases z) (looks_mroIn X₁ T.slf) (fun h₂ e₂ k₂ => ?_)
  have X₂ := X₁.keeps k₂
  have hx₂ := k₂ _ _ hx₁
  have I₂ : InstAt h₂ e (excObj C t0 none .none) C none := ⟨hx₂, rfl, rfl, trivial⟩
  have hsu := T.sup
  unfold ks_superIn at hsu
  rw [hcl] at hsu
  intro pl
  refine kxs_getMethod BX.sup e₂ (looks_opaque X₂ T.opq) (l₀ := cd.mro) (fun A Q E s k q => wpAny_bind ((looks_clsIn X₂ hcl) A _ E s k (wpAny_pure q))) rfl X₂ hsu (I₂.type.andThen (looks_subIn X₂ T.hB)) hn0 (by decide) ?_
  have k₃ : ∀ b o, h₂.get? b = some o → (h₂.push (kxs_mw i e)).get? b = some o := fun b o y => Heap.get?_push_of_some _ y
  refine kxs_callWith (i := i) (x := e) rfl (evalArgs_plain (spliced_more (Constant_str (spliced_none ⟨Heap.get?_push_size h₂ rfl, ?_⟩))))
  refine call_mw BX.call (k₃ _ _ (k₂ _ _ hC₁)) (k₃ _ _ hx₂) (Heap.get?_push_size h₂ rfl) (by size_fits) (fun h₄ t1 k₄ hx₄ => ?_)
  have X₄ : K.In h₄ := kept_but (X₂.keeps k₃) hnx k₄
  have kk : ∀ b o, b ≠ e → h₁.get? b = some o → h₄.get? b = some o := fun b o nb y => k₄ b o nb (k₃ _ _ (k₂ _ _ y))
  have hn₄ := ns_but hn exs kk
  have sz₁ : s.heap.objs.size < h₄.objs.size := by
    obtain ⟨oL, _, _, eL, _⟩ := hn₄
    exact Heap.lt_size eL
  have exh : e < h₄.objs.size := Heap.lt_size hx₄
  show wpAt _ _ _ (execs (_ :: _) _) _ _ _
  refine ks_wpAt_execs_cons (ks_wpAt_Assign_Attr (wpAt_of_wpAny (wpAny_Name (wpAny_loadName_local S.kd S.fld hn₄ hv ?_) S.db)) (by first | rfl | with_unfolding_all rfl))
  refine wpAny_Name (wpAny_loadName_local S.kd S.slf hn₄ hse ?_) (by decide)
  refine set_plain X₄ (ox := excObj C t1 none .none) (od := none) ⟨hx₄, rfl, rfl, trivial⟩ T.sa ?_
  refine osa_openX BX.store X₄ (ox := excObj C t1 none .none) (od := none) ⟨hx₄, rfl, rfl, trivial⟩ T.over T.noF (fun b => ?_)
  refine wpAny_bind (wpAny_pure (wpAny_bind (instanceDict_exc hx₄ (looks_clsIn X₄ hcl) hd ?_)))
  show wpAny _ _ (Builtin.ObjectAttr.storeInDict h₄.objs.size (.str f _) f v) _ _ _
  refine HandSPX.store_in_new ?_ (fun h' tk' hn' hs => ?_)
  · exact ⟨_, #[], _, (Heap.get?_update_ne _ _ _ _ (Nat.ne_of_gt exh)).trans (Heap.get?_push_at rfl rfl), rfl, fun e he => absurd he (by simp), fun _ => rfl⟩
  · show wpAt _ _ _ (execs [] _) _ _ _
    refine wpAt_of_wpAny (wpAny_execs_nil ?_)
    have hx₅ : (h₄.push (dictOf [] 0)).get? e = some (excObj C t1 none .none) := Heap.get?_push_of_some _ hx₄
    refine hq h' _ h₄.objs.size t1 ⟨fun b o nb eb => ?_, ?_, ?_, Nat.ne_of_gt exh, hn'⟩
    · have y := kk b o nb (k₁ _ _ eb)
      exact (hs.2 b (Nat.ne_of_lt (Heap.lt_size y))).trans ((Heap.get?_update_ne _ _ _ _ nb).trans (Heap.get?_push_of_some _ y))
    · exact (hs.2 e (Nat.ne_of_lt exh)).trans (Heap.get?_update_self _ hx₅ rfl)
    · exact Nat.le_of_lt sz₁
theorem one_size (v : Value) : [v].length ≤ sizeLine := by
  rw [sizeLine_eq]
  exact (by decide : 1 ≤ 16777216)
/-- a made error -/
structure OwnMade (h h' : Heap) (e C d : Addr) (f : Str) (v : Value) : Prop where
  keep : ∀ b o, h.get? b = some o → h'.get? b = some o
  new : h.objs.size ≤ e
  obj : ∃ oe vs, h'.get? e = some oe ∧ oe.cls = .ref C ∧ oe.dict = some d ∧ oe.data = .fields vs ∧ vs[1]? = some .none
  dbig : h.objs.size ≤ d
  dne : d ≠ e
  ns : h'.Ns1 d (fun y => if y = f then some v else none)
theorem kt_made (BX : BaseX B newId i bmB) (T : KtTxt prog K x f C fI B newId i bmB) {v : Value} (X : K.In s.heap) (hg : s.heap.Ns mainGlobals mg) (hgs : mg "super" = none) (hb : s.heap.Ns builtinsNs mb) (hbs : mb "super" = some (.type "super"))
    (hlim : s.heap.NoLimit) (hroom : A.depth + 1 < recursionLimit)
    (hq : ∀ h' tk e d, OwnMade s.heap h' e C d f v → R (.ok (.ret (.ref e))) { s with heap := h', toks := tk }) :
    codeAny (model prog w) A (.call (.ref C) ⟨[v], []⟩) R s := by
  obtain ⟨nm, N', qn, bs, bm, hdct, sn, sub, ab, col, dd, k0, k1, k2, k3, k5, hC, hT⟩ := excInit_of X T.ini
  obtain ⟨oI, hoI, hcI⟩ : ∃ oI, s.heap.get? fI = some oI ∧ oI.cls = .type "function" := by
    obtain ⟨o, ho, hc⟩ := Option.map_eq_some_iff.mp (show (K.lookup fI).map (·.cls) = some (.type "function") from beq_iff_eq.mp T.fnI)
    exact ⟨o, X _ _ ho, hc⟩
  obtain ⟨hp, g, dr, tk, os⟩ := s
  have k : ∀ b o, hp.get? b = some o → ((hp.push (excTup [v])).push (excObj C hp.objs.size none .none)).get? b = some o := fun b o e => Heap.get?_push_of_some _ (Heap.get?_push_of_some _ e)
  have hget : ((hp.push (excTup [v])).push (excObj C hp.objs.size none .none)).get? (hp.objs.size + 1) = some (excObj C hp.objs.size none .none) := by heap_get
  have hnx : K.lookup (hp.objs.size + 1) = none := by
    cases e : K.lookup (hp.objs.size + 1) with
    | none => rfl
    | some o =>
      have z : hp.get? (hp.objs.size + 1) = some o := X _ _ e
      exact absurd (Nat.lt_of_succ_lt (Heap.lt_size z)) (Nat.lt_irrefl _)
  refine PX.call_own BX.call hT hC (looks_findIn X T.iC) (fun self => exc_bind hoI hcI self) (one_size v) ?_
  refine kt_init (s := ⟨(hp.push (excTup [v])).push (excObj C hp.objs.size none .none), g, dr, tk, os⟩) BX T (X.keeps k) (ns_up hg k) hgs (ns_up hb k) hbs (hlim.keeps k) hget hnx ?_ fun h' tk' dx t1 ⟨k', hx, dn, dne, hns⟩ => ?_
  · show A.depth + 1 < recursionLimit
    exact hroom
  · have old : ∀ b o, hp.get? b = some o → h'.get? b = some o := fun b o e => k' b o (Nat.ne_of_lt (Nat.lt_succ_of_lt (Heap.lt_size e))) (k b o e)
    have z : hp.objs.size + 1 + 1 ≤ dx := by
      first
        | (simpa only [Heap.size_push] using dn)
        | exact dn
        | (have q := dn; rw [Heap.size_push, Heap.size_push] at q; exact q)
    exact ⟨rfl, hq h' tk' (hp.objs.size + 1) dx ⟨old, Nat.le_succ _, ⟨_, _, hx, rfl, rfl, rfl, rfl⟩, Nat.le_trans (Nat.le_trans (Nat.le_succ _) (Nat.le_succ _)) z, dne, hns⟩⟩
end
end MiX
end PySem
namespace L2
open PySem PySem.Spec PyProof.Rows
theorem relO_one {f : Str} {v : V} {v' : Value} (r : RelV v v') (g : Str) : RelO (List.lookup g [(f, v)]) (if g = f then some v' else none) := by
  by_cases hw : g = f
  · subst hw
    rw [if_pos rfl]
    have q : List.lookup g [(g, v)] = some v := by simp [List.lookup]
    rw [q]
    exact r
  · rw [if_neg hw]
    have qw : (g == f) = false := by simpa using hw
    have q2 : List.lookup g [(f, v)] = none := by simp [List.lookup, qw]
    rw [q2]
    trivial
section
variable {X : Cx} {C fI : Addr} {x f : Str} {B newId i : String} {bmB : List Value}
/-- x(e) -/
def tMkF (C : Addr) (f : Str) (ta : TA) : St → Hp → XK → Prop := fun σ H Q => ta σ H fun vs H1 => ∃ v, vs = [v] ∧ ∀ d, H1 d = none → Q (.ref C) (some d) (upd H1 d (.xd [(f, v)]))
theorem pmk_fld {a : Expr} {ta : TA} {p pos : Pos} {k : Nat} (BX : PySem.MiX.BaseX B newId i bmB) (T : PySem.MiX.KtTxt X.prog X.K x f C fI B newId i bmB) (gC : X.mg x = some (.ref C)) (gs : X.mg "super" = none) (hr : Room k X.A) (ha : PA X [a] ta) (hg : Gl X x)
    (hdb : (x == ("__debug__" : Str)) = false)
    (he : starEach (a :: []) X.env = (false, eval a X.env) :: starEach [] X.env := by rfl) (hpl : (backTo pos (starEach [] X.env)).any (·.1) = false := by rfl) :
    PMk X (.Call (.Name x p) [a] [] pos) (tMkF C f ta) := by
  intro pins s σ H Q I h
  refine wpAny_Call_Name_kw (ld_glob I hg gC ?_ hdb)
  refine PySem.W.callWith_K (h₀ := X.base) I.ok.mod.kin T.kC (thn (ha.run pos pins s σ H _ I h) fun us s1 hh => ?_) he hpl
  obtain ⟨vs, H1, I1, r1, v, ev, q1⟩ := hh
  subst ev
  refine ⟨I1.kIn, ?_⟩
  cases r1 with
  | cons rv rn =>
    rename_i v' us'
    cases rn
    show wpAny _ _ (call (.ref C) [v']) _ _ _
    have hlim := I1.nolimit
    obtain ⟨mb, h1, h2⟩ := I1.mod.blt
    have hgl : s1.heap.Ns mainGlobals X.mg := I1.mod.glob.keeps I1.bk
    have hbl : s1.heap.Ns builtinsNs mb := h1.keeps I1.bk
    have hbs : mb "super" = some (.type "super") := (h2 "super" (by decide)).trans (by first | rfl | kernel_rfl)
    obtain ⟨hp, g, dr, tk, os⟩ := s1
    refine wpAny_call (PySem.MiX.kt_made BX T I1.kIn hgl gs hbl hbs hlim (by have := hr.dp; omega) fun h' tk' e d M => ?_)
    show MkP X pins σ Q (.ref e) ⟨h', g, dr, tk', os⟩
    obtain ⟨oe, fv, hoe, hc, hd, hdat, h1⟩ := M.obj
    have hns := M.ns
    obtain ⟨G', g1, g2⟩ := restrict h' fun b => decide (b ≠ e)
    have gk : ∀ b, b ≠ e → G'.get? b = h'.get? b := fun b hb => g1 b (decide_eq_true hb)
    have ge : G'.get? e = none := g2 e (by simp)
    have old : ∀ b o, hp.get? b = some o → G'.get? b = some o := fun b o q => (gk b (Nat.ne_of_lt (Nat.lt_of_lt_of_le (Heap.lt_size q) M.new))).trans (M.keep b o q)
    have ob : ObjOk X.prog X.w (upd H1 d (.xd [(f, v)])) G' d (.xd [(f, v)]) :=
      ⟨_, hns.at (fun o q => (gk d M.dne).trans q), fun g => relO_one rv g⟩
    have J : Inv X pins σ (upd H1 d (.xd [(f, v)])) ⟨G', g, dr, tk', os⟩ := I1.laid (t' := tk') old M.dbig ob
    refine ⟨e, oe, fv, ⟨G', g, dr, tk', os⟩, _, .ref C, some d, rfl, J, fun b o q => ?_, ge, hoe, ⟨hc, hd⟩, hdat, h1, ?_, rfl, I1.bare, raises_own T.exC T.tyC, q1 d (I1.hok.fresh M.dbig)⟩
    · by_cases hb : b = e
      · have q' : G'.get? b = some o := q
        rw [hb, ge] at q'; cases q'
      · exact (gk b hb).symm.trans q
    · rw [upd_ne (Ne.symm M.dne)]
      exact I1.hok.fresh M.new
end
end L2

set_option maxHeartbeats 1000000
/-! ## Mi30: several except clauses, some of them with a name -/
namespace L2
open PySem PySem.Spec PyProof.Rows
inductive Cl where
  | pl (c : Value) (ts : Addr → Value → Option Addr → TS)
  | nm (c : Value) (i : Nat) (ts : Addr → Value → Option Addr → TS)
/-- behind a suite its name goes -/
def goneE (i : Nat) (D : Ends) : Ends := { nx := fun σ' H' => D.nx (σ'.set i none) H', rt := D.rt, bk := fun σ' H' => D.bk (σ'.set i none) H', ct := fun σ' H' => D.ct (σ'.set i none) H' }
def wManyA (K : PySem.W.Frag) (Wout : WX) (D : Ends) : List Cl → WX
  | [] => Wout
  | .pl c ts :: r => fun cls d σ H => ∃ b, PySem.W.exmOne K cls c = some b ∧ (b = true → ∀ a, H a = none → ts a cls d D σ H) ∧ (b = false → wManyA K Wout D r cls d σ H)
  | .nm c i ts :: r => fun cls d σ H => ∃ b, PySem.W.exmOne K cls c = some b ∧ (b = true → ∀ a, H a = none → ts a cls d (goneE i D) (σ.set i (some (.ref a))) H) ∧ (b = false → wManyA K Wout D r cls d σ H)
def SuOk (X : Cx) (suite : List Stmt) (ts : Addr → Value → Option Addr → TS) : Prop :=
  ∀ (a : Addr) (oe : Obj) (cls : Value) (d : Option Addr) (pn : List (Addr × Obj)), Zc cls d oe → (∃ vs, oe.data = .fields vs) → PSs (X.suite a ((a, oe) :: pn)) suite (ts a cls d)
inductive HdsA (X : Cx) : List ExceptHandler → List Cl → Prop
  | nil : HdsA X [] []
  | pl {x : Str} {c : Value} {ts : Addr → Value → Option Addr → TS} {b₀ : Stmt} {suite : List Stmt} {np pos' : Pos} {hds : List ExceptHandler} {l : List Cl} (hc : Names X x c)
      (hsu : SuOk X (b₀ :: suite) ts) (r : HdsA X hds l) : HdsA X (.ExceptHandler (some (.Name x np)) none (b₀ :: suite) pos' :: hds) (.pl c ts :: l)
  | nm {x n : Str} {i : Nat} {c : Value} {ts : Addr → Value → Option Addr → TS} {b₀ : Stmt} {suite : List Stmt} {np pos' : Pos} {hds : List ExceptHandler} {l : List Cl} (hc : Names X x c) (hi : X.N[i]? = some n) (hln : X.env.kindOf n = some .local)
      (hsu : SuOk X (b₀ :: suite) ts) (r : HdsA X hds l) : HdsA X (.ExceptHandler (some (.Name x np)) (some n) (b₀ :: suite) pos' :: hds) (.nm c i ts :: l)
section
variable {X : Cx} {body : List Stmt} {h₀ : ExceptHandler} {hds : List ExceptHandler} {l : List Cl} {pos : Pos} {tb : WX → TS} {Wout : WX}
theorem ps_try_A (hs : X.stack = X.env :: X.outer) (hf : X.env.frame = some X.env.locals) (hN : X.N.Nodup) (tk : Takes X Wout)
    (hb : ∀ (W : WX) (pn : List (Addr × Obj)) (xe : Value → Shared → Prop), Takes (X.tr pn xe) W → PassesOwn (model X.prog X.w) X.A X.env xe → PSs (X.tr pn xe) body (tb W))
    (hh : HdsA X (h₀ :: hds) l) : PS X (.Try body (h₀ :: hds) [] [] pos) (fun D σ H => tb (wManyA X.K Wout D l) D σ H) := by
  refine ⟨fun pins s σ H D I h => ?_⟩
  have ok := I.ok
  have hfr : X.A.frames = some (X.env :: X.outer) := by rw [ok.frames, hs]
  refine wpAny_Try_except ?_
  refine wpAny_mono ((hb (wManyA X.K Wout D l) (X.pn ++ pins) (fun e s₁ => wpAny (model X.prog X.w) X.A (noteFrame e X.env) (fun _ s₂ => wpAny (model X.prog X.w) X.A (setFlight e none) (fun _ s₃ =>
    wpAny (model X.prog X.w) X.A (handleBy e X.env (h₀ :: hds)) (SP X pins D) X.xe s₃) X.xe s₂) X.xe s₁) (fun u s' xx => ?_) PassesOwn.looking).run [] s σ H D (I.toTry _) h) (fun f s1 hsp => ?_) (fun e s1 he => he)
  · -- the catch
    obtain ⟨a, B, sI, pins', σ', H', cls, d, rfl, J', nb, up, sky, na, os, ag, w⟩ := xx
    have J : Inv X pins σ' H' sI := J'.ofTry ok
    have sky' : Sky B (X.env :: X.outer) a (Zc cls d) X.env.locals s'.heap := by rw [← hs]; exact sky
    show wpAny (model X.prog X.w) X.A (noteFrame (.ref a) X.env) _ _ _
    refine Sky.land Zc.steady hfr hf sky' fun h3 fl3 up3 => ?_
    have J3 : Inv X pins σ' H' { s' with heap := h3 } := J.landed nb fl3.1 (up.trans up3) os ag
    obtain ⟨oe3, vs3, he3, hz3, hd3⟩ := fl3.there
    have notFr : ∀ {h : Heap} {o : Obj} {vs : Array Value}, h.FunFrames B (X.env :: X.outer) → h.get? a = some o → o.data = .fields vs → a ∉ frs (X.env :: X.outer) := fun {h o vs} ff e dd hm => by
      obtain ⟨_, o', e', hnf⟩ := ff.mem hm
      rw [e] at e'; cases e'
      exact hnf _ dd
    have nfr := notFr fl3.2.2.1 he3 hd3
    have nL : a ≠ X.env.locals := fun z => nfr (List.mem_filterMap.mpr ⟨X.env, List.mem_cons_self, by rw [hf, z]⟩)
    have nF : a ∉ X.fs := fun hm => by
      obtain ⟨e, he, q⟩ := List.mem_filterMap.mp hm
      exact nfr (List.mem_filterMap.mpr ⟨e, List.mem_cons_of_mem _ he, q⟩)
    have S3 := J3.suite he3 hd3 na nL nF
    have LT : PySem.W.Looks (model X.prog X.w) h3 (typeOf (.ref a)) cls := fun A Q E s k q => wpAny_typeOf_ref (k _ _ he3) (by rw [hz3.1]; exact q)
    have test : ∀ {x : Str} {c : Value} {np : Pos} {Q : Value → Shared → Prop} {E : Value → Shared → Prop}, Names X x c → Q c { s' with heap := h3 } → wpAny (model X.prog X.w) (X.A.mark (some (.ref a))) (eval (.Name x np) X.env) Q E { s' with heap := h3 } := fun {x c np Q E} hc q => by
      obtain ⟨hg, hdbg, hm | ⟨hm, hv, hnn⟩⟩ := hc
      · exact ld_glob (X := X.suite a ((a, oe3) :: (X.pn ++ pins))) S3 hg hm q hdbg
      · exact ld_blt (X := X.suite a ((a, oe3) :: (X.pn ++ pins))) S3 hg hm hv q hnn hdbg
    have go : ∀ {hds' : List ExceptHandler} {l' : List Cl}, HdsA X hds' l' → wManyA X.K Wout D l' cls d σ' H' →
        wpAny (model X.prog X.w) X.A (handleBy (.ref a) X.env hds') (SP X pins D) X.xe { s' with heap := h3 } := by
      intro hds' l' hk
      induction hk with
      | nil =>
        intro w
        refine wpAny_handleBy_nil ?_
        obtain ⟨k1, k2, k3, oe, vs, T, oT, ts', he, hz, hd, h1, hr⟩ := id fl3
        unfold PySem.passOn
        refine wpAny_bind (wpAny_field he hd h1 ?_)
        rw [if_neg (show ¬ ((Value.ref T == Value.none) = true) from by simp)]
        have fin : wpAny (model X.prog X.w) X.A (setFlight (.ref a) X.env.frame) (fun _ s4 => wpAny (model X.prog X.w) X.A (throw (.ref a) : Sem Flow) (SP X pins D) X.xe s4) X.xe { s' with heap := h3 } := by
          rw [hf]
          refine HandSPX.setFlight_upZ fl3 fun h4 hh4 up4 => wpAny_throw (tk _ _ ?_)
          exact ⟨a, B, sI, pins, σ', H', cls, d, rfl, J, nb, (up.trans up3).trans up4, .inr (.inr (by rw [hs]; exact hh4)), na, os, ag, w⟩
        first
          | exact wpAny_bind (wpAny_pure (wpAny_bind fin))
          | exact wpAny_bind fin
      | @pl x c ts b₀ suite np pos' hds2 l2 hc hsu r ih =>
        intro w
        obtain ⟨b, hb1, hyes, hno⟩ := w
        refine wpAny_handleBy_cons (codeAny_handlers_test ?_) (by intro q; cases q)
        have LM := PySem.W.exm_one (M := model X.prog X.w) (J3.kIn) LT hb1
        refine test hc (LM.here ?_)
        cases b with
        | true =>
          refine codeAny_handlers_suite ?_
          refine HandSPX.lands_againZ fl3 fun h4 fl4 up4 => ?_
          have J4 : Inv X pins σ' H' { s' with heap := h4 } := J.landed nb fl4.1 ((up.trans up3).trans up4) os ag
          obtain ⟨oe4, vs4, he4, hz4, hd4⟩ := fl4.there
          have S4 := J4.suite he4 hd4 na nL nF
          refine wpAny_mono ((hsu a oe4 cls d (X.pn ++ pins) hz4 ⟨_, hd4⟩).run [] _ _ H' _ S4 (hyes rfl a na)) (fun f s6 hsp => ?_) (fun _ _ z => False.elim z)
          cases f with
          | next =>
            obtain ⟨σ6, H6, S6, q6⟩ := hsp
            exact ⟨_, _, S6.unsuite ok, q6⟩
          | brk =>
            obtain ⟨σ6, H6, S6, q6⟩ := hsp
            exact ⟨_, _, S6.unsuite ok, q6⟩
          | cont =>
            obtain ⟨σ6, H6, S6, q6⟩ := hsp
            exact ⟨_, _, S6.unsuite ok, q6⟩
          | ret u =>
            obtain ⟨v6, σ6, H6, S6, r6, q6⟩ := hsp
            exact ⟨_, _, _, S6.unsuite ok, r6, q6⟩
        | false =>
          show wpAny _ X.A (handleBy (.ref a) X.env hds2) _ _ _
          exact ih (hno rfl)
      | @nm x n i c ts b₀ suite np pos' hds2 l2 hc hi hln hsu r ih =>
        intro w
        obtain ⟨b, hb1, hyes, hno⟩ := w
        have hloc : Loc X.env.scope n := .inl hln
        refine wpAny_handleBy_cons (codeAny_handlers_test ?_) (by intro q; cases q)
        have LM := PySem.W.exm_one (M := model X.prog X.w) (J3.kIn) LT hb1
        refine test hc (LM.here ?_)
        cases b with
        | true =>
          refine codeAny_handlers_suite_as ?_
          refine HandSPX.lands_againZ fl3 fun h4 fl4 up4 => ?_
          have J4 : Inv X pins σ' H' { s' with heap := h4 } := J.landed nb fl4.1 ((up.trans up3).trans up4) os ag
          obtain ⟨oe4, vs4, he4, hz4, hd4⟩ := fl4.there
          have S4 := J4.suite he4 hd4 na nL nF
          refine store_ok (X := X.suite a ((a, oe4) :: (X.pn ++ pins))) (v := .ref a) S4 hN hi hloc rfl (fun s5 S5 => ?_) (.inr hln)
          refine wpAny_mono ((hsu a oe4 cls d (X.pn ++ pins) hz4 ⟨_, hd4⟩).run [] s5 _ H' _ S5 (hyes rfl a na)) (fun f s6 hsp => ?_) (fun _ _ z => False.elim z)
          have end_ : ∀ {σ6 : St} {H6 : Hp} {Q : Shared → Prop}, Inv (X.suite a ((a, oe4) :: (X.pn ++ pins))) [] σ6 H6 s6 → (∀ s7, Inv X pins (σ6.set i none) H6 s7 → Q s7) →
              wpAny (model X.prog X.w) X.A (do bindName X.env n .none; unbindBehindTheSuite X.env n pos') (fun _ s7 => Q s7) X.xe s6 := fun {σ6 H6 Q} S6 hq => gone_ok (S6.unsuite ok) hN hi hln hq
          cases f with
          | next =>
            obtain ⟨σ6, H6, S6, q6⟩ := hsp
            exact end_ S6 fun s7 J7 => ⟨_, _, J7, q6⟩
          | brk =>
            obtain ⟨σ6, H6, S6, q6⟩ := hsp
            exact end_ S6 fun s7 J7 => ⟨_, _, J7, q6⟩
          | cont =>
            obtain ⟨σ6, H6, S6, q6⟩ := hsp
            exact end_ S6 fun s7 J7 => ⟨_, _, J7, q6⟩
          | ret u =>
            obtain ⟨v6, σ6, H6, S6, r6, q6⟩ := hsp
            exact end_ S6 fun s7 J7 => ⟨_, _, _, J7, r6, q6⟩
        | false =>
          show wpAny _ X.A (handleBy (.ref a) X.env hds2) _ _ _
          exact ih (hno rfl)
    exact go hh w
  · cases f with
    | next =>
      obtain ⟨σ', H', J', q⟩ := hsp
      exact wpAny_execs_nil ⟨σ', H', J'.ofTry ok, q⟩
    | brk =>
      obtain ⟨σ', H', J', q⟩ := hsp
      exact ⟨σ', H', J'.ofTry ok, q⟩
    | cont =>
      obtain ⟨σ', H', J', q⟩ := hsp
      exact ⟨σ', H', J'.ofTry ok, q⟩
    | ret u =>
      obtain ⟨v, σ', H', J', r, q⟩ := hsp
      exact ⟨v, σ', H', J'.ofTry ok, r, q⟩
end
end L2

set_option maxHeartbeats 1000000
/-! ## Mi31: the head's facts of an error class that keeps a field -/
namespace PySem
namespace MiX
open PySem.W PySem.Calls PyProof.Rows
structure KtD where
  x : Str
  f : Str
  B : String
  newId : String
  i : String
  bmB : List Value
def kAB (f : Str) (a : Arguments) : Bool := match a with
  | ⟨[], [⟨s, none, _⟩, ⟨g, none, _⟩], none, [], [], none, []⟩ => s == ("self" : Str) && g == f
  | _ => false
def kBB (f : Str) (b : FuncBody) : Bool := match b with
  | .stmts [.Expr (.Call (.Attribute (.Call (.Name s1 _) [] [] _) m1 p2) [.Constant (.str _) _ _] [] p4) _, .Assign [.Attribute (.Name s2 _) g _] (.Name g' _) _] =>
    s1 == ("super" : Str) && (m1 == ("__init__" : Str) && (s2 == ("self" : Str) && (g == f && (g' == f && p2.endLine == p4.line))))
  | _ => false
def kSB (f : Str) (sc : Scope) : Bool := decide (sc.kind = .function) && (!sc.isCoroutine && (!sc.isGenerator && (sc.names.all (fun x => !decide (x.2 = .cell)) && (decide (sc.names.lookup ("super" : Str) = some .globalImplicit) &&
  (decide (sc.names.lookup ("__class__" : Str) = some .free) && (decide (sc.names.lookup ("self" : Str) = some .local) && (decide (sc.names.lookup f = some .local) && (!(f == ("__debug__" : Str)) && !decide (f = "self")))))))))
def kFB (fl : Str) (K : Frag) (C : Addr) (f : Str) (fd : FuncData) : Bool := match fd with
  | ⟨nm, qn, ps, bd, sc, gl, clo, df, kd, _, _, _, cv, _, bl⟩ => (match clo, df, kd, cv with
    | [(cn, cc)], .none, .none, .ref cda => decide (nm = "__init__") && (kAB f ps && (kBB f bd && (kSB f sc && (decide (gl = mainGlobals) && (decide (bl = builtinsNs) && (decide (cn = "__class__") && (codeIn K (.ref cda) qn &&
        ((match K.lookup cda with
          | some ⟨_, _, .fields vs, _⟩ => (match ((vs : Array Value)[2]? : Option Value) with
            | some (.str file _) => decide (file = fl)
            | _ => false)
          | _ => false) && (match K.lookup cc with
          | some ⟨_, _, .cell (some (.ref D)), _⟩ => decide (D = C)
          | _ => false)))))))))
    | _, _, _, _ => false)
theorem ba {a b : Bool} (h : (a && b) = true) : a = true ∧ b = true := Bool.and_eq_true_iff.mp h
theorem kAB_ok {f : Str} {a : Arguments} (h : kAB f a = true) : ∃ p1 p2, a = kA f p1 p2 := by
  unfold kAB at h
  split at h
  · rename_i s p1 g p2
    obtain ⟨h1, h2⟩ := ba h
    have e1 := eq_of_beq h1
    have e2 := eq_of_beq h2
    subst e1 e2
    exact ⟨p1, p2, rfl⟩
  · cases h
theorem kBB_ok {f : Str} {b : FuncBody} (h : kBB f b = true) : ∃ msg k p0 p1 p2 p3 p4 p5 q1 q2 q3 q4, b = .stmts (kB msg f k p0 p1 p2 p3 p4 p5 q1 q2 q3 q4) ∧ (p2.endLine == p4.line) = true := by
  unfold kBB at h
  split at h
  · obtain ⟨h1, k1⟩ := ba h
    obtain ⟨h2, k2⟩ := ba k1
    obtain ⟨h3, k3⟩ := ba k2
    obtain ⟨h4, k4⟩ := ba k3
    obtain ⟨h5, k5⟩ := ba k4
    clear h k1 k2 k3 k4
    have e1 := eq_of_beq h1
    have e2 := eq_of_beq h2
    have e3 := eq_of_beq h3
    have e4 := eq_of_beq h4
    have e5 := eq_of_beq h5
    subst e1 e2 e3 e4 e5
    exact ⟨_, _, _, _, _, _, _, _, _, _, _, _, rfl, k5⟩
  · cases h
theorem kSB_ok {f : Str} {sc : Scope} (h : kSB f sc = true) : KScope sc f := by
  unfold kSB at h
  obtain ⟨h1, h⟩ := ba h
  obtain ⟨h2, h⟩ := ba h
  obtain ⟨h3, h⟩ := ba h
  obtain ⟨h4, h⟩ := ba h
  obtain ⟨h5, h⟩ := ba h
  obtain ⟨h6, h⟩ := ba h
  obtain ⟨h7, h⟩ := ba h
  obtain ⟨h8, h⟩ := ba h
  obtain ⟨h9, h10⟩ := ba h
  exact ⟨of_decide_eq_true h1, by simpa using h2, by simpa using h3, fun x hx => by have := List.all_eq_true.mp h4 x hx; simpa using this, of_decide_eq_true h5, of_decide_eq_true h6, of_decide_eq_true h7, of_decide_eq_true h8, by simpa using h9, by simpa using h10⟩
def eqO (a b : Option (Option Value)) : Bool := decide (a = b)
def ktB (fl : Str) (K : Frag) (d : KtD) : Bool :=
  let C := He.ga K d.x
  let fI := He.ma K C "__init__"
  excInitIn K C d.bmB d.newId && (excOver K C d.bmB && (eqO (takerIn K C d.f) (some none) && (eqO (findIn K (.ref C) "__setattr__") (some (some (.builtin "object.__setattr__"))) && (hasDictIn K C &&
  (eqO (findIn K (.ref C) "__init__") (some (some (.ref fI))) && (isFn K (.ref fI) && (keepIn K (.ref C) && (decide (subIn K (.ref C) (.type "BaseException") = some true) && (decide (typeIn K (.ref C) = some (.type "type")) &&
  (decide (subIn K (.ref C) (.type d.B) = some true) && (decide (mroIn K C (.ref C) = some true) && (eqO (nsIn K cStatics "thirdparty.any") (some none) && (eqO (ks_superIn K C C "__init__") (some (some (.builtin d.i))) &&
  ((match K.lookup fI with
    | some ⟨_, _, .func fd, _⟩ => kFB fl K C d.f fd
    | _ => false) && (L2.xfB K C && (eqO (findIn K (.ref C) d.f) (some none) && (eqO (nsIn K mainGlobals d.x) (some (some (.ref C))) && eqO (nsIn K mainGlobals "super") (some none))))))))))))))))))
theorem ktB_ok {prog : Program} {fl : Str} {K : Frag} {d : KtD} (hfl : ((prog.main.file : Str) == fl) = true) (hno : (prog.main.scope.names.lookup ("super" : Str)).isSome = false) (h : ktB fl K d = true) :
    KtTxt prog K d.x d.f (He.ga K d.x) (He.ma K (He.ga K d.x) "__init__") d.B d.newId d.i d.bmB ∧ L2.XfC K (He.ga K d.x) ∧ findIn K (.ref (He.ga K d.x)) d.f = some none ∧ nsIn K mainGlobals d.x = some (some (.ref (He.ga K d.x))) ∧ nsIn K mainGlobals "super" = some none := by
  unfold ktB at h
  dsimp only at h
  obtain ⟨h1, h⟩ := ba h
  obtain ⟨h2, h⟩ := ba h
  obtain ⟨h3, h⟩ := ba h
  obtain ⟨h4, h⟩ := ba h
  obtain ⟨h5, h⟩ := ba h
  obtain ⟨h6, h⟩ := ba h
  obtain ⟨h7, h⟩ := ba h
  obtain ⟨h8, h⟩ := ba h
  obtain ⟨h9, h⟩ := ba h
  obtain ⟨h10, h⟩ := ba h
  obtain ⟨h11, h⟩ := ba h
  obtain ⟨h12, h⟩ := ba h
  obtain ⟨h13, h⟩ := ba h
  obtain ⟨h14, h⟩ := ba h
  obtain ⟨h15, h⟩ := ba h
  obtain ⟨h16, h⟩ := ba h
  obtain ⟨h17, h⟩ := ba h
  obtain ⟨h18, h19⟩ := ba h
  refine ⟨⟨h1, h2, of_decide_eq_true h3, of_decide_eq_true h4, h5, of_decide_eq_true h6, h7, h8, of_decide_eq_true h9, of_decide_eq_true h10, of_decide_eq_true h11, of_decide_eq_true h12, of_decide_eq_true h13, of_decide_eq_true h14, hno, ?_⟩,
    L2.xfB_ok h16, of_decide_eq_true h17, of_decide_eq_true h18, of_decide_eq_true h19⟩
  cases q : K.lookup (He.ma K (He.ga K d.x) "__init__") with
  | none => rw [q] at h15; cases h15
  | some o =>
    obtain ⟨oc, od, dt, osl⟩ := o
    rw [q] at h15
    cases dt with
    | func fd =>
      obtain ⟨n1, n2, n3, n4, n5, n6, n7, n8, n9, n10, n11, n12, n13, n14, n15⟩ := fd
      have c := h15
      unfold kFB at c
      dsimp only at c
      split at c
      · rename_i cn cc cda
        obtain ⟨g1, c⟩ := ba c
        obtain ⟨g2, c⟩ := ba c
        obtain ⟨g3, c⟩ := ba c
        obtain ⟨g4, c⟩ := ba c
        obtain ⟨g5, c⟩ := ba c
        obtain ⟨g6, c⟩ := ba c
        obtain ⟨g7, c⟩ := ba c
        obtain ⟨g8, c⟩ := ba c
        obtain ⟨g9, g10⟩ := ba c
        have e1 := of_decide_eq_true g1
        obtain ⟨p1, p2, e2⟩ := kAB_ok g2
        obtain ⟨msg, k, p0, p3, p4, p5, p6, p7, q1, q2, q3, q4, e3, e4⟩ := kBB_ok g3
        have S := kSB_ok g4
        have e5 := of_decide_eq_true g5
        have e6 := of_decide_eq_true g6
        have e7 := of_decide_eq_true g7
        subst e1 e2 e3 e5 e6 e7
        refine ⟨oc, od, n10, n11, n14, n12, osl, n5, cc, cda, msg, n2, k, p1, p2, p0, p3, p4, p5, p6, p7, q1, q2, q3, q4, rfl, g8, S, e4, ?_, ?_⟩
        · split at g9
          · rename_i a1 a2 vs a3 e8
            split at g9
            · rename_i file tf e9
              have := of_decide_eq_true g9
              subst this
              exact ⟨_, _, vs, _, file, tf, e8, e9, hfl⟩
            · cases g9
          · cases g9
        · split at g10
          · rename_i a1 a2 D a3 e8
            have := of_decide_eq_true g10
            subst this
            exact ⟨_, _, _, e8⟩
          · cases g10
      · cases c
    | _ => cases h15
end MiX
end PySem

set_option maxHeartbeats 1000000
/-! zip of a range and a list, at the kit's level -/
namespace PySem.MiZ
open PySem PySem.Spec PyProof.Rows L2
open PySem.Sem (wp)
section
variable {prog : Program} {w : World} {A : Around} {E : Value → Shared → Prop} {s : Shared}
theorem nextOf_range_item {it : Addr} {x left : Int} {Q : Value → Shared → Prop} (hit : IsRangeIter s.heap it x left 1) (hleft : 0 < left)
    (hQ : ∀ h', IsRangeIter h' it (x + 1) (left - 1) 1 → Heap.SameBut it s.heap h' → Q (.int x s.toks) { s with heap := h', toks := s.toks + 1 }) :
    wpAny (model prog w) A (Builtin.SmallTypes.nextOf (.ref it)) Q E s := by
  have hT : s.TypeIs (.ref it) "range_iterator" := ⟨_, hit, rfl⟩
  unfold Builtin.SmallTypes.nextOf
  refine wpAny_bind (wpAny_callSpecial?_slot (name := Str.ofString "__next__") hT F.slot_range_iterator_next
    (call_meets F.slot_range_iterator_next hT F.entry_range_iterator_next (F.args_range_iterator_next_1 _) (AutoRange.range_iterator___next___range_iterator_1 it x left 1 (by omega)) ⟨hit, ?_⟩))
  exact wpAny_pure (hQ _ (Heap.get?_update_self _ (Heap.get?_update_self _ hit rfl) rfl) ((Heap.SameBut.update ..).trans (Heap.SameBut.update ..)))
theorem nextOf_range_end {it : Addr} {x left : Int} {Q : Value → Shared → Prop} (hh : A.handled = none) (hit : IsRangeIter s.heap it x left 1) (hleft : left ≤ 0)
    (hE : ∀ h' e, Heap.ExtBut it s.heap h' → (∃ o, h'.get? e = some o ∧ o.cls = .type "StopIteration") → E (.ref e) { s with heap := h' }) :
    wpAny (model prog w) A (Builtin.SmallTypes.nextOf (.ref it)) Q E s := by
  have hT : s.TypeIs (.ref it) "range_iterator" := ⟨_, hit, rfl⟩
  unfold Builtin.SmallTypes.nextOf
  refine wpAny_bind (wpAny_callSpecial?_slot (name := Str.ofString "__next__") hT F.slot_range_iterator_next
    (wpAny_call_entry F.slot_range_iterator_next hT F.entry_range_iterator_next ?_ (F.args_range_iterator_next_1 _)))
  show wpAny _ _ (field (.ref it) 0 >>= _) _ _ s
  refine wpAny_bind (wpAny_field hit rfl (x := rawInt x) rfl ?_)
  show wpAny _ _ (field (.ref it) 1 >>= _) _ _ s
  refine wpAny_bind (wpAny_field hit rfl (x := rawInt left) rfl ?_)
  show wpAny _ _ (field (.ref it) 2 >>= _) _ _ s
  refine wpAny_bind (wpAny_field hit rfl (x := rawInt 1) rfl ?_)
  show wpAny _ _ (if left ≤ 0 then _ else _) _ _ s
  rw [if_pos hleft]
  refine wpAny_bind (wpAny_rule ?_)
  refine wpAny_bind ?_
  show wpAny _ _ (newExc (.type "StopIteration") [] >>= _) _ _ _
  refine wpAny_bind ?_
  simp only [newExc, newTuple]
  refine wpAny_bind (wpAny_newObj_type ?_ (by size_fits))
  refine wpAny_bind (m := firstArgMember _ _) (wpAny_of_eq (a := Value.none) (by first | rfl | (simp only [firstArgMember]; rfl)) ?_)
  refine wpAny_newObj_type ?_ (by size_fits)
  simp only [raiseNew]
  refine wpAny_bind (wpAny_handled ?_)
  first | rw [show A.in1.handled = none from hh] | rw [hh]
  refine wpAny_bind (wpAny_pure (wpAny_throw ?_))
  exact hE _ _ (((Heap.ExtBut.refl it s.heap).push _).push _) ⟨_, Heap.get?_push_size _ rfl, rfl⟩
end
theorem draws_range {prog : Program} {w : World} {A : Around} (hh : A.handled = none) (it : Addr) (lo : Int) (n : Nat) :
    Draws prog w A it [it] n (fun i v => ∃ t, v = .int (lo + (i : Nat)) t) (fun i h => IsRangeIter h it (lo + (i : Nat)) ((n : Int) - (i : Nat)) 1) where
  live := fun _ _ st => ⟨_, st⟩
  frame := fun _ _ _ st hk => hk it (by simp) _ st
  item := fun i s Q E hi st hQ => by
    refine nextOf_range_item st (by omega) fun h' hit' hs' => ?_
    refine hQ _ h' (s.toks + 1) ⟨_, rfl⟩ ?_ hs'
    have e1 : lo + ((i + 1 : Nat) : Int) = lo + (i : Nat) + 1 := by omega
    have e2 : (n : Int) - ((i + 1 : Nat) : Int) = (n : Int) - (i : Nat) - 1 := by omega
    rw [e1, e2]; exact hit'
  done := fun s Q E st hE => nextOf_range_end hh st (by omega) hE
theorem begins_range (r : Addr) (n : Nat) (hn : (n : Int) < 2 ^ 62) : Begins (.ref r) { cls := .type "range_iterator", data := .fields #[rawInt 0, rawInt n, rawInt 1] } fun h => ∃ t u v, IsRange h r 0 n 1 t u v where
  iter := fun prog w A E s Q ht h => by
    obtain ⟨t, u, v, hr⟩ := ht
    refine wpAny_pyIter_range hr (small_one (by omega) (by omega) (by omega) hn) ?_
    have e : Builtin.Range.rangeSize 0 (n : Int) 1 = n := by rw [rangeSize_one]; split <;> omega
    rw [e]; exact h
  keeps := fun h h' x hk => by
    obtain ⟨t, u, v, hr⟩ := x
    exact ⟨t, u, v, hk r _ hr⟩
  free := rfl
/-- the numbers from nought on, with the list at b as it stands at each turn -/
def ItzR (K : PySem.W.Frag) (n : Nat) (b : Addr) : It :=
  ⟨fun i H => ∃ (ys : List V) (y : V), i < n ∧ SqL K H b ys ∧ ys[i]? = some y,
    fun i H v H' => ∃ T y, v = .ref T ∧ H T = none ∧ H' = upd H T (.tup [.int (i : Nat), y]) ∧ ∀ ys, SqL K H b ys → ys[i]? = some y,
    fun i H => ∃ ys : List V, SqL K H b ys ∧ (n ≤ i ∨ ys.length ≤ i) ∧ i ≤ n ∧ i ≤ ys.length⟩
theorem turn_zipR {P : Program} {w : World} {K : PySem.W.Frag} {elts : List Expr} {kk : Nat} {tpos : Pos} {n : Nat} {b z TI TO i1 i2 : Addr} (D : ZipSep2 z TI TO i1 i2 [i1] [i2, b]) (hb : b ≠ i2) :
    Turn P w K (.Tuple elts kk tpos) (ItzR K n b) [z, TI, TO, i1, i2] z (fun i h => IsZip h z TI TO .none ∧ IsTupOf2 h TI (.ref i1) (.ref i2) ∧ (∃ x y, IsTupOf2 h TO x y) ∧ IsRangeIter h i1 (0 + (i : Nat)) ((n : Int) - (i : Nat)) 1 ∧ h.IsListIter i2 b i) where
  mem := by simp
  obj := fun i h st c hc => by
    obtain ⟨hz, hTI, ⟨x, y, hTO⟩, h1, ⟨o2, e2, _, d2⟩⟩ := st
    have e' : c = z ∨ c = TI ∨ c = TO ∨ c = i1 ∨ c = i2 := by simpa using hc
    rcases e' with q | q | q | q | q
    · rw [q]; exact ⟨_, hz, fun v q => nomatch q⟩
    · rw [q]; exact ⟨_, hTI, fun v q => nomatch q⟩
    · rw [q]; exact ⟨_, hTO, fun v q => nomatch q⟩
    · rw [q]; exact ⟨_, h1, fun v q => nomatch q⟩
    · rw [q]; exact ⟨o2, e2, fun v q => by rw [d2] at q; cases q⟩
  keep := fun i h h' st k => by
    obtain ⟨hz, hTI, ⟨x, y, hTO⟩, h1, h2⟩ := st
    exact ⟨k z (by simp) _ hz, k TI (by simp) _ hTI, ⟨x, y, k TO (by simp) _ hTO⟩, k i1 (by simp) _ h1, h2.at fun o q => k i2 (by simp) o q⟩
  item := by
    intro X hP hw hK hc i pins s σ H E I hf st hg
    subst hP hw hK
    obtain ⟨hz, hTI, ⟨x0, y0, hTO⟩, h1, h2⟩ := st
    obtain ⟨ys, y, hin, hqy, hy⟩ := hg
    obtain ⟨its2, rv2, p2, _⟩ := I.list hqy
    obtain ⟨u2, hu2, ru2⟩ := rv2.get hy
    have hzl : z < s.heap.objs.size := Heap.lt_size hz
    have D1 := draws_range (prog := X.prog) (w := X.w) (A := X.A.in1) (I.ok.hd hc) i1 0 n
    have D2 := Draws.list (prog := X.prog) (w := X.w) (A := X.A.in1) (I.ok.hd hc) i2 b hb its2.toArray
    have hlt2 : i < its2.toArray.size := by
      have := (List.getElem?_eq_some_iff.mp hu2).1
      simpa using this
    refine wpAny_pyNext_zipD2_item D D1 D2 hz hTI hTO h1 ⟨h2, p2.isList⟩ hin hlt2 fun x1 x2 h' tk y1 y2 z' TO' h1' h2' hT hsz hk => ?_
    obtain ⟨t1, rfl⟩ := y1
    have ex2 : x2 = u2 := by
      have e1 : its2.toArray[i]? = some u2 := by simpa using hu2
      rw [e1] at y2; cases y2; rfl
    subst ex2
    refine ⟨_, rfl, wpAny_letOwnedTupleGo_zip (s := { s with heap := h', toks := tk }) z' fun h'' z'' sb => ?_⟩
    have hT2 : h''.get? s.heap.objs.size = some { cls := .type "tuple", data := .seq #[.int (0 + (i : Nat)) t1, x2] } := (sb.2 _ (Nat.ne_of_gt hzl)).trans hT
    have new : ObjOk X.prog X.w (upd H s.heap.objs.size (.tup [.int (i : Nat), y])) h'' s.heap.objs.size (.tup [.int (i : Nat), y]) :=
      ⟨by show 2 ≤ sizeLine; decide, [.int (0 + (i : Nat)) t1, x2], .cons ⟨t1, by rw [Int.zero_add]⟩ (.cons ru2 .nil), ⟨_, hT2, rfl, _, rfl⟩⟩
    have I1 : Inv X pins σ (upd H s.heap.objs.size (.tup [.int (i : Nat), y])) { s with heap := h'', toks := tk } :=
      I.turnedNew (t' := tk) (ch := [z, TI, TO, i1, i2]) (fun c o hb q => (sb.2 c (fun q' => hb (by simp [q']))).trans (hk c o (fun q' => hb (by simp [q'])) (fun q' => hb (by simp [q'])) (fun q' => hb (by simp [q'])) (fun q' => hb (by simp [q'])) q)) hf (Nat.le_refl _) new
    refine ⟨.ref s.heap.objs.size, _, I1, rfl, ⟨_, y, rfl, I.hok.fresh (Nat.le_refl _), rfl, fun l hl => by rw [I.list_inj hl hqy]; exact hy⟩, ⟨z'', ?_, ⟨.int (0 + (i : Nat)) t1, x2, ?_⟩, ?_, ?_⟩, fun c hcm => ?_⟩
    · exact (sb.2 _ D.TIz).trans (hk _ _ D.TIz D.TITO D.TIi1 D.TIi2 hTI)
    · exact (sb.2 _ D.TOz).trans TO'
    · exact (sb.2 _ D.zi1.symm).trans h1'
    · exact h2'.1.at fun o q => (sb.2 _ D.zi2.symm).trans q
    · have hlt : c < s.heap.objs.size := by
        have e' : c = z ∨ c = TI ∨ c = TO ∨ c = i1 ∨ c = i2 := by simpa using hcm
        rcases e' with q | q | q | q | q
        · rw [q]; exact hzl
        · rw [q]; exact Heap.lt_size hTI
        · rw [q]; exact Heap.lt_size hTO
        · rw [q]; exact Heap.lt_size h1
        · rw [q]; obtain ⟨_, e2, _⟩ := h2; exact Heap.lt_size e2
      rw [upd_ne (Nat.ne_of_lt hlt)]
      exact (hf c hcm).1
  done := by
    intro X hP hw hK hc i pins s σ H E I hf st hg
    subst hP hw hK
    obtain ⟨hz, hTI, ⟨x0, y0, hTO⟩, h1, h2⟩ := st
    obtain ⟨ys, hqy, hend, le1, le2⟩ := hg
    obtain ⟨its2, rv2, p2, _⟩ := I.list hqy
    have l2 := rv2.length
    have D1 := draws_range (prog := X.prog) (w := X.w) (A := X.A.in1) (I.ok.hd hc) i1 0 n
    have D2 := Draws.list (prog := X.prog) (w := X.w) (A := X.A.in1) (I.ok.hd hc) i2 b hb its2.toArray
    have z2 : its2.toArray.size = ys.length := by simp; omega
    exact wpAny_pyNext_zipD2_end D D1 D2 hz hTI hTO h1 ⟨h2, p2.isList⟩ le1 (by omega) (by omega) fun h' tk hk => ⟨rfl, I.turnedL (t' := tk) (ch := [z, TI, TO, i1, i2]) (fun c o hb q =>
      hk c o (fun q' => hb (by simp [q'])) (fun q' => hb (by simp [q'])) (fun q' => hb (by simp [q'])) (fun q' => hb (by simp [q'])) q) hf⟩
  self := fun A i s Q E st h => wpAny_pyIter_zip st.1 h
theorem prg_F {X : Cx} {a : Expr} {ta : TE} {p pos : Pos} (hg : Gl X "range") (hm : X.mg "range" = none) (ha : PE X a ta) (na : starEach [a] X.env = (false, eval a X.env) :: starEach [] X.env)
    {pins : List (Addr × Obj)} {s : Shared} {σ : L2.St} {H : Hp} {Q : Int → Hp → Prop} (I : L2.Inv X pins σ H s) (h : ta σ H fun x H1 => ∃ n, x = .int n ∧ Q n H1) :
    wpAny (model X.prog X.w) X.A (eval (.Call (.Name "range" p) [a] [] pos) X.env) (fun x s' => ∃ r n t u v H', x = .ref r ∧ IsRange s'.heap r 0 n 1 t u v ∧ L2.Inv X pins σ H' s' ∧ FpOk X pins H' r ∧ Q n H') X.xe s := by
  refine Call_ (ld_blt I hg hm boot_range (PyProof.Rows.callWith_type1 (one_arg ha I h (fun v s2 x H2 I2 r q => ?_) na) na))
  obtain ⟨n, rfl, q⟩ := q
  obtain ⟨t, rfl⟩ := r
  exact call_range_1 ⟨_, n, _, _, _, H2, rfl, IsRange.new _ _ _ _ _ _ _, I2.kept fun b u e => Heap.get?_push_of_some _ e, I2.fpOk (Nat.le_refl _) (I2.hok.fresh (Nat.le_refl _)), q⟩
theorem sepR (S b : Nat) (h : b < S) : ZipSep2 (S + 4) (S + 2) (S + 3) S (S + 1) [S] [S + 1, b] := by
  have k : ∀ k : Nat, S + k ≠ b := fun k => by omega
  have k0 : S ≠ b := by omega
  constructor <;> first | (show (_ : Nat) ≠ _; omega) | (simp; done) | (simp; exact k _) | (simp; exact k0) | (simp; trace_state; done)
def tZipR (K : PySem.W.Frag) (ta tb : TE) : TI := fun σ H R => ta σ H fun x H1 => ∃ n : Int, x = .int n ∧ tb σ H1 fun y H2 => 0 ≤ n ∧ n < 2 ^ 62 ∧ ∃ b ys, y = .ref b ∧ SqL K H2 b ys ∧ R (ItzR K n.toNat b) H2
theorem pi_zipR {X : Cx} {a e2 : Expr} {ta tb : TE} {p p2 pos pos2 tpos : Pos} {elts : List Expr} {kk : Nat} (hg : Gl X "zip") (hm : X.mg "zip" = none) (hgr : Gl X "range") (hmr : X.mg "range" = none) (ha : PE X a ta) (hb : PE X e2 tb)
    (na : starEach [a] X.env = (false, eval a X.env) :: starEach [] X.env) (nb : starEach [e2] X.env = (false, eval e2 X.env) :: starEach [] X.env) (hpl : (backTo pos (starEach [e2] X.env)).any (·.1) = false) :
    PI X (.Tuple elts kk tpos) (.Call (.Name "zip" p) [.Call (.Name "range" p2) [a] [] pos2, e2] [] pos) (tZipR X.K ta tb) := by
  refine ⟨fun pins s σ H R I h => ?_⟩
  refine Call_ (ld_blt I hg hm PyProof.Rows.boot_zip (PyProof.Rows.callWith_type1 (args_cons (thn (prg_F hgr hmr ha na I h) fun x s1 ⟨r, n, t, u, v, H1, ex, hr, I1, fp, q⟩ => ?_) rfl) rfl hpl))
  have I1p : L2.Inv X (pins ++ pinsAt [r] s1.heap) σ H1 s1 := I1.pinned (fp := [r]) (fun c hc => by rw [List.mem_singleton.1 hc]; exact fp) fun c hc => by
    rw [List.mem_singleton.1 hc]
    exact ⟨_, hr, fun v q => nomatch q⟩
  refine one_arg hb I1p q (fun y s2 y' H2 I2 ry q2 => ?_) nb
  subst ex
  obtain ⟨n0, n1, b, ys, rfl, hq, q3⟩ := q2
  cases ry
  have hr2 : IsRange s2.heap r 0 n 1 t u v := (I2.pin (r, _) (List.mem_append_right _ (List.mem_append_right _ (mem_pinsAt (List.mem_singleton.2 rfl) hr)))).1
  have I2' := I2.unpinned
  obtain ⟨its2, rv, p2, _⟩ := I2'.list hq
  have hbl : b < s2.heap.objs.size := p2.lt
  obtain ⟨m, rfl⟩ := Int.eq_ofNat_of_zero_le n0
  have D := sepR s2.heap.objs.size b hbl
  refine zip_begins2 (begins_range r m n1) (begins_list b its2.toArray) ⟨t, u, v, hr2⟩ p2.isList fun h' hz hTI hTO g1 g2 hsz hk => wpAny_pyIter_zip hz ?_
  have I3 : Inv X pins σ H2 { s2 with heap := h' } := I2'.kept (t' := s2.toks) hk
  have g1' : IsRangeIter h' s2.heap.objs.size (0 + ((0 : Nat) : Int)) ((m : Int) - ((0 : Nat) : Int)) 1 := by
    have e1 : (0 : Int) + ((0 : Nat) : Int) = 0 := rfl
    have e2 : (m : Int) - ((0 : Nat) : Int) = m := by omega
    rw [e1, e2]; exact g1
  refine ⟨s2.heap.objs.size + 4, [s2.heap.objs.size + 4, s2.heap.objs.size + 2, s2.heap.objs.size + 3, s2.heap.objs.size, s2.heap.objs.size + 1], _, _, H2, rfl, I3, turn_zipR (n := m) D (Nat.ne_of_lt (Nat.lt_of_lt_of_le hbl (Nat.le_add_right _ _))), ⟨hz, hTI, ⟨_, _, hTO⟩, g1', ⟨_, g2, rfl, rfl⟩⟩, fun c hcm => ?_, q3⟩
  have e' : c = s2.heap.objs.size + 4 ∨ c = s2.heap.objs.size + 2 ∨ c = s2.heap.objs.size + 3 ∨ c = s2.heap.objs.size ∨ c = s2.heap.objs.size + 1 := by simpa using hcm
  have hle : s2.heap.objs.size ≤ c := by
    rcases e' with z | z | z | z | z
    · rw [z]; exact Nat.le_add_right _ _
    · rw [z]; exact Nat.le_add_right _ _
    · rw [z]; exact Nat.le_add_right _ _
    · rw [z]; exact Nat.le_refl _
    · rw [z]; exact Nat.le_add_right _ _
  exact I2'.fpOk hle (I2'.hok.fresh hle)
end PySem.MiZ
namespace PySem.MiZ
open PySem PySem.Spec PyProof.Rows L2
open PySem.Sem (wp)
/-! enumerate over a tuple -/
set_option maxHeartbeats 1000000 in
theorem meets_enum1B {v : Value} {o : Obj} {H : Heap → Prop} (B : Begins v o H) :
    Meets (Builtin.«enumerate.__new__» ⟨[.type "enumerate", v], []⟩) (fun _ R s => H s.heap ∧
      R (.ok (.ret (.ref (s.heap.push o).objs.size))) { s with heap := (s.heap.push o).push { cls := .type "enumerate", data := .fields #[.none, .bool false, .ref s.heap.objs.size, rawInt 0, .none, .none] } }) :=
  .of_wp fun prog w A R s h => by
    obtain ⟨hp, g, d, tk, os⟩ := s; obtain ⟨h1, h⟩ := h
    have hsub := sub_enumerate
    have q1 : ∀ {A' : Around} {E : Value → Shared → Prop} {Q : Value → Shared → Prop}, Q (.ref hp.objs.size) ⟨hp.push o, g, d, tk, os⟩ → wpAny (model prog w) A' (pyIter v) Q E ⟨hp, g, d, tk, os⟩ :=
      fun q => B.iter prog w _ _ ⟨hp, g, d, tk, os⟩ _ h1 q
    wp_walk using q1
    refine wpAny_stack_any fun st => wpAny_pure ?_
    split
    · rename_i c _ _ _ _ _
      cases (c == Value.type "enumerate")
      · wp_walk using q1
        exact ⟨_, rfl, h⟩
      · wp_walk using q1
        exact ⟨_, rfl, h⟩
    · wp_walk using q1
      exact ⟨_, rfl, h⟩
section
variable {prog : Program} {w : World} {A : Around} {E : Value → Shared → Prop} {s : Shared}
theorem enum1_begins {v : Value} {o : Obj} {H : Heap → Prop} {Q : Value → Shared → Prop} (B : Begins v o H) (h1 : H s.heap)
    (h : ∀ h', IsEnum h' (s.heap.objs.size + 1) s.heap.objs.size 0 .none → h'.get? s.heap.objs.size = some o → h'.objs.size = s.heap.objs.size + 2 →
      (∀ b o, s.heap.get? b = some o → h'.get? b = some o) → Q (.ref (s.heap.objs.size + 1)) { s with heap := h' }) :
    wpAny (model prog w) A (call (.type "enumerate") [v]) Q E s := by
  refine callType_new F.called_enumerate (by decide) (F.typeCall_enumerate_1 _) (F.newCall_enumerate_1 _) (fun obj => F.args_object_init_2 obj _) F.entry_enumerate_new
    (meets_enum1B B) ⟨h1, ?_⟩
  have hz : (s.heap.push o).objs.size = s.heap.objs.size + 1 := Heap.size_push ..
  show _ ∧ _
  rw [hz]
  have he : IsEnum ((s.heap.push o).push { cls := .type "enumerate", data := .fields #[.none, .bool false, .ref s.heap.objs.size, rawInt 0, .none, .none] }) (s.heap.objs.size + 1) s.heap.objs.size 0 .none := by
    have := Heap.get?_push_size (s.heap.push o) (o := { cls := .type "enumerate", data := .fields #[.none, .bool false, .ref s.heap.objs.size, rawInt 0, .none, .none] }) rfl
    rw [hz] at this; exact this
  refine ⟨⟨_, he, rfl⟩, h _ he (Heap.get?_push_of_some _ (Heap.get?_push_size _ B.free)) (by rw [Heap.size_push, hz]) fun b o x => Heap.get?_push_of_some _ (Heap.get?_push_of_some _ x)⟩
end
/-- the tuple at a, with the numbers from nought on -/
def IteT (K : PySem.W.Frag) (a : Addr) : It :=
  ⟨fun i H => ∃ (xs : List V) (x : V), SqT K H a xs ∧ xs[i]? = some x, fun i H v H' => ∃ T x, v = .ref T ∧ H T = none ∧ H' = upd H T (.tup [.int (i : Nat), x]) ∧ ∀ xs, SqT K H a xs → xs[i]? = some x, fun i H => ∃ xs : List V, SqT K H a xs ∧ xs.length = i⟩
theorem turn_enumT {P : Program} {w : World} {K : PySem.W.Frag} {elts : List Expr} {kk : Nat} {tpos : Pos} (a e it : Addr) (hei : e ≠ it) (hai : a ≠ it) (hea : e ≠ a) :
    Turn P w K (.Tuple elts kk tpos) (IteT K a) [e, it] e (fun i h => (∃ old, IsEnum h e it ((i : Nat) : Int) old) ∧ h.IsTupleIter it a i) where
  mem := by simp
  obj := fun i h st b hb => by
    obtain ⟨⟨old, he⟩, ⟨o, ho, hc, hd⟩⟩ := st
    have e' : b = e ∨ b = it := by simpa using hb
    rcases e' with z | z
    · rw [z]; exact ⟨_, he, fun v q => nomatch q⟩
    · rw [z]; exact ⟨o, ho, fun v q => by rw [hd] at q; cases q⟩
  keep := fun i h h' st k => let ⟨⟨old, he⟩, hi⟩ := st; ⟨⟨old, k e (by simp) _ he⟩, hi.at fun o q => k it (by simp) o q⟩
  item := by
    intro X hP hw hK hc i pins s σ H E I hf st hg
    subst hP hw hK
    obtain ⟨⟨old, he⟩, hit⟩ := st
    obtain ⟨xs, x, hq, hx⟩ := hg
    obtain ⟨its, rv, p, hz⟩ := I.tuple hq
    obtain ⟨u, hu, ru⟩ := rv.get hx
    have hel : e < s.heap.objs.size := Heap.lt_size he
    have hil : it < s.heap.objs.size := by obtain ⟨_, q, _⟩ := hit; exact Heap.lt_size q
    have D := Draws.tuple (prog := X.prog) (w := X.w) (A := X.A.in1) (I.ok.hd hc) it a hai its.toArray
    have hlt : i < its.toArray.size := by
      have := (List.getElem?_eq_some_iff.mp hu).1
      simpa using this
    refine wpAny_pyNext_enum_itemD D he ⟨hit, p⟩ hlt hei (by simp [hei, hea]) fun x' h' tk hP ho hit' hT hsz hk => ?_
    have ex : x' = u := by
      have e1 : its.toArray[i]? = some u := by simpa using hu
      rw [e1] at hP; cases hP; rfl
    subst ex
    refine ⟨_, rfl, wpAny_letOwnedTupleGo_enum (s := { s with heap := h', toks := tk + 1 }) ho fun h'' he' sb => ?_⟩
    have hT2 : h''.get? s.heap.objs.size = some { cls := .type "tuple", data := .seq #[.int i tk, x'] } := (sb.2 _ (Nat.ne_of_gt hel)).trans hT
    have new : ObjOk X.prog X.w (upd H s.heap.objs.size (.tup [.int (i : Nat), x])) h'' s.heap.objs.size (.tup [.int (i : Nat), x]) :=
      ⟨by show 2 ≤ sizeLine; decide, [.int i tk, x'], .cons ⟨_, rfl⟩ (.cons ru .nil), ⟨_, hT2, rfl, _, rfl⟩⟩
    have I1 : Inv X pins σ (upd H s.heap.objs.size (.tup [.int (i : Nat), x])) { s with heap := h'', toks := tk + 1 } :=
      I.turnedNew (ch := [e, it]) (fun b ob hb q => (sb.2 b (fun z => hb (by simp [z]))).trans (hk b ob (fun z => hb (by simp [z])) (fun z => hb (by simp [z])) q)) hf (Nat.le_refl _) new
    refine ⟨.ref s.heap.objs.size, _, I1, rfl, ⟨_, x, rfl, I.hok.fresh (Nat.le_refl _), rfl, fun ys hy => by rw [I.tuple_inj hy hq]; exact hx⟩, ⟨⟨x', ?_⟩, hit'.1.at fun o q => (sb.2 it (Ne.symm hei)).trans q⟩, fun b hb => ?_⟩
    · have e1 : ((i + 1 : Nat) : Int) = (i : Int) + 1 := by omega
      rw [e1]; exact he'
    · have hb' : b < s.heap.objs.size := by
        have e' : b = e ∨ b = it := by simpa using hb
        rcases e' with z | z
        · rw [z]; exact hel
        · rw [z]; exact hil
      rw [upd_ne (Nat.ne_of_lt hb')]
      exact (hf b hb).1
  done := by
    intro X hP hw hK hc i pins s σ H E I hf st hg
    subst hP hw hK
    obtain ⟨⟨old, he⟩, hit⟩ := st
    obtain ⟨xs, hq, hx⟩ := hg
    obtain ⟨its, rv, p, hz⟩ := I.tuple hq
    have l1 := rv.length
    have D := Draws.tuple (prog := X.prog) (w := X.w) (A := X.A.in1) (I.ok.hd hc) it a hai its.toArray
    have ei : i = its.toArray.size := by simp; omega
    subst ei
    exact wpAny_pyNext_enum_endD D he ⟨hit, p⟩ fun h' hk => ⟨rfl, I.turnedL (t' := s.toks) (ch := [e, it]) (fun c o hb q => hk c o (fun q' => hb (by simp [q'])) q) hf⟩
  self := fun A i s Q E st h => by
    obtain ⟨⟨old, he⟩, _⟩ := st
    exact wpAny_pyIter_enum he h
/-- enumerate(x), a list or a tuple -/
def iEnumA (K : PySem.W.Frag) (ta : TA) : TI := fun σ H R => ta σ H fun vs H1 => ∃ a xs, vs = [.ref a] ∧ ((SqL K H1 a xs ∧ R (Ite K a) H1) ∨ (SqT K H1 a xs ∧ R (IteT K a) H1))
theorem pi_enumA {X : Cx} {e : Expr} {ta : TA} {p pos tpos : Pos} {elts : List Expr} {kk : Nat} (hg : Gl X "enumerate") (hm : X.mg "enumerate" = none) (ha : PA X [e] ta) (hs : starEach [e] X.env = [(false, eval e X.env)]) :
    PI X (.Tuple elts kk tpos) (.Call (.Name "enumerate" p) [e] [] pos) (iEnumA X.K ta) := by
  refine ⟨fun pins s σ H R I h => ?_⟩
  refine Call_ (ld_blt I hg hm boot_enumerate (PyProof.Rows.callWith_type1 (thn (ha.run pos pins s σ H _ I h) fun us s1 ⟨vs, H1, I1, r1, q1⟩ => ?_) hs rfl))
  obtain ⟨a, xs, ex, q1⟩ := q1
  subst ex
  cases r1 with
  | cons r rr =>
    cases rr
    cases r
    have fresh : ∀ b, b ∈ [s1.heap.objs.size + 1, s1.heap.objs.size] → FpOk X pins H1 b := fun b hb => by
      have e' : b = s1.heap.objs.size + 1 ∨ b = s1.heap.objs.size := by simpa using hb
      have hle : s1.heap.objs.size ≤ b := by
        rcases e' with z | z
        · rw [z]; exact Nat.le_add_right _ _
        · rw [z]; exact Nat.le_refl _
      exact I1.fpOk hle (I1.hok.fresh hle)
    rcases q1 with ⟨hq, q⟩ | ⟨hq, q⟩
    · obtain ⟨its, rv, p', hz⟩ := I1.list hq
      refine call_enumerate_list p'.isList fun h' he hit hsz hk => wpAny_pyIter_enum he ?_
      have I2 : Inv X pins σ H1 { s1 with heap := h' } := I1.kept (t' := s1.toks) hk
      exact ⟨s1.heap.objs.size + 1, [s1.heap.objs.size + 1, s1.heap.objs.size], _, _, H1, rfl, I2, turn_enum a (s1.heap.objs.size + 1) s1.heap.objs.size, ⟨⟨.none, he⟩, hit, Nat.succ_ne_self _⟩, fresh, q⟩
    · obtain ⟨its, rv, p', hz⟩ := I1.tuple hq
      have hal : a < s1.heap.objs.size := by obtain ⟨o, ho, _⟩ := p'; exact Heap.lt_size ho
      refine enum1_begins (begins_tuple a its.toArray) p' fun h' he hit hsz hk => wpAny_pyIter_enum he ?_
      have I2 : Inv X pins σ H1 { s1 with heap := h' } := I1.kept (t' := s1.toks) hk
      exact ⟨s1.heap.objs.size + 1, [s1.heap.objs.size + 1, s1.heap.objs.size], _, _, H1, rfl, I2, turn_enumT a (s1.heap.objs.size + 1) s1.heap.objs.size (Nat.succ_ne_self _) (Nat.ne_of_lt hal) (Nat.ne_of_gt (Nat.lt_succ_of_lt hal)), ⟨⟨.none, he⟩, ⟨_, hit, rfl, rfl⟩⟩, fresh, q⟩
end PySem.MiZ

set_option maxHeartbeats 1000000
/-! ## Mi: a small pure semantics over plain data -/
namespace Mi
open PySem (PyData Str)

/-- plain data -/
abbrev Da := PyData

/-- what a slot or an expression holds: data; a container of one's own (nobody else has it); one lent by the caller; a locked slot -/
inductive Vl where
  | val (d : Da)
  | own (d : Da)
  | lent (d : Da)
  | lck

/-- the slots of a frame -/
abbrev Rho := List (Option Vl)

/-- an error under way: its class by name, what it keeps -/
structure Ex where
  cls : Str
  arg : Da

inductive Out (α : Type) where
  | ok (a : α) (r : Rho)
  | exc (e : Ex) (r : Rho)
  | stuck

abbrev Mm (α : Type) := Rho → Out α

def mRet {α : Type} (a : α) : Mm α := fun r => .ok a r
def mBnd {α β : Type} (m : Mm α) (f : α → Mm β) : Mm β := fun r => match m r with
  | .ok a r' => f a r'
  | .exc e r' => .exc e r'
  | .stuck => .stuck
def mStuck {α : Type} : Mm α := fun _ => .stuck
def mOpt {α : Type} : Option α → Mm α
  | some a => mRet a
  | none => mStuck

/-! ### slots -/
def gt (r : Rho) (i : Nat) : Option Vl := (r[i]?).join
def peek (r : Rho) (i : Nat) : Option Da := match gt r i with
  | some (.val d) => some d
  | some (.own d) => some d
  | some (.lent d) => some d
  | _ => none
/-- a name's value, handed on: a container of one's own is no longer so -/
def mVar (i : Nat) : Mm Vl := fun r => match gt r i with
  | some (.val d) => .ok (.val d) r
  | some (.own d) => .ok (.val d) (r.set i (some (.val d)))
  | _ => .stuck
def mPeek (i : Nat) : Mm Da := fun r => match peek r i with
  | some d => .ok d r
  | none => .stuck
/-- return name: the container leaves with its owner -/
def mMove (i : Nat) : Mm Vl := fun r => match gt r i with
  | some (.val d) => .ok (.val d) r
  | some (.own d) => .ok (.own d) (r.set i none)
  | _ => .stuck
def mSet (i : Nat) (v : Vl) : Mm Unit := fun r => match r[i]? with
  | some (some (.lent _)) => .stuck
  | some (some .lck) => .stuck
  | some _ => .ok () (r.set i (some v))
  | none => .stuck

def mFz (m : Mm Vl) : Mm Da := mBnd m fun v => match v with
  | .val d => mRet d
  | .own d => mRet d
  | _ => mStuck

/-! ### operands: a bare name is looked at when the operation is done -/
inductive Opd where
  | sl (i : Nat)
  | ex (m : Mm Vl)
def mOps : List Opd → Mm (List Da)
  | [] => mRet []
  | .sl i :: os => mBnd (mPeek i) fun _ => mBnd (mOps os) fun ds => mBnd (mPeek i) fun d => mRet (d :: ds)
  | .ex m :: os => mBnd (mFz m) fun d => mBnd (mOps os) fun ds => mRet (d :: ds)
/-- an operation: what it gives is data, or a new container -/
def mOp (f : List Da → Option Vl) (os : List Opd) : Mm Vl := mBnd (mOps os) fun ds => mOpt (f ds)

def mC (d : Da) : Mm Vl := mRet (.val d)
def mAll : List (Mm Vl) → Mm (List Da)
  | [] => mRet []
  | m :: ms => mBnd (mFz m) fun d => mBnd (mAll ms) fun ds => mRet (d :: ds)
def mTup (ms : List (Mm Vl)) : Mm Vl := mBnd (mAll ms) fun ds => mRet (.val (.tuple ds))
def mLst (ms : List (Mm Vl)) : Mm Vl := mBnd (mAll ms) fun ds => mRet (.own (.list ds))

/-! ### tests -/
def truth : Da → Option Bool
  | .bool b => some b
  | _ => none
def mTest (m : Mm Vl) : Mm Bool := mBnd (mFz m) fun d => mOpt (truth d)
def mIf {α : Type} (c : Mm Bool) (a b : Mm α) : Mm α := mBnd c fun k => match k with
  | true => a
  | false => b
def mAnd (a b : Mm Vl) : Mm Vl := mBnd (mTest a) fun k => match k with
  | true => mBnd (mFz b) fun d => mRet (.val d)
  | false => mRet (.val (.bool false))
def mOr (a b : Mm Vl) : Mm Vl := mBnd (mTest a) fun k => match k with
  | true => mRet (.val (.bool true))
  | false => mBnd (mFz b) fun d => mRet (.val d)
def mNot (a : Mm Vl) : Mm Vl := mBnd (mTest a) fun k => mRet (.val (.bool (!k)))

/-! ### statements -/
inductive Fl where
  | nx | brk | cnt
  | rt (v : Vl)
def mSeq (a b : Mm Fl) : Mm Fl := mBnd a fun f => match f with
  | .nx => b
  | .brk => mRet .brk
  | .cnt => mRet .cnt
  | .rt v => mRet (.rt v)
def mAsg (i : Nat) (m : Mm Vl) : Mm Fl := mBnd m fun v => mBnd (mSet i v) fun _ => mRet .nx
/-- targets: a name, a tuple of targets -/
inductive Tg where
  | nm (i : Nat)
  | tp (ts : List Tg)
mutual
def mTg : Tg → Da → Mm Unit
  | .nm i, d => mSet i (.val d)
  | .tp ts, .tuple ds => mTgs ts ds
  | .tp ts, .list ds => mTgs ts ds
  | .tp _, _ => mStuck
def mTgs : List Tg → List Da → Mm Unit
  | [], [] => mRet ()
  | t :: ts, d :: ds => mBnd (mTg t d) fun _ => mTgs ts ds
  | _, _ => mStuck
end
def mAsgT (t : Tg) (m : Mm Vl) : Mm Fl := mBnd (mFz m) fun d => mBnd (mTg t d) fun _ => mRet .nx
/-- a, b = x, y with plain names: each gets its own -/
def mVls : List (Mm Vl) → Mm (List Vl)
  | [] => mRet []
  | m :: ms => mBnd m fun v => mBnd (mVls ms) fun vs => mRet (v :: vs)
def mSets : List Nat → List Vl → Mm Unit
  | [], [] => mRet ()
  | i :: is, v :: vs => mBnd (mSet i v) fun _ => mSets is vs
  | _, _ => mStuck
def mPar (is : List Nat) (ms : List (Mm Vl)) : Mm Fl := mBnd (mVls ms) fun vs => mBnd (mSets is vs) fun _ => mRet .nx
/-- the content of a slot's own container is changed -/
def mUpd (i : Nat) (f : Da → Option Da) : Mm Unit := fun r => match gt r i with
  | some (.own d) => match f d with | some d' => .ok () (r.set i (some (.own d'))) | none => .stuck
  | some (.lent d) => match f d with | some d' => .ok () (r.set i (some (.lent d'))) | none => .stuck
  | _ => .stuck
def mRt (m : Mm Vl) : Mm Fl := mBnd m fun v => mRet (.rt v)
def mDrop (m : Mm Vl) : Mm Fl := mBnd (mFz m) fun _ => mRet .nx

/-! ### loops -/
/-- again and again, while it says so -/
def iterN {β : Type} (step : Rho → Rho ⊕ Out β) : Nat → Rho → Option (Out β)
  | 0, _ => none
  | n + 1, r => match step r with
    | .inl r' => iterN step n r'
    | .inr o => some o
open Classical in
noncomputable def iter {β : Type} (step : Rho → Rho ⊕ Out β) (r : Rho) : Out β :=
  if h : ∃ n o, iterN step n r = some o then h.choose_spec.choose else .stuck
theorem iterN_mono {β : Type} {step : Rho → Rho ⊕ Out β} : ∀ {n : Nat} {r : Rho} {o : Out β}, iterN step n r = some o → ∀ k, iterN step (n + k) r = some o
  | 0, _, _, h => by simp [iterN] at h
  | n + 1, r, o, h => fun k => by
    rw [show n + 1 + k = (n + k) + 1 by omega]
    unfold iterN at h ⊢
    cases e : step r with
    | inl r' => rw [e] at h; exact iterN_mono h k
    | inr o' => rw [e] at h; exact h
theorem iterN_det {β : Type} {step : Rho → Rho ⊕ Out β} {n m : Nat} {r : Rho} {o o' : Out β} (h : iterN step n r = some o) (h' : iterN step m r = some o') : o = o' := by
  have a := iterN_mono h m
  have b := iterN_mono h' n
  rw [Nat.add_comm] at b
  exact Option.some.inj (a.symm.trans b)
theorem iter_of {β : Type} {step : Rho → Rho ⊕ Out β} {n : Nat} {r : Rho} {o : Out β} (h : iterN step n r = some o) : iter step r = o := by
  unfold iter
  have hx : ∃ n o, iterN step n r = some o := ⟨n, o, h⟩
  rw [dif_pos hx]
  exact iterN_det hx.choose_spec.choose_spec h
theorem iter_ends {β : Type} {step : Rho → Rho ⊕ Out β} {r : Rho} (h : iter step r ≠ .stuck) : ∃ n, iterN step n r = some (iter step r) := by
  by_cases hx : ∃ n o, iterN step n r = some o
  · obtain ⟨n, o, e⟩ := hx
    exact ⟨n, by rw [iter_of e]; exact e⟩
  · exact absurd (by unfold iter; rw [dif_neg hx]) h
theorem iter_eq {β : Type} (step : Rho → Rho ⊕ Out β) (r : Rho) : iter step r = match step r with | .inl r' => iter step r' | .inr o => o := by
  cases e : step r with
  | inr o => exact iter_of (n := 1) (by simp [iterN, e])
  | inl r' =>
    show iter step r = iter step r'
    by_cases hx : ∃ n o, iterN step n r' = some o
    · obtain ⟨n, o, h⟩ := hx
      rw [iter_of h, iter_of (n := n + 1) (o := o) (by unfold iterN; rw [e]; exact h)]
    · have hy : ¬ ∃ n o, iterN step n r = some o := by
        rintro ⟨n, o, h⟩
        cases n with
        | zero => simp [iterN] at h
        | succ n => unfold iterN at h; rw [e] at h; exact hx ⟨n, o, h⟩
      unfold iter
      rw [dif_neg hx, dif_neg hy]

def whStep (c : Mm Bool) (b : Mm Fl) (r : Rho) : Rho ⊕ Out Fl := match c r with
  | .ok false r' => .inr (.ok .nx r')
  | .ok true r' => match b r' with
    | .ok .nx r'' => .inl r''
    | .ok .cnt r'' => .inl r''
    | .ok .brk r'' => .inr (.ok .nx r'')
    | .ok (.rt v) r'' => .inr (.ok (.rt v) r'')
    | .exc e r'' => .inr (.exc e r'')
    | .stuck => .inr .stuck
  | .exc e r' => .inr (.exc e r')
  | .stuck => .inr .stuck
noncomputable def mWhile (c : Mm Bool) (b : Mm Fl) : Mm Fl := fun r => iter (whStep c b) r

/-- slots whose containers are walked are locked meanwhile -/
def locks (r : Rho) : List Opd → List (Nat × Vl)
  | [] => []
  | .ex _ :: os => locks r os
  | .sl i :: os => match gt r i with
    | some (.own d) => (i, .own d) :: locks r os
    | some (.lent d) => (i, .lent d) :: locks r os
    | _ => locks r os
def lockAll (r : Rho) : List (Nat × Vl) → Rho
  | [] => r
  | (i, _) :: ls => lockAll (r.set i (some .lck)) ls
def unlockAll (r : Rho) : List (Nat × Vl) → Rho
  | [] => r
  | (i, v) :: ls => unlockAll (r.set i (some v)) ls
def Out.mapR {α : Type} (f : Rho → Rho) : Out α → Out α
  | .ok a r => .ok a (f r)
  | .exc e r => .exc e (f r)
  | .stuck => .stuck
/-- what is walked: the items that an operation on operands gives -/
def mOver {α : Type} (f : List Da → Option (List Da)) (os : List Opd) (body : List Da → Mm α) : Mm α := fun r => match mOps os r with
  | .ok ds r1 => match f ds with
    | some items => (body items (lockAll r1 (locks r1 os))).mapR fun r2 => unlockAll r2 (locks r1 os)
    | none => .stuck
  | .exc e r1 => .exc e r1
  | .stuck => .stuck
def forL (t : Tg) (b : Mm Fl) : List Da → Mm Fl
  | [] => mRet .nx
  | d :: ds => mBnd (mTg t d) fun _ => mBnd b fun f => match f with
    | .nx => forL t b ds
    | .cnt => forL t b ds
    | .brk => mRet .nx
    | .rt v => mRet (.rt v)
def mFor (t : Tg) (f : List Da → Option (List Da)) (os : List Opd) (b : Mm Fl) : Mm Fl := mOver f os (forL t b)

/-! ### comprehensions: the block's own slots are hidden meanwhile -/
def hide (r : Rho) : List Nat → Rho
  | [] => r
  | i :: is => (hide r is).set i none
def unhide (r0 r : Rho) : List Nat → Rho
  | [] => r
  | i :: is => (unhide r0 r is).set i (gt r0 i)
def mHide {α : Type} (is : List Nat) (m : Mm α) : Mm α := fun r => (m (hide r is)).mapR fun r' => unhide r r' is
def lcT (t : Tg) (c : Mm Bool) (e : Mm Vl) (d : Da) : Mm (Option Da) := mBnd (mTg t d) fun _ => mBnd c fun k => match k with
  | true => mBnd (mFz e) fun x => mRet (some x)
  | false => mRet none
/-- no error leaves -/
def mNx {α : Type} (m : Mm α) : Mm α := fun r => match m r with
  | .ok a r' => .ok a r'
  | _ => .stuck
def lcL (own : List Nat) (t : Tg) (c : Mm Bool) (e : Mm Vl) : List Da → List Da → Mm (List Da)
  | acc, [] => mRet acc
  | acc, d :: ds => mBnd (mNx (mHide own (lcT t c e d))) fun o => match o with
    | some x => if acc.length < 16777216 then lcL own t c e (acc ++ [x]) ds else mStuck
    | none => lcL own t c e acc ds
def mLc (own : List Nat) (t : Tg) (f : List Da → Option (List Da)) (os : List Opd) (c : Mm Bool) (e : Mm Vl) : Mm Vl :=
  mOver f os fun items => mBnd (lcL own t c e [] items) fun ds => mRet (.own (.list ds))

/-! ### calls -/
inductive CRes where
  | ret (v : Vl) (ls : List Da)
  | exc (e : Ex) (ls : List Da)
  | stuck
/-- no container within -/
def scal : Da → Bool
  | .none => true
  | .bool _ => true
  | .int _ => true
  | .str _ => true
  | .list _ => false
  | .dict _ => false
  | .tuple ds => scalAll ds
where scalAll : List Da → Bool
  | [] => true
  | d :: ds => scal d && scalAll ds
def scalOb : Da → Bool
  | .list ds => scal.scalAll ds
  | _ => false
def clean (v : Vl) (ls : List Da) : Bool := (match v with
  | .val d => scal d
  | .own d => scalOb d
  | _ => false) && ls.all scalOb
/-- arguments; true: lent, to be changed -/
def mArgs : List (Bool × Opd) → Mm (List Vl)
  | [] => mRet []
  | (false, .sl i) :: as => mBnd (mPeek i) fun _ => mBnd (mArgs as) fun vs => mBnd (mPeek i) fun d => mRet (.val d :: vs)
  | (true, .sl i) :: as => mBnd (mPeek i) fun _ => mBnd (mArgs as) fun vs r => match gt r i with
    | some (.own d) => .ok (.lent d :: vs) r
    | some (.lent d) => .ok (.lent d :: vs) r
    | _ => .stuck
  | (false, .ex m) :: as => mBnd (mFz m) fun d => mBnd (mArgs as) fun vs => mRet (.val d :: vs)
  | (true, .ex m) :: as => mBnd m fun v => match v with
    | .own d => mBnd (mArgs as) fun vs => mRet (.lent d :: vs)
    | _ => mStuck
def lentSl : List (Bool × Opd) → List Nat
  | [] => []
  | (true, .sl i) :: as => i :: lentSl as
  | _ :: as => lentSl as
def peekSl : List (Bool × Opd) → List Nat
  | [] => []
  | (false, .sl i) :: as => i :: peekSl as
  | _ :: as => peekSl as
def apart : Bool × Opd → Bool × Opd → Bool
  | (true, .sl i), (_, .sl j) => i != j
  | (false, .sl i), (true, .sl j) => i != j
  | (true, .ex _), (true, .ex _) => false
  | _, _ => true
def okArgs : List (Bool × Opd) → Bool
  | [] => true
  | a :: as => as.all (apart a) && okArgs as
def backLents : List (Bool × Opd) → List Da → Rho → Option Rho
  | [], [], r => some r
  | (true, .sl i) :: as, d :: ds, r => match gt r i with
    | some (.own _) => backLents as ds (r.set i (some (.own d)))
    | some (.lent _) => backLents as ds (r.set i (some (.lent d)))
    | _ => none
  | (true, .ex _) :: as, _ :: ds, r => backLents as ds r
  | (false, _) :: as, ds, r => backLents as ds r
  | _, _, _ => none
def frzAll : List Nat → Rho → Option Rho
  | [], r => some r
  | i :: is, r => match gt r i with
    | some (.own d) => frzAll is (r.set i (some (.val d)))
    | some (.val _) => frzAll is r
    | _ => none
def endCall {α : Type} (as : List (Bool × Opd)) (a : α) (k : Bool) (ls : List Da) (r : Rho) (f : α → Rho → Out Vl) : Out Vl := match backLents as ls r with
  | some r2 => if k then f a r2 else match frzAll (peekSl as) r2 with
    | some r3 => f a r3
    | none => .stuck
  | none => .stuck
def mCall (F : List Vl → CRes) (as : List (Bool × Opd)) : Mm Vl := if okArgs as then mBnd (mArgs as) fun vs r1 => match F vs with
    | .ret v ls => endCall as v (clean v ls) ls r1 Out.ok
    | .exc e ls => endCall as e false ls r1 Out.exc
    | .stuck => .stuck
  else mStuck
/-- what the lent parameters hold at the end -/
def lentsOf : List Bool → Rho → Option (List Da)
  | [], _ => some []
  | true :: fs, some (.lent d) :: r => (lentsOf fs r).map (d :: ·)
  | false :: fs, _ :: r => lentsOf fs r
  | _, _ => none
def runF (n : Nat) (fl : List Bool) (b : Mm Fl) (vs : List Vl) : CRes := match b (vs.map some ++ List.replicate (n - vs.length) none) with
  | .ok .nx r => match lentsOf fl r with | some ls => .ret (.val .none) ls | none => .stuck
  | .ok (.rt v) r => match lentsOf fl r with | some ls => .ret v ls | none => .stuck
  | .ok _ _ => .stuck
  | .exc e r => match lentsOf fl r with | some ls => .exc e ls | none => .stuck
  | .stuck => .stuck
end Mi

set_option maxHeartbeats 1000000
namespace Mi
open PySem PySem.Spec PyProof.Rows L2

/-! ## the relation of the small semantics' states to those of the layer -/
def keyD : Key → Da
  | .inl i => .int i
  | .inr x => .str x
/-! data at a value: lists and dicts that are known to the layer, tuples also of the written part -/
mutual
inductive Rp (K : PySem.W.Frag) (H : Hp) : V → Da → Prop
  | non : Rp K H .non .none
  | bl (b : Bool) : Rp K H (.bl b) (.bool b)
  | int (i : Int) : Rp K H (.int i) (.int i)
  | str (x : Str) : Rp K H (.str x) (.str x)
  | lst {a : Addr} {xs : List V} {ds : List Da} : Rd H a (.lst xs) → RpAll K H xs ds → Rp K H (.ref a) (.list ds)
  | tup {a : Addr} {xs : List V} {ds : List Da} : SqT K H a xs → RpAll K H xs ds → Rp K H (.ref a) (.tuple ds)
  | dk {a : Addr} {xs : List (Key × V)} {ds : List (Da × Da)} : Rd H a (.dK xs) → RpKv K H xs ds → Rp K H (.ref a) (.dict ds)
  | fn (x : Str) : Rp K H (.ref (He.ga K x)) (.dict [(.list [], .str x)])
inductive RpAll (K : PySem.W.Frag) (H : Hp) : List V → List Da → Prop
  | nil : RpAll K H [] []
  | cons {v : V} {vs : List V} {d : Da} {ds : List Da} : Rp K H v d → RpAll K H vs ds → RpAll K H (v :: vs) (d :: ds)
inductive RpKv (K : PySem.W.Frag) (H : Hp) : List (Key × V) → List (Da × Da) → Prop
  | nil : RpKv K H [] []
  | cons {k : Key} {v : V} {vs : List (Key × V)} {d : Da} {ds : List (Da × Da)} : Rp K H v d → RpKv K H vs ds → RpKv K H ((k, v) :: vs) ((keyD k, d) :: ds)
end
section
variable (K : PySem.W.Frag)

abbrev Le (Z H : Hp) : Prop := ∀ a o, Z a = some o → H a = some o

/-- a container with just this content at x, apart from what is frozen -/
def ObC (Z : Hp) (o : HO) (d : Da) : Prop := match o, d with
  | .lst vs, .list ds => RpAll K Z vs ds
  | .dK kvs, .dict ds => RpKv K Z kvs ds
  | _, _ => False
def ObR (Z H : Hp) (x : V) (d : Da) : Prop := ∃ a o, x = .ref a ∧ Z a = none ∧ H a = some o ∧ ObC K Z o d
def VlR (Z H : Hp) (x : V) : Vl → Prop
  | .val d => Rp K Z x d
  | .own d => ObR K Z H x d
  | .lent d => ObR K Z H x d
  | .lck => True

def ow (r : Rho) (i : Nat) (d : Da) : Prop := gt r i = some (.own d) ∨ gt r i = some (.lent d)
def Own (r : Rho) (σ : L2.St) (a : Addr) : Prop := ∃ i d, ow r i d ∧ σ[i]? = some (some (.ref a))

/-- the tables of code objects that grow: of the module's defs, where the written part leaves them out -/
def tabs : List (Addr × Str) := match K.lookup mainGlobals with
  | some ⟨_, _, .dict es _, _⟩ => es.toList.filterMap fun e => match e.key, e.val with
    | .str x _, .ref f => (match K.lookup f with
      | some ⟨_, _, .func fd, _⟩ => (match fd.code with
        | .ref c => (match K.lookup c with
          | some ⟨_, _, .fields vs, _⟩ => (match (vs[11]? : Option Value) with
            | some (.ref P) => if (K.lookup P).isNone then some (P, x ++ ".<locals>." ++ "<lambda>") else none
            | _ => none)
          | _ => none)
        | _ => none)
      | _ => none)
    | _, _ => none
  | _ => []
/-- they stand in the heap, and are not frozen -/
structure TbOk (Z H : Hp) : Prop where
  all : LamX.Tabs (tabs K) H
  nz : ∀ p ∈ tabs K, Z p.1 = none
structure SR (Z : Hp) (σ : L2.St) (H : Hp) (r : Rho) : Prop where
  sub : Le Z H
  tb : TbOk K Z H
  len : r.length = σ.length
  at_ : ∀ i v, gt r i = some v → v ≠ .lck → ∃ x, σ[i]? = some (some x) ∧ VlR K Z H x v
  sep : ∀ i j a d d', ow r i d → ow r j d' → σ[i]? = some (some (.ref a)) → σ[j]? = some (some (.ref a)) → i = j
end

/-- what becomes of an object that nobody here owns: a table of code objects may grow -/
def KpO : HO → Option HO → Prop
  | .tbl _, x => ∃ ps, x = some (.tbl ps)
  | o, x => x = some o
theorem KpO.of {o : HO} {x : Option HO} (h : x = some o) : KpO o x := by
  subst h
  cases o <;> first | rfl | exact ⟨_, rfl⟩
theorem KpO.same {o : HO} {x : Option HO} (h : KpO o x) (n : ∀ ps, o ≠ .tbl ps) : x = some o := by
  cases o <;> first | exact h | exact absurd rfl (n _)
theorem KpO.nn {o : HO} {x : Option HO} (h : KpO o x) : x ≠ none := by
  cases o <;> first | (intro z; rw [z] at h; cases h; done) | (obtain ⟨_, z⟩ := h; rw [z]; exact fun q => by cases q)
theorem KpO.trans {o : HO} {H2 : Hp} {a : Addr} {x : Option HO} (h : KpO o x) (f : ∀ o', x = some o' → KpO o' (H2 a)) : KpO o (H2 a) := by
  cases o <;> first | exact f _ h | (obtain ⟨ps, z⟩ := h; exact f (.tbl ps) z)
structure Fr (Z : Hp) (σ : L2.St) (H : Hp) (r : Rho) (Z' : Hp) (σ' : L2.St) (H' : Hp) (r' : Rho) : Prop where
  keep : ∀ a o, H a = some o → ¬ Own r σ a → KpO o (H' a)
  zm : Le Z Z'
  zn : ∀ a, Z a = none → Z' a ≠ none → H a = none ∨ Own r σ a
  ow : ∀ a, Own r' σ' a → Own r σ a ∨ H a = none
  lk : ∀ i, gt r i = some .lck → gt r' i = some .lck ∧ σ'[i]? = σ[i]?
  lt : ∀ i d, gt r i = some (.lent d) → (∃ d', gt r' i = some (.lent d')) ∧ σ'[i]? = σ[i]?

section
variable {K : PySem.W.Frag} {Z Z' Z'' H H' H'' : Hp} {σ σ' σ'' : L2.St} {r r' r'' : Rho} {x : V} {d : Da} {v : Vl}

theorem Fr.refl : Fr Z σ H r Z σ H r :=
  ⟨fun _ _ e _ => .of e, fun _ _ e => e, fun _ e n => absurd e n, fun _ h => .inl h, fun _ e => ⟨e, rfl⟩, fun _ d e => ⟨⟨d, e⟩, rfl⟩⟩
theorem Fr.trans (a : Fr Z σ H r Z' σ' H' r') (b : Fr Z' σ' H' r' Z'' σ'' H'' r'') : Fr Z σ H r Z'' σ'' H'' r'' where
  keep := fun c o e n => (a.keep c o e n).trans fun o' e' => b.keep c o' e' fun z => (a.ow c z).elim n fun q => by rw [e] at q; cases q
  zm := fun c o e => b.zm c o (a.zm c o e)
  zn := fun c e n => by
    by_cases h : Z' c = none
    · rcases b.zn c h n with q | q
      · cases e1 : H c with
        | none => exact .inl rfl
        | some o =>
          by_cases h2 : Own r σ c
          · exact .inr h2
          · exact absurd q (a.keep c o e1 h2).nn
      · rcases a.ow c q with z | z
        · exact .inr z
        · exact .inl z
    · exact a.zn c e h
  ow := fun c h => by
    rcases b.ow c h with q | q
    · exact a.ow c q
    · cases e1 : H c with
      | none => exact .inr rfl
      | some o =>
        by_cases h2 : Own r σ c
        · exact .inl h2
        · exact absurd q (a.keep c o e1 h2).nn
  lk := fun i e => by
    obtain ⟨h1, h2⟩ := a.lk i e
    obtain ⟨h3, h4⟩ := b.lk i h1
    exact ⟨h3, h4.trans h2⟩
  lt := fun i d e => by
    obtain ⟨⟨d1, h1⟩, h2⟩ := a.lt i d e
    obtain ⟨h3, h4⟩ := b.lt i d1 h1
    exact ⟨h3, h4.trans h2⟩

theorem Rd.le {a : Addr} {u : HO} (h : Le Z H) (q : Rd Z a u) : Rd H a u := by
  rcases q with q | ⟨o, q⟩
  · exact .inl (h _ _ q)
  · exact .inr ⟨o, h _ _ q⟩
theorem SqT.le {a : Addr} {xs : List V} (h : Le Z H) (q : SqT K Z a xs) : SqT K H a xs := by
  rcases q with q | q
  · exact .inl (Rd.le h q)
  · exact .inr q
mutual
theorem Rp.le (h : Le Z H) : ∀ (d : Da) (x : V), Rp K Z x d → Rp K H x d
  | .none, _, q => by cases q; exact .non
  | .bool b, _, q => by cases q; exact .bl b
  | .int i, _, q => by cases q; exact .int i
  | .str s, _, q => by cases q; exact .str s
  | .list ds, _, q => by
    cases q with
    | lst hs ha => exact .lst (Rd.le h hs) (RpAll.le h ds _ ha)
  | .tuple ds, _, q => by
    cases q with
    | tup hs ha => exact .tup (SqT.le h hs) (RpAll.le h ds _ ha)
  | .dict ds, _, q => by
    cases q with
    | dk hs ha => exact .dk (Rd.le h hs) (RpKv.le h ds _ ha)
    | fn y => exact .fn y
theorem RpAll.le (h : Le Z H) : ∀ (ds : List Da) (xs : List V), RpAll K Z xs ds → RpAll K H xs ds
  | [], _, q => by cases q; exact .nil
  | d :: ds, _, q => by
    cases q with
    | cons h1 h2 => exact .cons (Rp.le h d _ h1) (RpAll.le h ds _ h2)
theorem RpKv.le (h : Le Z H) : ∀ (ds : List (Da × Da)) (xs : List (Key × V)), RpKv K Z xs ds → RpKv K H xs ds
  | [], _, q => by cases q; exact .nil
  | (k, d) :: ds, _, q => by
    cases q with
    | cons h1 h2 => exact .cons (Rp.le h d _ h1) (RpKv.le h ds _ h2)
end
theorem RpAll.length : ∀ {ds : List Da} {xs : List V}, RpAll K Z xs ds → xs.length = ds.length
  | [], _, q => by cases q; rfl
  | d :: ds, _, q => by
    cases q with
    | cons h1 h2 => simp [RpAll.length h2]
theorem RpAll.append : ∀ {ds es : List Da} {xs ys : List V}, RpAll K Z xs ds → RpAll K Z ys es → RpAll K Z (xs ++ ys) (ds ++ es)
  | [], _, _, _, q, p => by cases q; exact p
  | d :: ds, _, _, _, q, p => by
    cases q with
    | cons h1 h2 => exact .cons h1 (RpAll.append h2 p)
theorem RpAll.get : ∀ {ds : List Da} {xs : List V}, RpAll K Z xs ds → ∀ {i : Nat} {d : Da}, ds[i]? = some d → ∃ x, xs[i]? = some x ∧ Rp K Z x d
  | [], _, q, i, d, e => by simp at e
  | d :: ds, _, q, 0, e, h => by
    cases q with
    | cons h1 h2 =>
      simp only [List.getElem?_cons_zero, Option.some.injEq] at h
      subst h
      exact ⟨_, by simp, h1⟩
  | d :: ds, _, q, i + 1, e, h => by
    cases q with
    | cons h1 h2 =>
      simp only [List.getElem?_cons_succ] at h
      obtain ⟨x, e1, e2⟩ := RpAll.get h2 h
      exact ⟨x, by simpa using e1, e2⟩
theorem RpAll.getx : ∀ {ds : List Da} {xs : List V}, RpAll K Z xs ds → ∀ {i : Nat} {x : V}, xs[i]? = some x → ∃ d, ds[i]? = some d ∧ Rp K Z x d
  | [], _, q, i, d, e => by cases q; simp at e
  | d :: ds, _, q, 0, e, h => by
    cases q with
    | cons h1 h2 =>
      simp only [List.getElem?_cons_zero, Option.some.injEq] at h
      subst h
      exact ⟨_, by simp, h1⟩
  | d :: ds, _, q, i + 1, e, h => by
    cases q with
    | cons h1 h2 =>
      simp only [List.getElem?_cons_succ] at h
      obtain ⟨x, e1, e2⟩ := RpAll.getx h2 h
      exact ⟨x, by simpa using e1, e2⟩
theorem RpAll.of_get : ∀ {xs : List V} {ds : List Da}, xs.length = ds.length → (∀ (i : Nat) (x : V) (d : Da), xs[i]? = some x → ds[i]? = some d → Rp K Z x d) → RpAll K Z xs ds
  | [], [], _, _ => .nil
  | [], _ :: _, e, _ => by simp at e
  | _ :: _, [], e, _ => by simp at e
  | x :: xs, d :: ds, e, h => .cons (h 0 x d rfl rfl) (RpAll.of_get (by simpa using e) fun i y d h1 h2 => h (i + 1) y d (by simpa using h1) (by simpa using h2))

theorem ObC.nt {Z : Hp} {o : HO} {d : Da} (h : ObC K Z o d) : ∀ ps, o ≠ .tbl ps := fun ps e => by
  subst e
  exact h.elim
theorem no_fn {kvs : List (Key × V)} {y : Str} (h : RpKv K Z kvs [(.list [], .str y)]) : False := by
  generalize e : ([(.list [], .str y)] : List (Da × Da)) = ds at h
  cases h with
  | nil => cases e
  | cons h1 h2 =>
    rename_i k v vs d ds
    cases k <;> cases e
theorem ObC.le {o : HO} (hz : Le Z Z') (h : ObC K Z o d) : ObC K Z' o d := by
  unfold ObC at h ⊢
  split at h
  · exact RpAll.le hz _ _ h
  · exact RpKv.le hz _ _ h
  · exact h.elim
theorem ObR.le (hz : Le Z Z') (h : ObR K Z H x d) (hh : ∀ a, x = .ref a → H' a = H a ∧ Z' a = none) : ObR K Z' H' x d := by
  obtain ⟨a, o, e, z, q, p⟩ := h
  obtain ⟨h1, h2⟩ := hh a e
  exact ⟨a, o, e, h2, h1.trans q, ObC.le hz p⟩
theorem SR.own_ref (S : SR K Z σ H r) {i : Nat} (h : ow r i d) : ∃ a o, σ[i]? = some (some (.ref a)) ∧ Z a = none ∧ H a = some o ∧ ObC K Z o d := by
  have w : ∃ x, σ[i]? = some (some x) ∧ ObR K Z H x d := by
    rcases h with h | h
    · exact S.at_ i _ h (by intro z; cases z)
    · exact S.at_ i _ h (by intro z; cases z)
  obtain ⟨x, e, a, o, e1, h1, h2, h3⟩ := w
  subst e1
  exact ⟨a, o, e, h1, h2, h3⟩
theorem SR.own_z (S : SR K Z σ H r) {a : Addr} (h : Own r σ a) : Z a = none ∧ H a ≠ none := by
  obtain ⟨i, d, h1, h2⟩ := h
  obtain ⟨b, o, e, hz, hh, _⟩ := S.own_ref h1
  rw [h2] at e
  cases e
  exact ⟨hz, by rw [hh]; intro z; cases z⟩

/-- the heap grows, what is frozen grows -/
structure Ext (Z H Z' H' : Hp) : Prop where
  hk : Le H H'
  zm : Le Z Z'
  zn : ∀ a, Z a = none → Z' a ≠ none → H a = none
  sub : Le Z' H'
theorem Ext.refl (h : Le Z H) : Ext Z H Z H := ⟨fun _ _ e => e, fun _ _ e => e, fun _ e n => absurd e n, h⟩
/-- tables stay where all but lists, tuples and dicts stays -/
theorem TbOk.to (t : TbOk K Z H) (k : ∀ a o, H a = some o → (∀ xs, o ≠ .lst xs) → (∀ xs, o ≠ .dK xs) → (∀ xs, o ≠ .dT xs) → H' a = some o) (z : ∀ a ps, H a = some (.tbl ps) → Z a = none → Z' a = none) : TbOk K Z' H' := by
  refine ⟨fun p hp => ?_, fun p hp => ?_⟩
  · obtain ⟨ps, h1, h2, h3⟩ := t.all p hp
    refine ⟨ps, k _ _ h1 (fun _ q => by cases q) (fun _ q => by cases q) (fun _ q => by cases q), h2, fun pos cv hc => ?_⟩
    obtain ⟨c, e1, e2⟩ := h3 pos cv hc
    refine ⟨c, e1, k _ _ e2 (fun _ q => ?_) (fun _ q => ?_) (fun _ q => ?_)⟩ <;> (unfold LamX.CodeO at q; cases q)
  · obtain ⟨ps, h1, _⟩ := t.all p hp
    exact z _ ps h1 (t.nz p hp)
theorem TbOk.le (t : TbOk K Z H) (k : Le H H') (z : ∀ a, Z a = none → Z' a ≠ none → H a = none) : TbOk K Z' H' :=
  t.to (fun a o h _ _ _ => k a o h) fun a ps h hz => by
    cases q : Z' a with
    | none => rfl
    | some u =>
      have := z a hz (by rw [q]; intro w; cases w)
      rw [h] at this; cases this
/-- an owned address is no table's -/
theorem TbOk.upd {a : Addr} {o o' : HO} (t : TbOk K Z H) (h : H a = some o) (n : ∀ ps, o ≠ .tbl ps) (n2 : ∀ p, o ≠ .ext p) : TbOk K Z (L2.upd H a o') := by
  refine ⟨fun p hp => ?_, t.nz⟩
  obtain ⟨ps, h1, h2, h3⟩ := t.all p hp
  have ne1 : p.1 ≠ a := fun q => by rw [q, h] at h1; exact n ps (Option.some.inj h1)
  refine ⟨ps, by rw [upd_ne ne1]; exact h1, h2, fun pos cv hc => ?_⟩
  obtain ⟨c, e1, e2⟩ := h3 pos cv hc
  have ne2 : c ≠ a := fun q => by rw [q, h] at e2; exact n2 _ (Option.some.inj e2)
  exact ⟨c, e1, by rw [upd_ne ne2]; exact e2⟩
theorem TbOk.frz {a : Addr} {o : HO} (t : TbOk K Z H) (h : H a = some o) (n : ∀ ps, o ≠ .tbl ps) : TbOk K (L2.upd Z a o) H :=
  t.to (fun _ _ h _ _ _ => h) fun b ps hb hz => by
    have ne : b ≠ a := fun q => by rw [q, h] at hb; exact n ps (Option.some.inj hb)
    rw [upd_ne ne]; exact hz
theorem ObC.ne {Z : Hp} {o : HO} {d : Da} (h : ObC K Z o d) : ∀ p, o ≠ .ext p := fun ps e => by
  subst e
  exact h.elim
theorem Ext.sr (S : SR K Z σ H r) (e : Ext Z H Z' H') : SR K Z' σ H' r := by
  refine ⟨e.sub, S.tb.le e.hk e.zn, S.len, fun i v h hl => ?_, S.sep⟩
  obtain ⟨x, e1, q⟩ := S.at_ i v h hl
  refine ⟨x, e1, ?_⟩
  have ob : ∀ d, ow r i d → ObR K Z H x d → ObR K Z' H' x d := fun d ho q => ObR.le e.zm q fun a ea => by
    subst ea
    obtain ⟨b, o, e1', hz, hh, _⟩ := S.own_ref ho
    rw [e1] at e1'
    cases e1'
    refine ⟨by rw [hh]; exact e.hk _ _ hh, ?_⟩
    cases q2 : Z' a with
    | none => rfl
    | some o =>
      have := e.zn a hz (by rw [q2]; intro z; cases z)
      rw [hh] at this; cases this
  cases v with
  | val d => exact Rp.le e.zm d x q
  | own d => exact ob d (.inl h) q
  | lent d => exact ob d (.inr h) q
  | lck => exact absurd rfl hl
theorem Ext.fr (e : Ext Z H Z' H') : Fr Z σ H r Z' σ H' r :=
  ⟨fun a o h _ => .of (e.hk a o h), e.zm, fun a h n => .inl (e.zn a h n), fun _ h => .inl h, fun _ h => ⟨h, rfl⟩, fun _ d h => ⟨⟨d, h⟩, rfl⟩⟩
/-- the heap grows, tables may grow, too -/
structure ExtK (K : PySem.W.Frag) (Z H Z' H' : Hp) : Prop where
  kp : ∀ a o, H a = some o → KpO o (H' a)
  zm : Le Z Z'
  zn : ∀ a, Z a = none → Z' a ≠ none → H a = none
  sub : Le Z' H'
  tb : TbOk K Z' H'
theorem ExtK.sr (S : SR K Z σ H r) (e : ExtK K Z H Z' H') : SR K Z' σ H' r := by
  refine ⟨e.sub, e.tb, S.len, fun i v h hl => ?_, S.sep⟩
  obtain ⟨x, e1, q⟩ := S.at_ i v h hl
  refine ⟨x, e1, ?_⟩
  have ob : ∀ d, ow r i d → ObR K Z H x d → ObR K Z' H' x d := fun d ho q => by
    obtain ⟨a, o, e0, hz, hh, hc⟩ := q
    refine ⟨a, o, e0, ?_, (e.kp a o hh).same hc.nt, ObC.le e.zm hc⟩
    cases q2 : Z' a with
    | none => rfl
    | some o =>
      have := e.zn a hz (by rw [q2]; intro z; cases z)
      rw [hh] at this; cases this
  cases v with
  | val d => exact Rp.le e.zm d x q
  | own d => exact ob d (.inl h) q
  | lent d => exact ob d (.inr h) q
  | lck => exact absurd rfl hl
theorem ExtK.fr (e : ExtK K Z H Z' H') : Fr Z σ H r Z' σ H' r :=
  ⟨fun a o h _ => e.kp a o h, e.zm, fun a h n => .inl (e.zn a h n), fun _ h => .inl h, fun _ h => ⟨h, rfl⟩, fun _ d h => ⟨⟨d, h⟩, rfl⟩⟩
/-- a new frozen object -/
theorem Ext.frz (h : Le Z H) {p : Addr} {o : HO} (hp : H p = none) : Ext Z H (upd Z p o) (upd H p o) := by
  have zp : Z p = none := by
    cases e : Z p with
    | none => rfl
    | some u => rw [h p u e] at hp; cases hp
  refine ⟨fun a u e => ?_, fun a u e => ?_, fun a e n => ?_, fun a u e => ?_⟩
  · rw [upd_ne (ne_of_none e hp)]; exact e
  · rw [upd_ne (ne_of_none e zp)]; exact e
  · by_cases c : a = p
    · subst c; exact hp
    · rw [upd_ne c] at n; exact absurd e n
  · by_cases c : a = p
    · subst c; rw [upd_same] at e ⊢; exact e
    · rw [upd_ne c] at e ⊢; exact h a u e
/-- a new object of one's own -/
theorem Ext.new (h : Le Z H) {p : Addr} {o : HO} (hp : H p = none) : Ext Z H Z (upd H p o) := by
  refine ⟨fun a u e => ?_, fun a u e => e, fun a e n => absurd e n, fun a u e => ?_⟩
  · rw [upd_ne (ne_of_none e hp)]; exact e
  · rw [upd_ne (ne_of_none (h a u e) hp)]; exact h a u e
end
end Mi

set_option maxHeartbeats 1000000
namespace Mi
open PySem PySem.Spec PyProof.Rows L2

/-! ## readings -/
/-- how an error lies: frozen part, heap, class, own dict, the error -/
abbrev XR := Hp → Hp → Value → Option Addr → Ex → Prop

section
variable (K : PySem.W.Frag) (R : XR) (W : WX)

/-- a value that nobody holds yet; H0, r0: at the start -/
def TmpR (H0 : Hp) (r0 : Rho) (Z : Hp) (σ : L2.St) (H : Hp) (r : Rho) (x : V) : Vl → Prop
  | .val d => Rp K Z x d
  | .own d => ObR K Z H x d ∧ ∀ a, x = .ref a → ¬ Own r σ a ∧ (H0 a = none ∨ Own r0 σ a)
  | _ => False

/-- what an outcome is to mean -/
def Eo {α : Type} (Z : Hp) (σ : L2.St) (H : Hp) (r : Rho) (o : Out α) (k : α → Rho → Hp → Hp → Prop) : Prop := match o with
  | .ok a r' => ∀ Z' H', SR K Z' σ H' r' → Fr Z σ H r Z' σ H' r' → k a r' Z' H'
  | .exc e r' => ∀ cls d Z' H', SR K Z' σ H' r' → Fr Z σ H r Z' σ H' r' → R Z' H' cls d e → W cls d σ H'
  | .stuck => False

def rdE (m : Mm Vl) : TE := fun σ H Q => ∃ Z r, SR K Z σ H r ∧ Eo K R W Z σ H r (m r) fun v r' Z' H' => ∀ x, TmpR K H r Z' σ H' r' x v → Q x H'
def rdV (m : Mm Vl) : TE := fun σ H Q => ∃ Z r, SR K Z σ H r ∧ Eo K R W Z σ H r (mFz m r) fun d r' Z' H' => ∀ x, Rp K Z' x d → Q x H'
def rdT (m : Mm Bool) : TT := fun σ H Q => ∃ Z r, SR K Z σ H r ∧ Eo K R W Z σ H r (m r) fun b r' Z' H' => Q b H'

/-- an operand as it is looked at: a container may be anybody's, what is within is frozen -/
def OpdR (Z H : Hp) (x : V) (d : Da) : Prop := Rp K Z x d ∨ ∃ a o, x = .ref a ∧ H a = some o ∧ ObC K Z o d
def OpdAll (Z H : Hp) : List V → List Da → Prop
  | [], [] => True
  | x :: xs, d :: ds => OpdR K Z H x d ∧ OpdAll Z H xs ds
  | _, _ => False
def rdA (os : List Opd) : TA := fun σ H Q => ∃ Z r, SR K Z σ H r ∧ Eo K R W Z σ H r (mOps os r) fun ds r' Z' H' => ∀ xs, OpdAll K Z' H' xs ds → Q xs H'
end

section
variable {K : PySem.W.Frag} {R : XR} {W : WX} {Z Z' Z'' H H' H'' : Hp} {σ σ' σ'' : L2.St} {r r' r'' : Rho} {x : V} {d : Da} {v : Vl}

theorem Eo.mono {α : Type} {o : Out α} {k k' : α → Rho → Hp → Hp → Prop} (h : Eo K R W Z σ H r o k) (f : ∀ a r' Z' H', SR K Z' σ H' r' → Fr Z σ H r Z' σ H' r' → k a r' Z' H' → k' a r' Z' H') : Eo K R W Z σ H r o k' := by
  cases o with
  | ok a r' => exact fun Z' H' S F => f a r' Z' H' S F (h Z' H' S F)
  | exc e r' => exact h
  | stuck => exact h
/-- one behind the other -/
theorem Eo.bnd {α β : Type} {m : Mm α} {f : α → Mm β} {k : β → Rho → Hp → Hp → Prop} (h : Eo K R W Z σ H r (mBnd m f r) k) :
    Eo K R W Z σ H r (m r) fun a r1 Z1 H1 => Eo K R W Z1 σ H1 r1 (f a r1) k := by
  unfold mBnd at h
  cases e : m r with
  | ok a r1 =>
    rw [e] at h
    intro Z1 H1 S1 F1
    have h' : Eo K R W Z σ H r (f a r1) k := h
    cases e2 : f a r1 with
    | ok b r2 =>
      rw [e2] at h'
      exact fun Z2 H2 S2 F2 => h' Z2 H2 S2 (F1.trans F2)
    | exc ex r2 =>
      rw [e2] at h'
      exact fun cls d Z2 H2 S2 F2 q => h' cls d Z2 H2 S2 (F1.trans F2) q
    | stuck => rw [e2] at h'; exact h'
  | exc ex r1 => rw [e] at h; exact h
  | stuck => rw [e] at h; exact h
theorem Eo.start {α : Type} {o : Out α} {k : α → Rho → Hp → Hp → Prop} (F : Fr Z σ H r Z' σ H' r') (h : Eo K R W Z σ H r o k) : Eo K R W Z' σ H' r' o k := by
  cases o with
  | ok a r2 => exact fun Z2 H2 S2 F2 => h Z2 H2 S2 (F.trans F2)
  | exc e r2 => exact fun cls d Z2 H2 S2 F2 q => h cls d Z2 H2 S2 (F.trans F2) q
  | stuck => exact h

theorem gt_set_ne {i j : Nat} (h : j ≠ i) (v : Option Vl) : gt (r.set i v) j = gt r j := by
  unfold gt; rw [List.getElem?_set_ne (Ne.symm h)]
theorem gt_lt {i : Nat} {v : Vl} (h : gt r i = some v) : i < r.length := by
  unfold gt at h
  by_cases c : i < r.length
  · exact c
  · rw [List.getElem?_eq_none (by omega)] at h; cases h
theorem gt_set_eq {i : Nat} (h : i < r.length) (v : Option Vl) : gt (r.set i v) i = v := by
  unfold gt; rw [List.getElem?_set_self h]; rfl
theorem gt_set_cases {i j : Nat} {v : Option Vl} {u : Vl} (h : gt (r.set i v) j = some u) : (j = i ∧ v = some u) ∨ (j ≠ i ∧ gt r j = some u) := by
  by_cases c : j = i
  · subst c
    by_cases hl : j < r.length
    · rw [gt_set_eq hl] at h; exact .inl ⟨rfl, h⟩
    · have e : r.set j v = r := List.set_eq_of_length_le (by omega)
      rw [e] at h
      exact absurd (gt_lt h) hl
  · rw [gt_set_ne c] at h; exact .inr ⟨c, h⟩

/-- the owned ones of a state with one slot set -/
theorem own_set {i : Nat} {v : Option Vl} {a : Addr} (h : Own (r.set i v) σ a) : Own r σ a ∨ ∃ d, (v = some (.own d) ∨ v = some (.lent d)) ∧ σ[i]? = some (some (.ref a)) := by
  obtain ⟨j, d, h1, h2⟩ := h
  rcases h1 with h1 | h1
  · rcases gt_set_cases h1 with ⟨e, q⟩ | ⟨e, q⟩
    · subst e; exact .inr ⟨d, .inl q, h2⟩
    · exact .inl ⟨j, d, .inl q, h2⟩
  · rcases gt_set_cases h1 with ⟨e, q⟩ | ⟨e, q⟩
    · subst e; exact .inr ⟨d, .inr q, h2⟩
    · exact .inl ⟨j, d, .inr q, h2⟩

/-- a slot's own container is frozen where it stands -/
theorem freeze_ob (S : SR K Z σ H r) {x : V} (ob : ObR K Z H x d) (no : ∀ a, x = .ref a → ¬ Own r σ a) : ∃ Z', Ext Z H Z' H ∨ (∃ a o, x = .ref a ∧ Z a = none ∧ H a = some o ∧ Z' = upd Z a o) := ⟨Z, .inl (Ext.refl S.sub)⟩

theorem le_upd {a : Addr} {o : HO} (hz : Z a = none) : Le Z (upd Z a o) := fun b u e => by rw [upd_ne (ne_of_none e hz)]; exact e

/-- what stood stays so when one more address is frozen -/
theorem SR.frz (S : SR K Z σ H r) {a : Addr} {o : HO} (hz : Z a = none) (ho : H a = some o) (nt : ∀ ps, o ≠ .tbl ps) (no : ¬ Own r σ a) : SR K (upd Z a o) σ H r := by
  refine ⟨fun b u e => ?_, S.tb.frz ho nt, S.len, fun i v h hl => ?_, S.sep⟩
  · by_cases c : b = a
    · subst c; rw [upd_same] at e; cases e; exact ho
    · rw [upd_ne c] at e; exact S.sub b u e
  · obtain ⟨x, e1, q⟩ := S.at_ i v h hl
    refine ⟨x, e1, ?_⟩
    have ob : ∀ d, ow r i d → ObR K Z H x d → ObR K (upd Z a o) H x d := fun d hw q => ObR.le (le_upd hz) q fun b eb => by
      subst eb
      have hb : b ≠ a := fun z => no ⟨i, d, hw, by rw [← z]; exact e1⟩
      obtain ⟨b', o', e1', hz', _, _⟩ := S.own_ref hw
      rw [e1] at e1'; cases e1'
      exact ⟨rfl, by rw [upd_ne hb]; exact hz'⟩
    cases v with
    | val d => exact Rp.le (le_upd hz) d x q
    | own d => exact ob d (.inl h) q
    | lent d => exact ob d (.inr h) q
    | lck => exact absurd rfl hl
theorem ObC.rp {a : Addr} {o : HO} (h : ObC K Z o d) (ho : H a = some o) (hz : Le Z H) : Rp K H (.ref a) d := by
  unfold ObC at h
  split at h
  · exact .lst (.inl ho) (RpAll.le hz _ _ h)
  · exact .dk (.inl ho) (RpKv.le hz _ _ h)
  · exact h.elim

/-- an own temporary, frozen -/
theorem Eo.fz {m : Mm Vl} {k : Da → Rho → Hp → Hp → Prop} (h : Eo K R W Z σ H r (mFz m r) k) :
    Eo K R W Z σ H r (m r) fun v r' Z' H' => ∀ x, TmpR K H r Z' σ H' r' x v → ∃ d Z'', SR K Z'' σ H' r' ∧ Fr Z σ H r Z'' σ H' r' ∧ Rp K Z'' x d ∧ k d r' Z'' H' := by
  unfold mFz mBnd at h
  cases e : m r with
  | stuck => rw [e] at h; exact h
  | exc ex r1 => rw [e] at h; exact h
  | ok v r1 =>
    rw [e] at h
    intro Z1 H1 S1 F1 x t
    cases v with
    | lent d => exact t.elim
    | lck => exact t.elim
    | val d => exact ⟨d, Z1, S1, F1, t, h Z1 H1 S1 F1⟩
    | own d =>
      obtain ⟨ob, no⟩ := t
      obtain ⟨a, o, e1, hz, hh, hp⟩ := ob
      have S2 := S1.frz hz hh hp.nt (no a e1).1
      have F2 : Fr Z σ H r (upd Z1 a o) σ H1 r1 := by
        refine ⟨F1.keep, fun b u q => le_upd hz b u (F1.zm b u q), fun b q n => ?_, F1.ow, F1.lk, F1.lt⟩
        by_cases c : b = a
        · subst c; exact (no b e1).2
        · rw [upd_ne c] at n
          exact F1.zn b q n
      exact ⟨d, _, S2, F2, by rw [e1]; exact ObC.rp hp upd_same (le_upd hz), h _ H1 S2 F2⟩

/-- the reading of an expression whose value is handed on -/
theorem rdV_of {X : Cx} {e : Expr} {m : Mm Vl} (h : PE X e (rdE K R W m)) : PE X e (rdV K R W m) := by
  refine ⟨fun pins s σ H Q I hq => h.run pins s σ H Q I ?_⟩
  obtain ⟨Z, r, S, q⟩ := hq
  refine ⟨Z, r, S, (Eo.fz q).mono fun v r' Z' H' S' F' k x t => ?_⟩
  obtain ⟨d, Z2, S2, F2, hd, k2⟩ := k x t
  exact k2 x hd

/-- operands, from the left -/
def OpdX (X : Cx) (K : PySem.W.Frag) (R : XR) (W : WX) (e : Expr) : Opd → Prop
  | .sl i => PE X e (tVar i)
  | .ex m => PE X e (rdE K R W m)
def tOpd (K : PySem.W.Frag) (R : XR) (W : WX) : Opd → TE
  | .sl i => tVar i
  | .ex m => rdV K R W m
theorem OpdX.pe {X : Cx} {e : Expr} {o : Opd} (h : OpdX X K R W e o) : PE X e (tOpd K R W o) := by
  cases o with
  | sl i => exact h
  | ex m => exact rdV_of h
def tOpds (K : PySem.W.Frag) (R : XR) (W : WX) : List Opd → TA
  | [] => tNil
  | o :: os => tCons (tOpd K R W o) (tOpds K R W os)

theorem mPeek_ok {i : Nat} (h : mPeek i r ≠ .stuck) : ∃ d, peek r i = some d ∧ mPeek i r = .ok d r := by
  unfold mPeek at h ⊢
  cases e : peek r i with
  | none => rw [e] at h; exact absurd rfl h
  | some d => exact ⟨d, rfl, rfl⟩
theorem peek_gt {i : Nat} (h : peek r i = some d) : gt r i = some (.val d) ∨ ow r i d := by
  unfold peek at h
  split at h <;> first | (cases h; simp_all [ow]) | cases h
theorem SR.peek (S : SR K Z σ H r) {i : Nat} (h : peek r i = some d) : ∃ x, σ[i]? = some (some x) ∧ OpdR K Z H x d := by
  rcases peek_gt h with h | h
  · obtain ⟨x, e, q⟩ := S.at_ i _ h (by intro z; cases z)
    exact ⟨x, e, .inl q⟩
  · obtain ⟨a, o, e, hz, hh, hp⟩ := S.own_ref h
    exact ⟨_, e, .inr ⟨a, o, rfl, hh, hp⟩⟩
theorem OpdR.rp (hz : Le Z H) (h : OpdR K Z H x d) : Rp K H x d := by
  rcases h with h | ⟨a, o, e, h, p⟩
  · exact Rp.le hz _ _ h
  · subst e; exact ObC.rp p h hz
theorem OpdR.lst {ds : List Da} (hz : Le Z H) (h : OpdR K Z H x (.list ds)) : ∃ a vs, x = .ref a ∧ Rd H a (.lst vs) ∧ RpAll K Z vs ds := by
  rcases h with h | ⟨a, o, e, h, p⟩
  · cases h with
    | lst hs ha => exact ⟨_, _, rfl, Rd.le hz hs, ha⟩
  · unfold ObC at p
    split at p
    · rename_i e2
      cases e2
      exact ⟨a, _, e, .inl h, p⟩
    · rename_i e2; cases e2
    · exact p.elim
theorem OpdR.tup {ds : List Da} (hz : Le Z H) (h : OpdR K Z H x (.tuple ds)) : ∃ a vs, x = .ref a ∧ SqT K H a vs ∧ RpAll K Z vs ds := by
  rcases h with h | ⟨a, o, e, h, p⟩
  · cases h with
    | tup hs ha => exact ⟨_, _, rfl, SqT.le hz hs, ha⟩
  · unfold ObC at p
    split at p
    · rename_i e2; cases e2
    · rename_i e2; cases e2
    · exact p.elim
theorem OpdR.tupZ {ds : List Da} (h : OpdR K Z H x (.tuple ds)) : Rp K Z x (.tuple ds) := by
  rcases h with h | ⟨a, o, e, h, p⟩
  · exact h
  · unfold ObC at p
    split at p
    · rename_i e2; cases e2
    · rename_i e2; cases e2
    · exact p.elim
theorem OpdR.int {i : Int} (h : OpdR K Z H x (.int i)) : x = .int i := by
  rcases h with h | ⟨a, o, e, h, p⟩
  · cases h; rfl
  · unfold ObC at p
    split at p <;> first | exact p.elim | (rename_i e2; cases e2)
theorem OpdR.str {i : Str} (h : OpdR K Z H x (.str i)) : x = .str i := by
  rcases h with h | ⟨a, o, e, h, p⟩
  · cases h; rfl
  · unfold ObC at p
    split at p <;> first | exact p.elim | (rename_i e2; cases e2)
theorem OpdR.bool {i : Bool} (h : OpdR K Z H x (.bool i)) : x = .bl i := by
  rcases h with h | ⟨a, o, e, h, p⟩
  · cases h; rfl
  · unfold ObC at p
    split at p <;> first | exact p.elim | (rename_i e2; cases e2)
theorem OpdR.non (h : OpdR K Z H x .none) : x = .non := by
  rcases h with h | ⟨a, o, e, h, p⟩
  · cases h; rfl
  · unfold ObC at p
    split at p <;> first | exact p.elim | (rename_i e2; cases e2)

/-- THE OPERANDS: what is asked of them by the layer follows from the small semantics -/
theorem opds : ∀ (os : List Opd) {Z : Hp} {H : Hp} {r : Rho} {k : List V → Hp → Prop}, SR K Z σ H r →
    Eo K R W Z σ H r (mOps os r) (fun ds r' Z' H' => ∀ xs, OpdAll K Z' H' xs ds → k xs H') → tOpds K R W os σ H k
  | [], Z, H, r, k, S, h => h Z H S Fr.refl [] trivial
  | .sl i :: os, Z, H, r, k, S, h => by
    unfold mOps at h
    have h1 := Eo.bnd h
    have np : mPeek i r ≠ .stuck := fun z => by rw [z] at h1; exact h1
    obtain ⟨d0, e0, e1⟩ := mPeek_ok np
    rw [e1] at h1
    have h2 := Eo.bnd (h1 Z H S Fr.refl)
    obtain ⟨x, ex, _⟩ := S.peek e0
    refine ⟨x, ex, opds os S (h2.mono fun ds r' Z' H' S' F' k1 xs ha => ?_)⟩
    have k2 := Eo.bnd k1
    have np' : mPeek i r' ≠ .stuck := fun z => by rw [z] at k2; exact k2
    obtain ⟨d, e, e'⟩ := mPeek_ok np'
    rw [e'] at k2
    obtain ⟨y, ey, hy⟩ := S'.peek e
    rw [ex] at ey
    cases ey
    exact k2 Z' H' S' Fr.refl Z' H' S' Fr.refl (x :: xs) ⟨hy, ha⟩
  | .ex m :: os, Z, H, r, k, S, h => by
    unfold mOps at h
    refine ⟨Z, r, S, (Eo.bnd h).mono fun d r1 Z1 H1 S1 F1 k1 x hx => ?_⟩
    refine opds os S1 ((Eo.bnd k1).mono fun ds r2 Z2 H2 S2 F2 k2 xs ha => ?_)
    exact k2 Z2 H2 S2 Fr.refl (x :: xs) ⟨.inl (Rp.le F2.zm d x hx), ha⟩
end
end Mi

set_option maxHeartbeats 1000000
namespace Mi
open PySem PySem.Spec PyProof.Rows L2

/-! ## operations -/
section
variable (K : PySem.W.Frag)
/-- what an operation gives: data, or a new container -/
def NewR (H0 Z : Hp) (H : Hp) (x : V) : Vl → Prop
  | .val d => Rp K Z x d
  | .own d => ObR K Z H x d ∧ ∀ a, x = .ref a → H0 a = none
  | _ => False
/-- f tells the operation whose reading by values is t -/
def OpS (f : List Da → Option Vl) (t : List V → Hp → VK → Prop) : Prop :=
  ∀ xs ds v Z H Q, Le Z H → OpdAll K Z H xs ds → f ds = some v → (∀ x Z' H', Ext Z H Z' H' → NewR K H Z' H' x v → Q x H') → t xs H Q
end
section
variable {K : PySem.W.Frag} {R : XR} {W : WX} {Z Z' H H' : Hp} {σ : L2.St} {r : Rho} {x : V} {d : Da} {v : Vl} {os : List Opd} {f : List Da → Option Vl}

theorem mOp_to {t : List V → Hp → VK → Prop} (hs : OpS K f t) {Q : VK} (h : rdE K R W (mOp f os) σ H Q) : tOpds K R W os σ H fun xs H1 => t xs H1 Q := by
  obtain ⟨Z, r, S, h⟩ := h
  refine opds os S ((Eo.bnd h).mono fun ds r1 Z1 H1 S1 F1 k xs ha => ?_)
  unfold mOpt at k
  cases e : f ds with
  | none => rw [e] at k; exact k.elim
  | some v =>
    rw [e] at k
    refine hs xs ds v Z1 H1 Q S1.sub ha e fun x Z2 H2 E n => ?_
    refine k Z2 H2 (E.sr S1) E.fr x ?_
    cases v with
    | val d => exact n
    | own d =>
      refine ⟨n.1, fun a ea => ?_⟩
      have na := n.2 a ea
      refine ⟨fun q => ?_, ?_⟩
      · exact (S1.own_z (show Own r1 σ a from q)).2 na
      · cases e0 : H a with
        | none => exact .inl rfl
        | some o =>
          by_cases c : Own r σ a
          · exact .inr c
          · exact absurd na (F1.keep a o e0 c).nn
    | lent d => exact n
    | lck => exact n

theorem all1 {xs : List V} {a : Da} (h : OpdAll K Z H xs [a]) : ∃ x, xs = [x] ∧ OpdR K Z H x a := by
  match xs, h with
  | [x], h => exact ⟨x, rfl, h.1⟩
theorem all2 {xs : List V} {a b : Da} (h : OpdAll K Z H xs [a, b]) : ∃ x y, xs = [x, y] ∧ OpdR K Z H x a ∧ OpdR K Z H y b := by
  match xs, h with
  | [x, y], h => exact ⟨x, y, rfl, h.1, h.2.1⟩
theorem all3 {xs : List V} {a b c : Da} (h : OpdAll K Z H xs [a, b, c]) : ∃ x y z, xs = [x, y, z] ∧ OpdR K Z H x a ∧ OpdR K Z H y b ∧ OpdR K Z H z c := by
  match xs, h with
  | [x, y, z], h => exact ⟨x, y, z, rfl, h.1, h.2.1, h.2.2.1⟩

/-- a value without objects: the heap stays -/
theorem give {Q : VK} (hz : Le Z H) (h : ∀ x Z' H', Ext Z H Z' H' → NewR K H Z' H' x v → Q x H') (n : NewR K H Z H x v) : Q x H := h x Z H (Ext.refl hz) n
theorem give_list {Q : VK} {vs : List V} {ds : List Da} (hz : Le Z H) (h : ∀ x Z' H', Ext Z H Z' H' → NewR K H Z' H' x (.own (.list ds)) → Q x H') (p : RpAll K Z vs ds) :
    ∀ a, H a = none → Q (.ref a) (upd H a (.lst vs)) := fun a ha => by
  have za : Z a = none := by
    cases e : Z a with
    | none => rfl
    | some u => rw [hz a u e] at ha; cases ha
  exact h _ _ _ (Ext.new hz ha) ⟨⟨a, _, rfl, za, upd_same, p⟩, fun b e => by cases e; exact ha⟩
theorem give_tup {Q : VK} {vs : List V} {ds : List Da} (hz : Le Z H) (h : ∀ x Z' H', Ext Z H Z' H' → NewR K H Z' H' x (.val (.tuple ds)) → Q x H') (p : RpAll K Z vs ds) :
    ∀ a, H a = none → Q (.ref a) (upd H a (.tup vs)) := fun a ha => by
  have E := Ext.frz (o := .tup vs) hz ha
  exact h _ _ _ E (.tup (.inl (.inl upd_same)) (RpAll.le E.zm _ _ p))

/-! ### ints -/
/-- a bound for the factors of a product; a power, so that it is never reckoned -/
def bigN : Nat := 2 ^ 499999
def mulOk (a b : Int) : Bool := decide (a.natAbs < 2 ^ 64) || decide (b.natAbs < 2 ^ 64) || (decide (a.natAbs < bigN) && decide (b.natAbs < bigN))
def divOk (b : Int) : Bool := decide (b ≠ 0) && decide (b.natAbs < 2 ^ 9000)
def powOk (a b : Int) : Bool := decide (0 ≤ b) && ((decide (b ≤ 1000000) && decide (a.natAbs < 2 ^ 64)) || (decide (b ≤ 1000) && decide (a.natAbs < 2 ^ 4000)))
theorem powBits {a n : Int} (h0 : 0 ≤ n) (hn : n ≤ 1000) (ha : a.natAbs < 2 ^ 4000) : (Builtin.Int.intBits a : Int) * n ≤ 2 ^ 27 := by
  have h1 : Builtin.Int.intBits a ≤ 4001 := by
    unfold Builtin.Int.intBits
    have := PySem.Flt.log2_lt_of (by decide) ha
    split <;> omega
  have h2 : (Builtin.Int.intBits a : Int) * n ≤ 4001 * 1000 := Int.mul_le_mul (by omega) hn h0 (by decide)
  omega
theorem mulOk_ok {a b : Int} (h : mulOk a b = true) : IntMulOk a b := by
  unfold mulOk at h
  simp only [Bool.or_eq_true, Bool.and_eq_true, decide_eq_true_eq] at h
  rcases h with (h | h) | ⟨h1, h2⟩
  · exact CMul.ok (.inl (by omega))
  · exact CMul.ok (.inr (by omega))
  · exact (wide_mul (a := 499999) (b := 499999) h1 h2 (by decide) (by decide) (by decide)).ok
section
variable {X : Cx}
def rMulI : R2 := rI (fun i j => mulOk i j = true) fun i j => .int (i * j)
theorem op_mulI : OpR X (binaryOp .Mult) rMulI := opI fun _ _ _ _ _ _ _ hc q => mul_int q (mulOk_ok hc)
def rDivI : R2 := rI (fun _ j => divOk j = true) fun i j => .int (i.fdiv j)
theorem op_divI : OpR X (binaryOp .FloorDiv) rDivI := opI fun i j _ _ _ _ _ hc q => by
  unfold divOk at hc
  simp only [Bool.and_eq_true, decide_eq_true_eq] at hc
  exact floordiv_int hc.1 q (.inl (PyProof.noPylong_of_log2 (PySem.Flt.log2_lt_of (by decide) hc.2)))
def rModI : R2 := rI (fun _ j => j ≠ 0) fun i j => .int (i.fmod j)
def rPowI : R2 := rI (fun i j => powOk i j = true) fun i j => .int (i ^ j.toNat)
theorem op_powI : OpR X (binaryOp .Pow) rPowI := opI fun _ _ _ _ _ _ _ hc q => by
  unfold powOk at hc
  simp only [Bool.and_eq_true, Bool.or_eq_true, decide_eq_true_eq] at hc
  rcases hc with ⟨h0, h | h⟩
  · exact pow_int_small h0 h.1 h.2 q
  · exact pow_int h0 (powBits h0 h.1 h.2) q
/-- list + list, both known to the layer -/
def rCatL : R2 := fun x y H Q => ∃ l b xs zs, x = .ref l ∧ y = .ref b ∧ Rd H l (.lst xs) ∧ Rd H b (.lst zs) ∧ xs.length + zs.length ≤ sizeLine ∧ ∀ p, H p = none → Q (.ref p) (upd H p (.lst (xs ++ zs)))
theorem rd_lst {pins : List (Addr × Obj)} {σ : L2.St} {H : Hp} {s : Shared} {l : Addr} {xs : List V} (I : Inv X pins σ H s) (h : Rd H l (.lst xs)) :
    xs.length ≤ sizeLine ∧ ∃ (its : List Value) (n : Nat), Vals xs its ∧ xs.length = its.length ∧ s.heap.get? l = some { cls := .type "list", data := .seq its.toArray n } := by
  obtain ⟨z, its, n, r, e⟩ := h.ok I.hok
  exact ⟨z, its, n, r, r.length, e⟩
theorem op_catL : OpR X (binaryOp .Add) rCatL := by
  intro pins s σ H x y v u Q I rx ry h
  obtain ⟨l, b, xs, zs, rfl, rfl, hH, hB, hz, q⟩ := h
  cases rx
  cases ry
  obtain ⟨z, its, n, r, hl, e⟩ := rd_lst I hH
  obtain ⟨z2, its2, n2, r2, hl2, e2⟩ := rd_lst I hB
  refine PySem.P.add_list e e2 ?_ (by rw [List.size_toArray, List.size_toArray]; omega)
  rw [show its.toArray ++ its2.toArray = (its ++ its2).toArray by simp]
  exact ⟨.ref _, _, I.lnew (t' := s.toks) (r.append r2) (by rw [List.length_append]; omega), rfl, q _ I.fresh⟩
def rStrCat : R2 := fun x y H Q => ∃ i j, x = .str i ∧ y = .str j ∧ i.length + j.length ≤ sizeLine ∧ Q (.str (i ++ j)) H
def rAddU (K : PySem.W.Frag) : R2 := fun x y H Q => rI0 (fun i j => .int (i + j)) x y H Q ∨ rStrCat x y H Q ∨ rCatL x y H Q ∨ rCatA K x y H Q
theorem op_addU : OpR X (binaryOp .Add) (rAddU X.K) := op_add.or (op_add_str.or (op_catL.or op_catA))
end

def at2 (t : R2) : List V → Hp → VK → Prop := fun xs H Q => ∃ x y, xs = [x, y] ∧ t x y H Q

def opAdd : List Da → Option Vl
  | [.int a, .int b] => some (.val (.int (a + b)))
  | [.str a, .str b] => if a.length + b.length ≤ 16777216 then some (.val (.str (a ++ b))) else none
  | [.list a, .list b] => if a.length + b.length ≤ 16777216 then some (.own (.list (a ++ b))) else none
  | [.tuple a, .tuple b] => if a.length + b.length ≤ 16777216 then some (.val (.tuple (a ++ b))) else none
  | _ => none
theorem szL : sizeLine = 16777216 := sizeLine_eq
theorem opS_add : OpS K opAdd (at2 (rAddU K)) := by
  intro xs ds v Z H Q hz ha hf hq
  unfold opAdd at hf
  split at hf
  · cases hf
    obtain ⟨x, y, rfl, h1, h2⟩ := all2 ha
    exact ⟨x, y, rfl, .inl ⟨_, _, h1.int, h2.int, give hz hq (.int _)⟩⟩
  · split at hf
    · rename_i hl
      cases hf
      obtain ⟨x, y, rfl, h1, h2⟩ := all2 ha
      exact ⟨x, y, rfl, .inr (.inl ⟨_, _, h1.str, h2.str, by rw [szL]; exact hl, give hz hq (.str _)⟩)⟩
    · cases hf
  · split at hf
    · rename_i hl
      cases hf
      obtain ⟨x, y, rfl, h1, h2⟩ := all2 ha
      obtain ⟨l, vs, e1, hl1, p1⟩ := h1.lst hz
      obtain ⟨b, ws, e2, hl2, p2⟩ := h2.lst hz
      exact ⟨x, y, rfl, .inr (.inr (.inl ⟨l, b, vs, ws, e1, e2, hl1, hl2, by rw [szL, p1.length, p2.length]; exact hl, give_list hz hq (p1.append p2)⟩))⟩
    · cases hf
  · split at hf
    · rename_i hl
      cases hf
      obtain ⟨x, y, rfl, h1, h2⟩ := all2 ha
      have r1 := h1.tupZ
      have r2 := h2.tupZ
      obtain ⟨l, vs, e1, hl1, p1⟩ := h1.tup hz
      obtain ⟨b, ws, e2, hl2, p2⟩ := h2.tup hz
      refine ⟨x, y, rfl, .inr (.inr (.inr ⟨l, b, vs, ws, e1, e2, hl1, hl2, by rw [szL, p1.length, p2.length]; exact hl, fun e => ?_, fun _ e => ?_, fun _ _ => give_tup hz hq (p1.append p2)⟩))⟩
      · subst e
        cases p1
        rw [← e2]; exact give hz hq (by simpa [NewR] using r2)
      · subst e
        cases p2
        rw [← e1]; exact give hz hq (by simpa [NewR] using r1)
    · cases hf
  · cases hf
def opSub : List Da → Option Vl
  | [.int a, .int b] => some (.val (.int (a - b)))
  | _ => none
theorem opS_sub : OpS K opSub (at2 (rI0 fun i j => .int (i - j))) := by
  intro xs ds v Z H Q hz ha hf hq
  unfold opSub at hf
  split at hf
  · cases hf
    obtain ⟨x, y, rfl, h1, h2⟩ := all2 ha
    exact ⟨x, y, rfl, ⟨_, _, h1.int, h2.int, give hz hq (.int _)⟩⟩
  · cases hf
def opDiv : List Da → Option Vl
  | [.int a, .int b] => if divOk b then some (.val (.int (a.fdiv b))) else none
  | _ => none
theorem opS_div : OpS K opDiv (at2 rDivI) := by
  intro xs ds v Z H Q hz ha hf hq
  unfold opDiv at hf
  split at hf
  · split at hf
    · rename_i hc
      cases hf
      obtain ⟨x, y, rfl, h1, h2⟩ := all2 ha
      exact ⟨x, y, rfl, ⟨_, _, h1.int, h2.int, hc, give hz hq (.int _)⟩⟩
    · cases hf
  · cases hf
def opMod : List Da → Option Vl
  | [.int a, .int b] => if b = 0 then none else some (.val (.int (a.fmod b)))
  | _ => none
theorem opS_mod : OpS K opMod (at2 rModI) := by
  intro xs ds v Z H Q hz ha hf hq
  unfold opMod at hf
  split at hf
  · split at hf
    · cases hf
    · rename_i hc
      cases hf
      obtain ⟨x, y, rfl, h1, h2⟩ := all2 ha
      exact ⟨x, y, rfl, ⟨_, _, h1.int, h2.int, hc, give hz hq (.int _)⟩⟩
  · cases hf
def opPow : List Da → Option Vl
  | [.int a, .int b] => if powOk a b then some (.val (.int (a ^ b.toNat))) else none
  | _ => none
theorem opS_pow : OpS K opPow (at2 rPowI) := by
  intro xs ds v Z H Q hz ha hf hq
  unfold opPow at hf
  split at hf
  · split at hf
    · rename_i hc
      cases hf
      obtain ⟨x, y, rfl, h1, h2⟩ := all2 ha
      exact ⟨x, y, rfl, ⟨_, _, h1.int, h2.int, hc, give hz hq (.int _)⟩⟩
    · cases hf
  · cases hf
end
end Mi

set_option maxHeartbeats 4000000
namespace PySem.MiR
open PySem PySem.Spec PyProof.Rows
theorem noFill_tup : fillsNumberSlot (.type "tuple") "mul" = pure false :=
  fillsNumberSlot_seq (r := some (.builtin "tuple.__rmul__")) (id := "tuple.__mul__") F.slot_tuple_mul.lookup (by decide +kernel) F.slot_tuple_rmul.lookup (by decide +kernel)
theorem repeat_tup : seqRepeat? (.type "tuple") = pure (some (.builtin "tuple.__mul__")) := by
  unfold seqRepeat?
  have h1 := seqSlot_of (T := "tuple") (name := "__mul__") (id := "tuple.__mul__") F.slot_tuple_mul.lookup (by decide +kernel)
  have h2 := seqSlot_of (T := "tuple") (name := "__rmul__") (id := "tuple.__rmul__") F.slot_tuple_rmul.lookup (by decide +kernel)
  rw [h1, h2]
  rfl
theorem int_rmul_tup (a : Int) (t : Tok) (l : Addr) (vs : Array Value) (n : Nat) (dd : Option Addr) (sl : Array (Option Value)) :
    Meets (Builtin.«int.__rmul__» ⟨[.int a t, .ref l], []⟩) (fun _ R st => st.heap.get? l = some { cls := .type "tuple", dict := dd, data := .seq vs n, slots := sl } ∧ R (.ok (.ret Value.notImplemented)) st) :=
  .of_wp fun prog w A R s h => by
    obtain ⟨hp, g, d, tk, os⟩ := s
    obtain ⟨hl, h⟩ := h
    wp_walk using wpAny_loadPart' hl
    exact ⟨_, rfl, h⟩
theorem tm_same (l : Addr) (vs : Array Value) (n : Nat) (dd : Option Addr) (sl : Array (Option Value)) (k : Int) (u : Tok) (c0 : (decide (k < -(2 ^ 63)) || decide (k ≥ 2 ^ 63)) = false) (c1 : (vs.isEmpty || k == 1) = true) :
    Meets (Builtin.«tuple.__mul__» ⟨[.ref l, .int k u], []⟩) (fun _ R st => st.heap.get? l = some { cls := .type "tuple", dict := dd, data := .seq vs n, slots := sl } ∧ R (.ok (.ret (Value.ref l))) st) :=
  .of_wp fun prog w A R s h => by
    obtain ⟨hp, g, d, tk, os⟩ := s
    obtain ⟨hl, h⟩ := h
    have fi := AutoSeq1.idx_int
    wp_walk using wpAny_loadPart' hl
    repeat (first
      | (refine wpAny_ite_false (decide_eq_false (by rw [c0]; exact Bool.false_ne_true)) ?_; wp_walk using wpAny_loadPart' hl)
      | (refine wpAny_ite_true (decide_eq_true c1) ?_; wp_walk using wpAny_loadPart' hl))
    exact ⟨_, rfl, h⟩
theorem tm_none (l : Addr) (vs : Array Value) (n : Nat) (dd : Option Addr) (sl : Array (Option Value)) (k : Int) (u : Tok) (c0 : (decide (k < -(2 ^ 63)) || decide (k ≥ 2 ^ 63)) = false) (c1 : (vs.isEmpty || k == 1) = false) (c2 : (decide (k ≤ 0) || vs.isEmpty) = true) :
    Meets (Builtin.«tuple.__mul__» ⟨[.ref l, .int k u], []⟩) (fun _ R st => st.heap.get? l = some { cls := .type "tuple", dict := dd, data := .seq vs n, slots := sl } ∧
      R (.ok (.ret (Value.ref st.heap.objs.size))) { st with heap := st.heap.push { cls := Value.type "tuple", data := Data.seq #[] }, toks := st.toks }) :=
  .of_wp fun prog w A R s h => by
    obtain ⟨hp, g, d, tk, os⟩ := s
    obtain ⟨hl, h⟩ := h
    have fi := AutoSeq1.idx_int
    wp_walk using wpAny_loadPart' hl
    repeat (first
      | (refine wpAny_ite_false (decide_eq_false (by rw [c0]; exact Bool.false_ne_true)) ?_; wp_walk using wpAny_loadPart' hl)
      | (refine wpAny_ite_false (decide_eq_false (by rw [c1]; exact Bool.false_ne_true)) ?_; wp_walk using wpAny_loadPart' hl)
      | (refine wpAny_ite_true (decide_eq_true c2) ?_; wp_walk using wpAny_loadPart' hl))
    exact ⟨_, rfl, h⟩
theorem tm_more (l : Addr) (vs : Array Value) (n : Nat) (dd : Option Addr) (sl : Array (Option Value)) (k : Int) (u : Tok) (c0 : (decide (k < -(2 ^ 63)) || decide (k ≥ 2 ^ 63)) = false) (c1 : (vs.isEmpty || k == 1) = false) (c2 : (decide (k ≤ 0) || vs.isEmpty) = false)
    (c3 : ¬ ((vs.size : Nat) : Int) * k > (2 ^ 63 - 1) / 8) (c4 : Builtin.Tuple.tupleTooMany (((vs.size : Nat) : Int) * k) = false) (fit : (List.foldl (fun p q => p ++ q) #[] (List.replicate k.toNat vs)).size ≤ sizeLine) :
    Meets (Builtin.«tuple.__mul__» ⟨[.ref l, .int k u], []⟩) (fun _ R st => st.heap.get? l = some { cls := .type "tuple", dict := dd, data := .seq vs n, slots := sl } ∧
      R (.ok (.ret (Value.ref st.heap.objs.size))) { st with heap := st.heap.push { cls := Value.type "tuple", data := Data.seq (List.foldl (fun p q => p ++ q) #[] (List.replicate k.toNat vs)) }, toks := st.toks }) :=
  .of_wp fun prog w A R s h => by
    obtain ⟨hp, g, d, tk, os⟩ := s
    obtain ⟨hl, h⟩ := h
    have fi := AutoSeq1.idx_int
    wp_walk using wpAny_loadPart' hl
    repeat (first
      | (refine wpAny_ite_false (decide_eq_false (by rw [c0]; exact Bool.false_ne_true)) ?_; wp_walk using wpAny_loadPart' hl)
      | (refine wpAny_ite_false (decide_eq_false (by rw [c1]; exact Bool.false_ne_true)) ?_; wp_walk using wpAny_loadPart' hl)
      | (refine wpAny_ite_false (decide_eq_false (by rw [c2]; exact Bool.false_ne_true)) ?_; wp_walk using wpAny_loadPart' hl)
      | (refine wpAny_ite_false (decide_eq_false c3) ?_; wp_walk using wpAny_loadPart' hl)
      | (refine wpAny_ite_false (decide_eq_false (by rw [c4]; exact Bool.false_ne_true)) ?_; wp_walk using wpAny_loadPart' hl)
      | (refine wpAny_ite_false (decide_eq_false (Nat.not_lt.mpr fit)) ?_; wp_walk using wpAny_loadPart' hl))
    exact ⟨_, rfl, h⟩
end PySem.MiR
namespace Mi
open PySem PySem.Spec PyProof.Rows L2

/-! ## a list, a tuple, a text, so many times -/
def repL {α : Type} (xs : List α) (k : Int) : List α := (List.replicate k.toNat xs).flatten
def repS (z : Str) (k : Int) : Str := ⟨(repL z.cps.toList k).toArray⟩
theorem repL_length {α : Type} (xs : List α) (k : Int) : (repL xs k).length = k.toNat * xs.length := by
  unfold repL
  rw [PyProof.Rows.lm_len_rep_flat]
theorem repL_one {α : Type} (xs : List α) : repL xs 1 = xs := by
  show (List.replicate 1 xs).flatten = xs
  rw [List.replicate_succ, List.replicate_zero, List.flatten_cons, List.flatten_nil, List.append_nil]
theorem repL_nil {α : Type} (k : Int) : repL ([] : List α) k = [] := List.eq_nil_of_length_eq_zero (by rw [repL_length]; rfl)
theorem rep_fold {α : Type} (a : Array α) : ∀ (m : Nat) (b : Array α), List.foldl (fun p q => p ++ q) b (List.replicate m a) = b ++ ((List.replicate m a.toList).flatten).toArray
  | 0, b => by simp
  | m + 1, b => by
    rw [List.replicate_succ, List.foldl_cons, rep_fold a m (b ++ a), List.replicate_succ, List.flatten_cons]
    apply Array.toList_inj.mp
    simp
theorem rep_fold0 {α : Type} (a : Array α) (m : Nat) : List.foldl (fun p q => p ++ q) #[] (List.replicate m a) = ((List.replicate m a.toList).flatten).toArray := by
  rw [rep_fold]; simp
theorem kmul {n : Nat} {k : Int} (h : 0 ≤ k) (h2 : n * k.toNat ≤ 16777216) : (n : Int) * k ≤ 16777216 := by
  have e : (k.toNat : Int) = k := by omega
  have h3 : ((n * k.toNat : Nat) : Int) ≤ 16777216 := by omega
  rw [Int.natCast_mul, e] at h3
  exact h3
def repIn (n : Nat) (k : Int) : Bool := decide (-(2 ^ 62) ≤ k) && decide (k < 2 ^ 62) && decide (n * k.toNat ≤ 16777216)
section
variable {X : Cx}
def rRepS : R2 := fun x y H Q => ∃ z k, x = .str z ∧ y = .int k ∧ repIn z.length k = true ∧ Q (.str (repS z k)) H
theorem op_repS : OpR X (binaryOp .Mult) rRepS := by
  intro pins s σ H x y v u Q I rx ry h
  obtain ⟨z, k, rfl, rfl, hk, q⟩ := h
  obtain ⟨t, rfl⟩ := rx
  obtain ⟨t', rfl⟩ := ry
  unfold repIn at hk
  simp only [Bool.and_eq_true, decide_eq_true_eq] at hk
  obtain ⟨⟨k1, k2⟩, k3⟩ := hk
  have zl : z.cps.toList.length = z.length := by show z.cps.toList.length = z.cps.size; simp
  have big : ∀ {n : Int}, 1 ≤ k → (z.length : Int) ≤ 16777216 / k := fun {n} h1 => by
    rw [Int.le_ediv_iff_mul_le (by omega)]
    exact kmul (by omega) k3
  refine PySem.P.mul_str (by rw [decide_eq_false (by omega), decide_eq_false (by omega)]; rfl) (fun h1 _ => ?_) (fun h1 _ => ?_) ?_
  · have h2 := big (n := 0) (by omega)
    have h3 : (16777216 : Int) / k ≤ (2 ^ 63 - 1) / k := Int.ediv_le_ediv (by omega) (by decide)
    omega
  · unfold Builtin.Str.tooLong
    rw [sizeLine_eq]
    exact decide_eq_false (by omega)
  · by_cases c : k < 1
    · rw [if_pos c]
      have e : repS z k = Str.empty := by
        unfold repS repL
        rw [show k.toNat = 0 by omega]
        rfl
      rw [e] at q
      exact ⟨by decide, .str Str.empty, H, I.tok _, ⟨_, rfl⟩, q⟩
    · rw [if_neg c]
      by_cases c2 : (k == 1 || z.length == 0) = true
      · rw [if_pos c2]
        have e : repS z k = z := by
          unfold repS
          rw [Bool.or_eq_true, beq_iff_eq, beq_iff_eq] at c2
          rcases c2 with c2 | c2
          · rw [c2, repL_one]
          · have e0 : z.cps.toList = [] := List.eq_nil_of_length_eq_zero (by rw [zl]; exact c2)
            rw [e0, repL_nil, ← e0]
        rw [e] at q
        exact ⟨.str z, H, I, ⟨_, rfl⟩, q⟩
      · rw [if_neg c2]
        have e : (⟨List.foldl (· ++ ·) #[] (List.replicate k.toNat z.cps)⟩ : Str) = repS z k := by
          unfold repS repL
          exact congrArg Str.mk (rep_fold0 z.cps k.toNat)
        refine ⟨?_, .str (repS z k), H, I.tok _, ⟨_, by rw [← e]⟩, q⟩
        rw [e]
        show (repL z.cps.toList k).toArray.size ≤ sizeLine
        rw [List.size_toArray, repL_length, sizeLine_eq, zl, Nat.mul_comm]
        exact k3
def rRepL : R2 := fun x y H Q => ∃ l k xs, x = .ref l ∧ y = .int k ∧ Rd H l (.lst xs) ∧ repIn xs.length k = true ∧ ∀ p, H p = none → Q (.ref p) (upd H p (.lst (repL xs k)))
theorem op_repL : OpR X (binaryOp .Mult) rRepL := by
  intro pins s σ H x y v u Q I rx ry h
  obtain ⟨l, k, xs, rfl, rfl, hH, hk, q⟩ := h
  cases rx
  obtain ⟨t, rfl⟩ := ry
  unfold repIn at hk
  simp only [Bool.and_eq_true, decide_eq_true_eq] at hk
  obtain ⟨⟨k1, k2⟩, k3⟩ := hk
  obtain ⟨z, its, n, r, hl, e⟩ := rd_lst I hH
  have small : its.toArray.size * k.toNat ≤ 16777216 := by rw [List.size_toArray, ← hl]; exact k3
  have new : List.foldl (fun p q => p ++ q) #[] (List.replicate (if its.toArray.isEmpty = true then 0 else k.toNat) its.toArray) = (repL its k).toArray := by
    rw [rep_fold0]
    unfold repL
    cases its with
    | nil => simp
    | cons a r' => rw [if_neg (by simp)]
  refine wpAny_binaryOp_repeat_ref (T := "list") (U := "int") (by decide) ⟨_, e, rfl⟩ (fun s' => typeIs_int s' k t) noFill_list_mul F.fills_int_mul F.slot_int_rmul repeat_list F.slot_int_index.lookup
    (call_meets F.slot_int_rmul (typeIs_int s k t) F.entry_int_rmul (F.args_int_rmul_2 _ _) (int___rmul___int_list k t l its.toArray n)
      ⟨e, rfl, ⟨_, e, rfl⟩, call_meets F.slot_list_mul ⟨_, e, rfl⟩ F.entry_list_mul (F.args_list_mul_2 _ _) (AutoListH.list___mul___list_int_3 l its.toArray n k t
        (by rw [fitsIndex_both (by omega) (by omega)]; exact Bool.false_ne_true) (by omega) (by rw [notLongL (by rw [sizeLine_eq]; exact small)]; exact Bool.false_ne_true)) ⟨e, ?_⟩⟩)
  rw [new]
  exact ⟨.ref _, _, I.lnew (t' := s.toks) (r.rep k.toNat) (by show (repL xs k).length ≤ _; rw [repL_length, sizeLine_eq, Nat.mul_comm]; exact k3), rfl, q _ I.fresh⟩
def rRepA (K : PySem.W.Frag) : R2 := fun x y H Q => ∃ l k xs, x = .ref l ∧ y = .int k ∧ SqT K H l xs ∧ repIn xs.length k = true ∧ (repL xs k = xs → Q (.ref l) H) ∧ ∀ p, H p = none → Q (.ref p) (upd H p (.tup (repL xs k)))
theorem op_repA : OpR X (binaryOp .Mult) (rRepA X.K) := by
  intro pins s σ H x y v u Q I rx ry h
  obtain ⟨l, k, xs, rfl, rfl, hT, hk, q1, q2⟩ := h
  cases rx
  obtain ⟨t, rfl⟩ := ry
  unfold repIn at hk
  simp only [Bool.and_eq_true, decide_eq_true_eq] at hk
  obtain ⟨⟨k1, k2⟩, k3⟩ := hk
  obtain ⟨its, r, ⟨⟨cls, dd, data, sl⟩, ho, hc, n, hd⟩, hs⟩ := I.tuple hT
  simp only at hc hd
  subst hc hd
  have hle := r.length
  have sz : its.toArray.size = xs.length := by rw [List.size_toArray, hle]
  have c0 : (decide (k < -(2 ^ 63)) || decide (k ≥ 2 ^ 63)) = false := by
    rw [decide_eq_false (by omega), decide_eq_false (by omega)]; rfl
  have go : ∀ {Q' : Value → Shared → Prop}, wpAny (model X.prog X.w) X.A (call (.builtin "tuple.__mul__") [.ref l, .int k t]) Q' X.xe s → wpAny (model X.prog X.w) X.A (binaryOp .Mult (.ref l) (.int k t)) Q' X.xe s := fun {Q'} hq =>
    wpAny_binaryOp_repeat_ref (T := "tuple") (U := "int") (by decide) ⟨_, ho, rfl⟩ (fun s' => typeIs_int s' k t) PySem.MiR.noFill_tup PySem.F.fills_int_mul F.slot_int_rmul PySem.MiR.repeat_tup F.slot_int_index.lookup
      (call_meets F.slot_int_rmul (typeIs_int s k t) F.entry_int_rmul (F.args_int_rmul_2 _ _) (PySem.MiR.int_rmul_tup k t l its.toArray n dd sl) ⟨ho, rfl, ⟨_, ho, rfl⟩, hq⟩)
  cases c1 : (its.toArray.isEmpty || k == 1) with
  | true =>
    refine go (call_meets F.slot_tuple_mul ⟨_, ho, rfl⟩ F.entry_tuple_mul (F.args_tuple_mul_2 _ _) (PySem.MiR.tm_same l its.toArray n dd sl k t c0 c1) ⟨ho, ?_⟩)
    refine ⟨.ref l, H, I, rfl, q1 ?_⟩
    rw [Bool.or_eq_true, beq_iff_eq] at c1
    rcases c1 with c1 | c1
    · have : its = [] := by simpa using c1
      rw [this] at hle
      have e : xs = [] := List.eq_nil_of_length_eq_zero (by simpa using hle)
      rw [e, repL_nil]
    · rw [c1, repL_one]
  | false =>
    have ne : its.toArray.isEmpty = false := by
      rw [Bool.or_eq_false_iff] at c1; exact c1.1
    cases c2 : (decide (k ≤ 0) || its.toArray.isEmpty) with
    | true =>
      refine go (call_meets F.slot_tuple_mul ⟨_, ho, rfl⟩ F.entry_tuple_mul (F.args_tuple_mul_2 _ _) (PySem.MiR.tm_none l its.toArray n dd sl k t c0 c1 c2) ⟨ho, ?_⟩)
      rw [ne, Bool.or_false, decide_eq_true_eq] at c2
      have e : repL xs k = [] := by unfold repL; rw [show k.toNat = 0 by omega]; rfl
      rw [e] at q2
      exact ⟨.ref s.heap.objs.size, _, I.laid (t' := s.toks) (o := .tup []) (fun b ob q => Heap.get?_push_of_some _ q) (Nat.le_refl _) ⟨by decide, _, .nil, IsTup.new _ _⟩, rfl, q2 _ (I.hok.fresh (Nat.le_refl _))⟩
    | false =>
      rw [ne, Bool.or_false, decide_eq_false_iff_not] at c2
      have kn : k = (k.toNat : Int) := by omega
      have m1 : ((its.toArray.size : Nat) : Int) * k ≤ 16777216 := by
        rw [sz]
        exact kmul (by omega) k3
      have fit : (List.foldl (fun p q => p ++ q) #[] (List.replicate k.toNat its.toArray)).size ≤ sizeLine := by
        rw [rep_fold0, List.size_toArray]
        show (List.replicate k.toNat its).flatten.length ≤ _
        rw [PyProof.Rows.lm_len_rep_flat, ← hle, sizeLine_eq, Nat.mul_comm]
        exact k3
      refine go (call_meets F.slot_tuple_mul ⟨_, ho, rfl⟩ F.entry_tuple_mul (F.args_tuple_mul_2 _ _) (PySem.MiR.tm_more l its.toArray n dd sl k t c0 c1 (by rw [ne, Bool.or_false]; exact decide_eq_false c2) (by omega) (by
        unfold Builtin.Tuple.tupleTooMany
        rw [sizeLine_eq]
        exact decide_eq_false (by omega)) fit) ⟨ho, ?_⟩)
      rw [rep_fold0]
      refine ⟨.ref s.heap.objs.size, _, I.laid (t' := s.toks) (o := .tup (repL xs k)) (fun b ob q => Heap.get?_push_of_some _ q) (Nat.le_refl _) ?_, rfl, q2 _ (I.hok.fresh (Nat.le_refl _))⟩
      exact ⟨by rw [repL_length, sizeLine_eq, Nat.mul_comm]; exact k3, _, r.rep k.toNat, IsTup.new _ _⟩
def rMulU (K : PySem.W.Frag) : R2 := fun x y H Q => rMulI x y H Q ∨ rRepS x y H Q ∨ rRepL x y H Q ∨ rRepA K x y H Q
theorem op_mulU : OpR X (binaryOp .Mult) (rMulU X.K) := op_mulI.or (op_repS.or (op_repL.or op_repA))
end
section
variable {K : PySem.W.Frag} {Z H : Hp}
theorem RpAll.rep {vs : List V} {ds : List Da} (h : RpAll K Z vs ds) : ∀ m : Nat, RpAll K Z (List.replicate m vs).flatten (List.replicate m ds).flatten
  | 0 => .nil
  | m + 1 => by
    rw [List.replicate_succ, List.replicate_succ, List.flatten_cons, List.flatten_cons]
    exact h.append (RpAll.rep h m)
def opMul : List Da → Option Vl
  | [.int a, .int b] => if mulOk a b then some (.val (.int (a * b))) else none
  | [.str z, .int k] => if repIn z.length k then some (.val (.str (repS z k))) else none
  | [.list ds, .int k] => if repIn ds.length k then some (.own (.list (repL ds k))) else none
  | [.tuple ds, .int k] => if repIn ds.length k then some (.val (.tuple (repL ds k))) else none
  | _ => none
theorem opS_mul : OpS K opMul (at2 (rMulU K)) := by
  intro xs ds v Z H Q hz ha hf hq
  unfold opMul at hf
  split at hf
  · rename_i a b
    split at hf
    · rename_i c
      cases hf
      obtain ⟨x, y, rfl, h1, h2⟩ := all2 ha
      exact ⟨x, y, rfl, .inl ⟨_, _, h1.int, h2.int, c, give hz hq (.int _)⟩⟩
    · cases hf
  · split at hf
    · rename_i c
      cases hf
      obtain ⟨x, y, rfl, h1, h2⟩ := all2 ha
      exact ⟨x, y, rfl, .inr (.inl ⟨_, _, h1.str, h2.int, c, give hz hq (.str _)⟩)⟩
    · cases hf
  · split at hf
    · rename_i c
      cases hf
      obtain ⟨x, y, rfl, h1, h2⟩ := all2 ha
      obtain ⟨l, vs, e1, hl1, p1⟩ := h1.lst hz
      exact ⟨x, y, rfl, .inr (.inr (.inl ⟨l, _, vs, e1, h2.int, hl1, by rw [p1.length]; exact c, give_list hz hq (p1.rep _)⟩))⟩
    · cases hf
  · split at hf
    · rename_i ds k c
      cases hf
      obtain ⟨x, y, rfl, h1, h2⟩ := all2 ha
      have r1 := h1.tupZ
      obtain ⟨l, vs, e1, hl1, p1⟩ := h1.tup hz
      refine ⟨x, y, rfl, .inr (.inr (.inr ⟨l, _, vs, e1, h2.int, hl1, by rw [p1.length]; exact c, fun e => ?_, give_tup hz hq (p1.rep _)⟩))⟩
      have e' : repL ds k = ds := by
        have l1 := p1.length
        have l2 : (repL vs k).length = vs.length := by rw [e]
        rw [repL_length] at l2
        have l3 : k.toNat * ds.length = ds.length := by rw [← l1]; exact l2
        unfold repL
        by_cases c0 : ds = []
        · subst c0; simp
        · have : 0 < ds.length := List.length_pos_iff.mpr c0
          have : k.toNat = 1 := Nat.eq_of_mul_eq_mul_right this (by rw [l3]; simp)
          rw [this]; simp
      rw [← e1]
      exact give hz hq (by rw [e']; simpa [NewR] using r1)
    · cases hf
  · cases hf
end
end Mi

set_option maxHeartbeats 2000000
/-! ## Mi33: lambdas without parameters, handed to a def; what becomes of the tables is told -/
namespace PySem.MiL
open PySem PySem.Spec PyProof.Rows L2 LamX
/-- but for the told tables all stays -/
def Grw (T : List (Addr × Str)) (H H1 : Hp) : Prop := ∀ b o, H b = some o → (∀ q, (b, q) ∉ T) → H1 b = some o
section
variable {X : Cx} {pins : List (Addr × Obj)} {σ : L2.St} {H : Hp} {s : Shared}
/-- the code object is entered into the table -/
theorem grw_in {P c' : Addr} {q : Str} {ps more : Array Value} {b : Addr} {o : HO} (nC : H c' = none) (e : H b = some o) (n1 : b ≠ P) : upd (upd H P (.tbl (ps ++ more))) c' (CodeO c' q) b = some o := by
  rw [upd_ne (ne_of_none e nC), upd_ne n1]
  exact e
theorem lam_mk {T : List (Addr × Str)} {c P : Addr} {params : Arguments} {body : Expr} {scope : Scope} {pos : Pos} {E : Value → Shared → Prop} {Q : Value → Shared → Prop} (J : Inv X pins σ H s) (tb : TabB X.base X.mg c P) (hcode : X.env.code = .ref c)
    (inT : (P, X.env.qual ++ "<lambda>") ∈ T) (one : ∀ p ∈ T, p.1 = P → p.2 = X.env.qual ++ "<lambda>") (tabs : Tabs T H) (nodef : defaultsOf params X.env = ([], [])) (caught : ∀ y ∈ scope.names, y.2 = .free → ∃ c, X.env.cells.lookup y.1 = some c)
    (go : ∀ (f c' : Addr) (pm ctv : Value) (H1 : Hp) (s' : Shared), Inv X pins σ H1 s' → Grw T H H1 → Tabs T H1 →
      s'.heap.get? f = some (PySem.W.kla_obj "<lambda>" (X.env.qual ++ "<lambda>") params body scope (cloFrom X.env.cells scope.names []) pm c' ctv) → H1 f = none → f ∉ frs X.stack → H1 c' = some (CodeO c' (X.env.qual ++ "<lambda>")) → Q (.ref f) s') :
    wpAny (model X.prog X.w) X.A (eval (.Lambda params body scope pos) X.env) Q E s := by
  obtain ⟨ps, atP, triples, known⟩ := tabs _ inT
  have bm : s.heap.BuiltinsAt X.mg P := tb.bm.keeps J.bk
  have objP : s.heap.get? P = some { cls := .none, data := .fields ps } := J.hok P _ atP
  have notFr : ∀ a, s.heap.objs.size ≤ a → a ∉ frs X.stack := fun a ha z => (List.mem_cons.mp (J.stkSub _ z)).elim
    (fun e => Nat.lt_irrefl _ (Nat.lt_of_lt_of_le (e ▸ J.lt) ha)) fun e => J.nofs ha e
  refine PySem.W.kla_eval nodef ?_
  match hc : codeAmong pos ps.toList with
  | some cv =>
    obtain ⟨c', rfl, at'⟩ := known pos cv hc
    refine PySem.W.kla_makeFunctionHit (mg := X.mg) (c := c) (P := P) (ps := ps) (closure_ok caught) J.ok.glob (J.mod.glob.keeps J.bk) hcode (tb.code.keeps J.bk) objP triples hc bm fun ctv h' tk keep size => ?_
    exact go _ c' _ ctv H _ (J.kept (t' := tk) fun b o e => Heap.get?_push_of_some _ (keep b o e)) (fun _ _ e _ => e) tabs (Heap.get?_push_size _ rfl) (J.hok.fresh size) (notFr _ size) at'
  | none =>
    refine PySem.W.kla_makeFunction (mg := X.mg) (c := c) (P := P) (ps := ps) (closure_ok caught) J.ok.glob (J.mod.glob.keeps J.bk) hcode (tb.code.keeps J.bk) objP triples hc tb.gP bm fun c' ctv h' tk keep ge lt rec new => ?_
    obtain ⟨_, oc, vs, t, e2, hoc, hd, hv⟩ := rec
    cases e2
    have size : s.heap.objs.size ≤ h'.objs.size := Nat.le_trans ge (Nat.le_of_lt lt)
    have nC : H c' = none := J.hok.fresh ge
    let fo := PySem.W.kla_obj "<lambda>" (X.env.qual ++ "<lambda>") params body scope (cloFrom X.env.cells scope.names []) ((X.mg "__name__").getD .none) c' ctv
    have J1 := inv_table (more := #[rawInt pos.line, rawInt pos.col, .ref c']) (t' := tk) (h' := h'.push fo) J atP (fun b o nb e => Heap.get?_push_of_some _ (keep b o nb e)) (Heap.get?_push_of_some _ new) ge
      ⟨oc, vs, t, Heap.get?_push_of_some _ hoc, hd, hv⟩
    have ne : ∀ {b : Addr} {q : Str}, H b = some (CodeO b q) → b ≠ P := fun {b q} e z => by
      subst z
      exact codeO_ne ps (Option.some.inj (e.symm.trans atP))
    have list : (ps ++ #[rawInt pos.line, rawInt pos.col, .ref c']).toList = ps.toList ++ [rawInt pos.line, rawInt pos.col, .ref c'] := by simp
    refine go h'.objs.size c' _ ctv _ _ J1 (fun b o e n => grw_in nC e fun z => n (X.env.qual ++ "<lambda>") (by rw [z]; exact inT)) (fun p hp => ?_) (Heap.get?_push_size _ rfl) ?_ (notFr _ size) upd_same
    · by_cases eP : p.1 = P
      · rw [one p hp eP, eP]
        refine ⟨_, by rw [upd_ne (ne_of_none atP nC), upd_same], list ▸ PySem.TriplesOk_snoc _ _ _ _ triples, fun p' cv hcv => ?_⟩
        rw [list] at hcv
        rcases among_app _ triples hcv with z | z
        · obtain ⟨c0, e1, e2⟩ := known p' cv z
          exact ⟨c0, e1, grw_in nC e2 (ne e2)⟩
        · exact ⟨c', z, upd_same⟩
      · obtain ⟨qs, a1, a2, a3⟩ := tabs p hp
        refine ⟨qs, by rw [upd_ne (ne_of_none a1 nC), upd_ne eP]; exact a1, a2, fun p' cv hcv => ?_⟩
        obtain ⟨c0, e1, e2⟩ := a3 p' cv hcv
        exact ⟨c0, e1, grw_in nC e2 (ne e2)⟩
    · rw [upd_ne (Nat.ne_of_gt lt), upd_ne (Nat.ne_of_gt (Nat.lt_of_lt_of_le (Heap.lt_size objP) size))]
      exact J.hok.fresh size
end
/-- the frame of a def that was entered stays out of sight -/
theorem un_in {fs : List Addr} {H H1 H2 : Hp} {h h1 h2 : Heap} {es : List Addr} (a : Un fs [] H H1 h h1) (b : Un (es ++ fs) [] H1 H2 h1 h2) (fresh : ∀ e ∈ es, h.objs.size ≤ e) : Un fs [] H H2 h h2 := by
  have old : ∀ {c : Addr} {o : Obj}, h.get? c = some o → c ∉ fs → c ∉ es ++ fs := fun {c o} e n z => by
    rcases List.mem_append.mp z with q | q
    · exact absurd (Heap.lt_size e) (Nat.not_lt.mpr (fresh _ q))
    · exact n q
  exact {
    keep := fun c o q n hc hx => b.keep c o (a.keep c o q n hc hx) (a.free c o q n hx) (old q hc) hx
    slot := fun c o q n hc hx => by
      obtain ⟨sl, e1⟩ := a.slot c o q n hc hx
      obtain ⟨sl', e2⟩ := b.slot c _ e1 (a.free c o q n hx) (List.mem_append.mpr (.inr hc)) hx
      exact ⟨sl', e2⟩
    free := fun c o q n hx => by
      obtain ⟨o', e1⟩ := a.there c o q hx
      exact b.free c o' e1 (a.free c o q n hx) hx
    there := fun c o q hx => by
      obtain ⟨o', e1⟩ := a.there c o q hx
      exact b.there c o' e1 hx
    tups := fun c xs q => b.tups c xs (a.tups c xs q)
    frzs := fun c o u q => b.frzs c o u (a.frzs c o u q)
    tbls := fun c ps q => by
      obtain ⟨m1, e1⟩ := a.tbls c ps q
      obtain ⟨m2, e2⟩ := b.tbls c _ e1
      exact ⟨m1 ++ m2, by rw [e2, Array.append_assoc]⟩ }
/-- what a lambda's call does, in any def that has got it: made in X at σ, H, s -/
def Act (X : Cx) (σ : L2.St) (H : Hp) (s : Shared) (f c' : Addr) (tl : XK → TE) : Prop :=
  ∀ (Eg : XK) (Ng : List Str) (qg : Str) (sg : Scope) (g : Addr) (cdg : Value) (A0 : Around) (outer0 : List Env) (s0 : Shared) (H0 : Hp) (pn : List (Addr × Obj)) (xe : Value → Shared → Prop) (W : WX) (a : Str) (p1 p2 : Pos),
    (∀ (s1 : Shared) (H1 : Hp), Un (frs outer0) [] H0 H1 s0.heap s1.heap → Un (frs X.stack) [] H H1 s.heap s1.heap) → A0.guards = X.A.guards → (∀ k, Room (k + 3) X.A → Room (k + 2) A0) → Room 1 (A0.deeper (envOfC qg sg s0.heap.objs.size g cdg)) →
    Takes ((cxOf (L2.CX X.prog X.w) X.prog X.w X.K X.mg X.base Ng qg sg g cdg A0 outer0 s0 H0 Eg).tr pn xe) W → Ng[0]? = some a → Vis sg a → (a == ("__debug__" : Str)) = false → (a == ("__classdict__" : Str)) = false →
    PE ((cxOf (L2.CX X.prog X.w) X.prog X.w X.K X.mg X.base Ng qg sg g cdg A0 outer0 s0 H0 Eg).tr pn xe) (.Call (.Name a p1) [] [] p2)
      (fun σZ HZ Q => σZ[0]? = some (some (.ref f)) ∧ HZ c' = some (CodeO c' (X.env.qual ++ "<lambda>")) ∧ tl (WE W σZ) σ HZ Q)
section
variable {X : Cx} {pins : List (Addr × Obj)} {σ : L2.St} {H : Hp} {s : Shared}
/-- the lambda's call, in a def that got it; what it lets out is told of that def's own state -/
theorem act_run {f c' : Addr} {pm ctv : Value} {params : Arguments} {body : Expr} {scope : Scope} {tl : XK → TE}
    (J : Inv X pins σ H s) (L : LamS X.env.scope scope) (hf : s.heap.get? f = some (PySem.W.kla_obj "<lambda>" (X.env.qual ++ "<lambda>") params body scope (cloFrom X.env.cells scope.names []) pm c' ctv)) (nf : H f = none) (nfr : f ∉ frs X.stack)
    (bind : bindArgs (PySem.W.kla_fn "<lambda>" (X.env.qual ++ "<lambda>") params body scope (cloFrom X.env.cells scope.names []) pm (.ref c') ctv) ⟨[], []⟩ = pure [])
    (inner : ∀ (A' : Around) (outer : List Env) (s1 : Shared) (H1 : Hp) (E : XK), A'.guards = X.A.guards → (∀ k, Room (k + 3) X.A → Room (k + 1) A') → PE (lamCx X A' outer s1 H1 E scope f c') body (tl E)) :
    Act X σ H s f c' tl := by
  intro Eg Ng qg sg g cdg A0 outer0 s0 H0 pn xe W a p1 p2 link gs rmk room tk hN hv hd hcd
  refine ⟨fun pinsZ sZ σZ HZ Q JZ ⟨hs, hc, ht⟩ => ?_⟩
  refine wpAny_Call_Name_kw (thn ((pe_var (pos := p1) (i := 0) hN hv hd hcd).run pinsZ sZ σZ HZ (fun v H1 => v = .ref f ∧ H1 = HZ) JZ ⟨.ref f, hs, rfl, rfl⟩) fun u s1 ⟨v, H1, J1, r1, ev, eH⟩ => ?_)
  subst ev
  subst eH
  obtain rfl : u = Value.ref f := r1
  have un : Un (frs X.stack) [] H H1 s.heap s1.heap := link _ _ J1.base
  have at1 : s1.heap.get? f = some (PySem.W.kla_obj "<lambda>" (X.env.qual ++ "<lambda>") params body scope (cloFrom X.env.cells scope.names []) pm c' ctv) := un.keep f _ hf nf nfr fun z => by cases (show f ∈ ([] : List Addr) from z)
  obtain ⟨⟨oc, vs, t, hoc, hdc, hvc⟩, _, _⟩ := J1.hok c' _ hc
  have run : codeAny (model X.prog X.w) (A0.deeper (envOfC qg sg s0.heap.objs.size g cdg)) (.call (.ref f) ⟨[], []⟩) (CR (L2.CX X.prog X.w) (envOfC qg sg s0.heap.objs.size g cdg :: outer0) X.prog X.w H1 s1 Q (WE W σZ)) s1 := by
    refine PySem.W.kla_callFunE room.depth at1 rfl L.co L.gen rfl ⟨c', oc, vs, t, rfl, hoc, hdc, hvc⟩ ?_
    rw [bind]
    refine wpAny_pure (wpAny_newFunctionEnv (fun y hy => (L.own y hy).2) (fun y hy => absurd hy (by simp)) (fun h₁ hns keep => ⟨J1.nolimit.fresh _ keep, ?_⟩) L.kind)
    have kp : ∀ b o, s1.heap.get? b = some o → h₁.get? b = some o := fun b o e => keep.extBut b o (Nat.ne_of_lt (Heap.lt_size e)) (Heap.get?_push_of_some _ e)
    have J2 := lam_start2 (E := WE W σZ) (f := f) (c' := c') (tk := s1.toks + ([] : List (Str × Value)).length) J L J1.env0 room.hd un hns kp
    refine PySem.W.kla_codeExpr (wpAny_mono ((inner (A0.deeper (envOfC qg sg s0.heap.objs.size g cdg)) _ s1 H1 (WE W σZ) gs fun k r => (rmk k r).deeper _).run [] _ _ H1 Q J2 ht) (fun v s' hq => ?_) fun e s' hq => hq)
    obtain ⟨w', H', J', rv, q⟩ := hq
    exact ⟨w', H', J'.os, J'.bare, J'.base, J'.hok, rv, q⟩
  refine PySem.W.callWith_F0 ⟨_, _, _, _, at1⟩ (wpAny_call (codeAny_mono run fun r s' hq => ?_))
  match r, hq with
  | .error e, hq => exact passAt tk σZ pinsZ H1 s1 e s' J1 hq
  | .ok (.ret u), hq => exact J1.after hq
/-- a word's call within a word: y(a), a the lambda -/
theorem pe_word1 {y a b qg : Str} {f g g1 c' : Addr} {pg : Arguments} {bg : List Stmt} {sg sg1 : Scope} {fd : FuncData} {Ng N1 : List Str} {cdg : Value} {tl : XK → TE} {wd1 : XK → L2.St → Hp → VK → Prop} {pn : List (Addr × Obj)} {xe : Value → Shared → Prop} {W : WX} {p pa pos : Pos} {Eg : XK} {q : Str}
    (act : Act X σ H s f c' tl) (hg : sg.names.lookup y = some .globalImplicit) (hm : X.mg y = some (.ref g1)) (hk : PySem.W.keepIn X.K (.ref g1) = true) (F : FunD X.K y y pg bg sg1 [] [] g1 fd) (hb : L2.Binds X.K fd [b] []) (S1 : FnScope N1 [b] sg1)
    (hNg : Ng[0]? = some a) (hva : Vis sg a) (hd : (a == ("__debug__" : Str)) = false) (hcd : (a == ("__classdict__" : Str)) = false) (hdb : (y == ("__debug__" : Str)) = false) (room : Room 2 (X.A.deeper (envOfC qg sg s.heap.objs.size g cdg)))
    (tk : Takes ((cxOf (L2.CX X.prog X.w) X.prog X.w X.K X.mg X.base Ng qg sg g cdg X.A X.stack s H Eg).tr pn xe) W)
    (word : ∀ (cdv : Value) (A0 : Around) (outer0 : List Env) (s1 : Shared) (H1 : Hp) (Q : VK) (E1 : XK), Room 1 (A0.deeper (envOfC y sg1 s1.heap.objs.size g1 cdv)) → A0.guards = X.A.guards → (∀ k, Room (k + 3) X.A → Room (k + 2) A0) →
      (∀ (s2 : Shared) (H2 : Hp), Un (frs outer0) [] H1 H2 s1.heap s2.heap → Un (frs X.stack) [] H H2 s.heap s2.heap) → H1 c' = some (CodeO c' q) → wd1 E1 σ H1 Q →
      ∃ t, PSs (cxOf (L2.CX X.prog X.w) X.prog X.w X.K X.mg X.base N1 y sg1 g1 cdv A0 outer0 s1 H1 E1) bg t ∧ t { nx := fun _ H' => Q .non H', rt := Q } (L2.start N1 [.ref f]) H1) :
    PE ((cxOf (L2.CX X.prog X.w) X.prog X.w X.K X.mg X.base Ng qg sg g cdg X.A X.stack s H Eg).tr pn xe) (.Call (.Name y p) [.Name a pa] [] pos)
      (fun σZ HZ Q => σZ[0]? = some (some (.ref f)) ∧ HZ c' = some (CodeO c' q) ∧ wd1 (WE W σZ) σ HZ Q) := by
  refine ⟨fun pinsZ sZ σZ HZ Q JZ ⟨hs, hc, ht⟩ => wpAny_Call_Name_kw (ld_glob JZ hg hm ?_ hdb)⟩
  refine PySem.W.callWith_K (h₀ := X.base) JZ.ok.mod.kin hk (thn ((pa_cons (pe_var (pos := pa) (i := 0) hNg hva hd hcd) pa_nil).run pos pinsZ sZ σZ HZ (fun vs H1 => vs = [.ref f] ∧ H1 = HZ) JZ ⟨.ref f, hs, rfl, rfl⟩) fun us s1 ⟨vs, H1, J1, r1, ev, eH⟩ => ?_) (by rfl) (by rfl)
  subst ev
  subst eH
  refine ⟨J1.kIn, ?_⟩
  obtain ⟨u, hu, rv⟩ : ∃ u, us = [u] ∧ RelV (.ref f) u := by
    cases r1 with
    | cons rv rn => cases rn; exact ⟨_, rfl, rv⟩
  subst hu
  obtain rfl : u = Value.ref f := rv
  obtain ⟨oc, od, dV, kV, doc, pm, an, cdv, ct, osl, rfl, lk, hcg, _, _⟩ := F.ex
  have run : codeAny (model X.prog X.w) (X.A.deeper (envOfC qg sg s.heap.objs.size g cdg)) (.call (.ref g1) ⟨[.ref f], []⟩) (CR (L2.CX X.prog X.w) (envOfC qg sg s.heap.objs.size g cdg :: X.stack) X.prog X.w H1 s1 Q (WE W σZ)) s1 := by
    refine run_ofS (N := N1) (ps := [b]) (us := [.ref f]) (vs := [.ref f]) lk hcg S1 room J1.env0 (hb s1 [.ref f] J1.kIn rfl) (.cons rfl .nil) rfl fun room' => ?_
    refine word cdv _ _ s1 H1 Q (WE W σZ) room' rfl (fun k r => r.deeper _) (fun s2 H2 u => ?_) hc ht
    have base : Un (frs X.stack) [] H H1 s.heap s1.heap := J1.base
    refine un_in (es := frs [envOfC qg sg s.heap.objs.size g cdg]) base (by rw [show frs [envOfC qg sg s.heap.objs.size g cdg] ++ frs X.stack = frs (envOfC qg sg s.heap.objs.size g cdg :: X.stack) from (List.filterMap_append (l := [_]) (l' := X.stack)).symm]; exact u) fun e he => ?_
    have he : e ∈ [s.heap.objs.size] := he
    rw [List.mem_singleton.mp he]
    exact Nat.le_refl _
  refine wpAny_call (codeAny_mono run fun r s' hq => ?_)
  match r, hq with
  | .error e, hq => exact passAt tk σZ pinsZ H1 s1 e s' J1 hq
  | .ok (.ret u), hq => exact J1.after hq
/-- x(lambda: body): the lambda is made, then the def is run; wd: what that def makes of it -/
theorem pe_word {T : List (Addr × Str)} {x a : Str} {g c P : Addr} {k : Nat} {pg : Arguments} {bg : List Stmt} {sg : Scope} {fd : FuncData} {Ng : List Str} {params : Arguments} {body : Expr} {scope : Scope} {tl : XK → TE} {wd : L2.St → Hp → VK → Prop} {p lpos pos : Pos}
    (hg : Gl X x) (hm : X.mg x = some (.ref g)) (hk : PySem.W.keepIn X.K (.ref g) = true) (F : FunD X.K x x pg bg sg [] [] g fd) (hb : L2.Binds X.K fd [a] []) (Sg : FnScope Ng [a] sg)
    (tb : TabB X.base X.mg c P) (hcode : X.env.code = .ref c) (inT : (P, X.env.qual ++ "<lambda>") ∈ T) (one : ∀ p ∈ T, p.1 = P → p.2 = X.env.qual ++ "<lambda>") (room : Room (k + 1) X.A) (L : LamS X.env.scope scope) (nodef : defaultsOf params X.env = ([], []))
    (bind : ∀ (q : Str) (cl : List (Str × Addr)) (pm cv ctv : Value), bindArgs (PySem.W.kla_fn "<lambda>" q params body scope cl pm cv ctv) ⟨[], []⟩ = pure [])
    (inner : ∀ (f c' : Addr) (A' : Around) (outer : List Env) (s1 : Shared) (H1 : Hp) (E : XK), A'.guards = X.A.guards → (∀ k, Room (k + 3) X.A → Room (k + 1) A') → PE (lamCx X A' outer s1 H1 E scope f c') body (tl E))
    (word : ∀ (cdv : Value) (f c' : Addr) (s : Shared) (H1 : Hp) (σ : L2.St) (Q : VK), Room k (X.A.deeper (envOfC x sg s.heap.objs.size g cdv)) → Act X σ H1 s f c' tl → H1 c' = some (CodeO c' (X.env.qual ++ "<lambda>")) → wd σ H1 Q →
      ∃ t, PSs (cxOf (L2.CX X.prog X.w) X.prog X.w X.K X.mg X.base Ng x sg g cdv X.A X.stack s H1 fun _ _ _ => False) bg t ∧ t { nx := fun _ H' => Q .non H', rt := Q } (L2.start Ng [.ref f]) H1)
    (hdb : (x == ("__debug__" : Str)) = false) :
    PE X (.Call (.Name x p) [.Lambda params body scope lpos] [] pos) (fun σ H Q => Tabs T H ∧ ∀ H1, Grw T H H1 → Tabs T H1 → wd σ H1 Q) := by
  refine ⟨fun pins s σ H Q J ⟨tabs, h⟩ => wpAny_Call_Name_kw (ld_glob J hg hm ?_ hdb)⟩
  refine PySem.W.callWith_K (h₀ := X.base) J.ok.mod.kin hk ?_ (by rfl) (by rfl)
  show wpAny _ _ (spliced ((false, eval (.Lambda params body scope lpos) X.env) :: backTo pos (starEach [] X.env))) _ _ s
  refine Calls.spliced_cons (lam_mk J tb hcode inT one tabs nodef (L.has J.ok) fun f c' pm' ctv H1 s' J1 gr T1 hf nf nfr at' => ?_)
  refine Calls.spliced_nil ⟨J1.kIn, ?_⟩
  obtain ⟨oc, od, dV, kV, doc, pm, an, cdv, ct, osl, rfl, lk, hcg, _, _⟩ := F.ex
  have run : codeAny (model X.prog X.w) X.A (.call (.ref g) ⟨[.ref f], []⟩) (CR (L2.CX X.prog X.w) X.stack X.prog X.w H1 s' Q fun _ _ _ => False) s' := by
    refine run_ofS (N := Ng) (ps := [a]) (us := [.ref f]) (vs := [.ref f]) lk hcg Sg room J1.env0 (hb s' [.ref f] J1.kIn rfl) (.cons rfl .nil) rfl fun room' => ?_
    exact word cdv f c' s' H1 σ Q room' (act_run J1 L hf nf nfr (bind _ _ _ _ _) (inner f c')) at' (h H1 gr T1)
  refine wpAny_call (codeAny_mono run fun r s2 hq => ?_)
  match r, hq with
  | .error e, hq =>
    obtain ⟨_, _, _, _, _, _, _, _, _, _, _, _, z⟩ := hq
    exact z.elim
  | .ok (.ret u), hq => exact J1.after hq
end
end PySem.MiL

set_option maxHeartbeats 1000000
namespace Mi
open PySem PySem.Spec PyProof.Rows L2

section
variable {K : PySem.W.Frag} {Z H : Hp} {x : V} {d : Da} {v : Vl}
/-! ### comparisons -/
def opLt : List Da → Option Vl
  | [.int a, .int b] => some (.val (.bool (decide (a < b))))
  | _ => none
def opLe : List Da → Option Vl
  | [.int a, .int b] => some (.val (.bool (decide (a ≤ b))))
  | _ => none
def opGt : List Da → Option Vl
  | [.int a, .int b] => some (.val (.bool (decide (b < a))))
  | _ => none
def opGe : List Da → Option Vl
  | [.int a, .int b] => some (.val (.bool (decide (b ≤ a))))
  | _ => none
theorem opS_lt : OpS K opLt (at2 (rI0 fun i j => .bl (decide (i < j)))) := by
  intro xs ds v Z H Q hz ha hf hq
  unfold opLt at hf
  split at hf
  · cases hf
    obtain ⟨x, y, rfl, h1, h2⟩ := all2 ha
    exact ⟨x, y, rfl, ⟨_, _, h1.int, h2.int, give hz hq (.bl _)⟩⟩
  · cases hf
theorem opS_le : OpS K opLe (at2 (rI0 fun i j => .bl (decide (i ≤ j)))) := by
  intro xs ds v Z H Q hz ha hf hq
  unfold opLe at hf
  split at hf
  · cases hf
    obtain ⟨x, y, rfl, h1, h2⟩ := all2 ha
    exact ⟨x, y, rfl, ⟨_, _, h1.int, h2.int, give hz hq (.bl _)⟩⟩
  · cases hf
theorem opS_gt : OpS K opGt (at2 (rI0 fun i j => .bl (decide (j < i)))) := by
  intro xs ds v Z H Q hz ha hf hq
  unfold opGt at hf
  split at hf
  · cases hf
    obtain ⟨x, y, rfl, h1, h2⟩ := all2 ha
    exact ⟨x, y, rfl, ⟨_, _, h1.int, h2.int, give hz hq (.bl _)⟩⟩
  · cases hf
theorem opS_ge : OpS K opGe (at2 (rI0 fun i j => .bl (decide (j ≤ i)))) := by
  intro xs ds v Z H Q hz ha hf hq
  unfold opGe at hf
  split at hf
  · cases hf
    obtain ⟨x, y, rfl, h1, h2⟩ := all2 ha
    exact ⟨x, y, rfl, ⟨_, _, h1.int, h2.int, give hz hq (.bl _)⟩⟩
  · cases hf

mutual
theorem Rp.dp : ∀ (d : Da) (x : V), d.canLay0 = true → Rp K H x d → Dp K H x d
  | .none, _, _, q => by cases q; exact .non
  | .bool b, _, _, q => by cases q; exact .bl b
  | .int i, _, _, q => by cases q; exact .int i
  | .str s, _, _, q => by cases q; exact .str s
  | .list ds, _, h, q => by
    cases q with
    | lst hs ha => exact .lst (.inl hs) (RpAll.dp ds _ (by simpa [PyData.canLay0] using h) ha)
  | .tuple ds, _, h, q => by
    cases q with
    | tup hs ha => exact .tup hs (RpAll.dp ds _ (by simpa [PyData.canLay0] using h) ha)
  | .dict ds, _, h, q => by simp [PyData.canLay0] at h
theorem RpAll.dp : ∀ (ds : List Da) (xs : List V), PyData.canLayAll0 ds = true → RpAll K H xs ds → DpAll K H xs ds
  | [], _, _, q => by cases q; exact .nil
  | d :: ds, _, h, q => by
    have h' : d.canLay0 = true ∧ PyData.canLayAll0 ds = true := by simpa [PyData.canLayAll0] using h
    cases q with
    | cons h1 h2 => exact .cons (Rp.dp d _ h'.1 h1) (RpAll.dp ds _ h'.2 h2)
end
/-- lists of unlike lengths -/
def lenNe : Da → Da → Bool
  | .list a, .list b => !decide (a.length = b.length)
  | _, _ => false
/-- tuples, one of them empty -/
def tup0 : Da → Da → Bool
  | .tuple a, .tuple b => a.isEmpty || b.isEmpty
  | _, _ => false
def tupLen : Da → Nat
  | .tuple a => a.length
  | _ => 0
/-- == of data without dicts -/
def opEq : List Da → Option Vl
  | [.str a, .str b] => some (.val (.bool (decide (a = b))))
  | [a, b] => if SeqAt.shaped a && SeqAt.shaped b then some (.val (.bool (PyData.eqv a b))) else if lenNe a b then some (.val (.bool false)) else if tup0 a b then some (.val (.bool (decide (tupLen a = tupLen b)))) else none
  | _ => none
def opNe : List Da → Option Vl
  | [.str a, .str b] => some (.val (.bool (!decide (a = b))))
  | [a, b] => if SeqAt.shaped a && SeqAt.shaped b then some (.val (.bool (!PyData.eqv a b))) else if lenNe a b then some (.val (.bool true)) else none
  | _ => none
theorem list_ne_len (l : Addr) (us : Array Value) (n : Nat) (b : Addr) (vs : Array Value) (m : Nat) (hc : (us.size != vs.size) = true) :
    Meets (Builtin.«list.__ne__» ⟨[.ref l, .ref b], []⟩) (fun _ R st => st.heap.get? l = some { cls := .type "list", dict := none, data := .seq us n, slots := #[] } ∧ st.heap.get? b = some { cls := .type "list", dict := none, data := .seq vs m, slots := #[] } ∧ R (.ok (.ret (Value.bool true))) st) :=
  .of_wp fun prog w A R s h => by
    obtain ⟨hp, g, d, tk, os⟩ := s
    obtain ⟨hl, hb, h⟩ := h
    have h3 := AutoSeq1.sub_list_list
    wp_walk using wpAny_loadPart' hl, wpAny_loadPart' hb
    exact ⟨_, rfl, h⟩
def rLenNe (k : Bool) : R2 := fun x y H Q => ∃ a b xs ys, x = .ref a ∧ y = .ref b ∧ Rd H a (.lst xs) ∧ Rd H b (.lst ys) ∧ xs.length ≠ ys.length ∧ Q (.bl k) H
theorem size_ne {xs ys : List V} {us vs : List Value} (h : xs.length ≠ ys.length) (h1 : xs.length = us.length) (h2 : ys.length = vs.length) : (us.toArray.size != vs.toArray.size) = true := by
  rw [List.size_toArray, List.size_toArray, ← h1, ← h2]
  simpa using h
theorem op_eqLen {X : Cx} (hu : X.A.units + 64 < cLine) : OpR X (compareOp .Eq) (rLenNe false) := by
  intro pins s σ H x y v u Q I rx ry h
  obtain ⟨a, b, xs, ys, rfl, rfl, h1, h2, hn, q⟩ := h
  cases rx
  cases ry
  obtain ⟨_, us, n, _, l1, e1⟩ := rd_lst I h1
  obtain ⟨_, vs, m, _, l2, e2⟩ := rd_lst I h2
  exact PySem.P.eq_list_lengths e1 e2 (size_ne hn l1 l2) (by omega) ⟨.bl _, H, I, rfl, q⟩
theorem op_neLen {X : Cx} (hu : X.A.units + 64 < cLine) : OpR X (compareOp .NotEq) (rLenNe true) := by
  intro pins s σ H x y v u Q I rx ry h
  obtain ⟨a, b, xs, ys, rfl, rfl, h1, h2, hn, q⟩ := h
  cases rx
  cases ry
  obtain ⟨_, us, n, _, l1, e1⟩ := rd_lst I h1
  obtain ⟨_, vs, m, _, l2, e2⟩ := rd_lst I h2
  have q' : EP X pins σ Q (Value.bool true) s := ⟨.bl _, H, I, rfl, q⟩
  exact richCompare_meets_room (op := .NotEq) ⟨_, e1, rfl⟩ ⟨_, e2, rfl⟩ F.slot_list_ne F.entry_list_ne (F.args_list_ne_2 _ _) (list_ne_len a us.toArray n b vs.toArray m (size_ne hn l1 l2))
    ⟨e1, e2, show Value.bool true ≠ Value.notImplemented ∧ EP X pins σ Q (Value.bool true) s from ⟨(fun z => nomatch z), q'⟩⟩ (by omega)
def rTup0 (K : PySem.W.Frag) : R2 := fun x y H Q => ∃ a b xs ys, x = .ref a ∧ y = .ref b ∧ SqT K H a xs ∧ SqT K H b ys ∧ (xs = [] ∨ ys = []) ∧ Q (.bl (decide (xs.length = ys.length))) H
theorem op_eqT0 {X : Cx} (hu : X.A.units + 64 < cLine) : OpR X (compareOp .Eq) (rTup0 X.K) := by
  intro pins s σ H x y v u Q I rx ry h
  obtain ⟨a, b, xs, ys, rfl, rfl, h1, h2, hn, q⟩ := h
  cases rx
  cases ry
  obtain ⟨us, l1, e1, _⟩ := I.tuple h1
  obtain ⟨vs, l2, e2, _⟩ := I.tuple h2
  have z1 := l1.length
  have z2 := l2.length
  have no : ∀ j, j < us.toArray.size → j < vs.toArray.size → False := fun j a1 a2 => by
    rw [List.size_toArray] at a1 a2
    rcases hn with rfl | rfl
    · simp only [List.length_nil] at z1; omega
    · simp only [List.length_nil] at z2; omega
  have em : (List.range (min us.toArray.size vs.toArray.size)).all (fun _ => true) = true := by simp
  refine SeqAt.eq_tupleAt (e := fun _ => true) e1 e2 (by omega) (fun j a1 a2 => (no j a1 a2).elim) ?_
  rw [em, Bool.true_and]
  refine ⟨.bl _, H, I, ?_, q⟩
  have e : (us.toArray.size == vs.toArray.size) = decide (xs.length = ys.length) := by
    rw [List.size_toArray, List.size_toArray, ← z1, ← z2]
    rfl
  rw [e]
  rfl
def rEqU (K : PySem.W.Frag) : R2 := fun x y H Q => rEq x y H Q ∨ rEqD K x y H Q ∨ rLenNe false x y H Q ∨ rTup0 K x y H Q
def rNeU (K : PySem.W.Frag) : R2 := fun x y H Q => rNe x y H Q ∨ rNeD K x y H Q ∨ rLenNe true x y H Q
theorem op_eqU {X : Cx} (hu : X.A.units + 64 < cLine) : OpR X (compareOp .Eq) (rEqU X.K) := op_eq.or ((op_eqD hu).or ((op_eqLen hu).or (op_eqT0 hu)))
theorem op_neU {X : Cx} (hu : X.A.units + 64 < cLine) : OpR X (compareOp .NotEq) (rNeU X.K) := op_ne.or ((op_neD hu).or (op_neLen hu))
theorem lenNe_rd {Z H : Hp} {d e : Da} {x y : V} (hz : Le Z H) (h1 : OpdR K Z H x d) (h2 : OpdR K Z H y e) (h : lenNe d e = true) {k : Bool} {Q : VK} (q : Q (.bl k) H) : rLenNe k x y H Q := by
  unfold lenNe at h
  split at h
  · obtain ⟨a, vs, e1, r1, p1⟩ := h1.lst hz
    obtain ⟨b, ws, e2, r2, p2⟩ := h2.lst hz
    refine ⟨a, b, vs, ws, e1, e2, r1, r2, ?_, q⟩
    rw [p1.length, p2.length]
    simpa using h
  · cases h
theorem dec_strV {a b : Str} : decide (V.str a = V.str b) = decide (a = b) := by
  by_cases e : a = b
  · subst e; simp
  · rw [decide_eq_false e, decide_eq_false (fun q => e (V.str.inj q))]
theorem opS_eq : OpS K opEq (at2 (rEqU K)) := by
  intro xs ds v Z H Q hz ha hf hq
  unfold opEq at hf
  split at hf
  · cases hf
    obtain ⟨x, y, rfl, h1, h2⟩ := all2 ha
    have e1 := h1.str
    have e2 := h2.str
    subst e1 e2
    exact ⟨_, _, rfl, .inl ⟨rfl, by rw [dec_strV]; exact give hz hq (.bl _)⟩⟩
  · split at hf
    · rename_i hc
      cases hf
      rw [Bool.and_eq_true] at hc
      obtain ⟨x, y, rfl, h1, h2⟩ := all2 ha
      exact ⟨x, y, rfl, .inr (.inl ⟨_, _, Rp.dp _ _ (SeqAt.canLay_of_shaped hc.1) (h1.rp hz), Rp.dp _ _ (SeqAt.canLay_of_shaped hc.2) (h2.rp hz), hc.1, hc.2, give hz hq (.bl _)⟩)⟩
    · split at hf
      · rename_i hn
        cases hf
        obtain ⟨x, y, rfl, h1, h2⟩ := all2 ha
        exact ⟨x, y, rfl, .inr (.inr (.inl (lenNe_rd hz h1 h2 hn (give hz hq (.bl _)))))⟩
      · split at hf
        · rename_i hn
          cases hf
          obtain ⟨x, y, rfl, h1, h2⟩ := all2 ha
          unfold tup0 at hn
          split at hn
          · obtain ⟨a, vs, e1, r1, p1⟩ := h1.tup hz
            obtain ⟨b, ws, e2, r2, p2⟩ := h2.tup hz
            refine ⟨x, y, rfl, .inr (.inr (.inr ⟨a, b, vs, ws, e1, e2, r1, r2, ?_, ?_⟩))⟩
            · rw [Bool.or_eq_true, List.isEmpty_iff, List.isEmpty_iff] at hn
              rcases hn with rfl | rfl
              · exact .inl (by have := p1.length; simpa using this)
              · exact .inr (by have := p2.length; simpa using this)
            · rw [p1.length, p2.length]
              exact give hz hq (.bl _)
          · cases hn
        · cases hf
  · cases hf
theorem opS_ne : OpS K opNe (at2 (rNeU K)) := by
  intro xs ds v Z H Q hz ha hf hq
  unfold opNe at hf
  split at hf
  · cases hf
    obtain ⟨x, y, rfl, h1, h2⟩ := all2 ha
    have e1 := h1.str
    have e2 := h2.str
    subst e1 e2
    exact ⟨_, _, rfl, .inl ⟨rfl, by rw [dec_strV]; exact give hz hq (.bl _)⟩⟩
  · split at hf
    · rename_i hc
      cases hf
      rw [Bool.and_eq_true] at hc
      obtain ⟨x, y, rfl, h1, h2⟩ := all2 ha
      exact ⟨x, y, rfl, .inr (.inl ⟨_, _, Rp.dp _ _ (SeqAt.canLay_of_shaped hc.1) (h1.rp hz), Rp.dp _ _ (SeqAt.canLay_of_shaped hc.2) (h2.rp hz), hc.1, hc.2, give hz hq (.bl _)⟩)⟩
    · split at hf
      · rename_i hn
        cases hf
        obtain ⟨x, y, rfl, h1, h2⟩ := all2 ha
        exact ⟨x, y, rfl, .inr (.inr (lenNe_rd hz h1 h2 hn (give hz hq (.bl _))))⟩
      · cases hf
  · cases hf

/-- is None, is True .. -/
def isNone : Da → Bool
  | .none => true
  | _ => false
def opIs : List Da → Option Vl
  | [a, .none] => some (.val (.bool (isNone a)))
  | [.bool a, .bool b] => some (.val (.bool (decide (a = b))))
  | _ => none
def opIsNot : List Da → Option Vl
  | [a, .none] => some (.val (.bool (!isNone a)))
  | [.bool a, .bool b] => some (.val (.bool (!decide (a = b))))
  | _ => none
theorem OpdR.isNon (h : OpdR K Z H x d) : decide (x = .non) = isNone d := by
  rcases h with h | ⟨a, o, e, h, p⟩
  · cases h <;> simp [isNone]
  · subst e
    unfold ObC at p
    split at p <;> first | exact p.elim | simp [isNone]
def rIsU : R2 := fun x y H Q => (y = .non ∧ Q (.bl (decide (x = .non))) H) ∨ rIsB x y H Q
def rIsNotU : R2 := fun x y H Q => (y = .non ∧ Q (.bl (!decide (x = .non))) H) ∨ rNotB x y H Q
theorem op_isU {X : Cx} : OpR X (compareOp .Is) rIsU := op_isN.or op_isBl
theorem op_isNotU {X : Cx} : OpR X (compareOp .IsNot) rIsNotU := op_notN.or op_notBl
theorem opS_is : OpS K opIs (at2 rIsU) := by
  intro xs ds v Z H Q hz ha hf hq
  unfold opIs at hf
  split at hf
  · cases hf
    obtain ⟨x, y, rfl, h1, h2⟩ := all2 ha
    exact ⟨_, _, rfl, .inl ⟨h2.non, by rw [h1.isNon]; exact give hz hq (.bl _)⟩⟩
  · cases hf
    obtain ⟨x, y, rfl, h1, h2⟩ := all2 ha
    exact ⟨_, _, rfl, .inr ⟨_, _, h1.bool, h2.bool, give hz hq (.bl _)⟩⟩
  · cases hf
theorem opS_isNot : OpS K opIsNot (at2 rIsNotU) := by
  intro xs ds v Z H Q hz ha hf hq
  unfold opIsNot at hf
  split at hf
  · cases hf
    obtain ⟨x, y, rfl, h1, h2⟩ := all2 ha
    exact ⟨_, _, rfl, .inl ⟨h2.non, by rw [h1.isNon]; exact give hz hq (.bl _)⟩⟩
  · cases hf
    obtain ⟨x, y, rfl, h1, h2⟩ := all2 ha
    exact ⟨_, _, rfl, .inr ⟨_, _, h1.bool, h2.bool, give hz hq (.bl _)⟩⟩
  · cases hf

/-- in: lists at any depth, tuples of flat items, texts in texts -/
def flatD : Da → Bool
  | .none => true
  | .bool _ => true
  | .int _ => true
  | .str _ => true
  | _ => false
/-! dicts: keys are ints and texts -/
def kOf : Da → Option Key
  | .int i => some (.inl i)
  | .str s => some (.inr s)
  | _ => none
theorem kOf_keyD (k : Key) : kOf (keyD k) = some k := by cases k <;> rfl
theorem kOf_rp {k : Key} (h : kOf d = some k) (r : OpdR K Z H x d) : x = kV k := by
  unfold kOf at h
  split at h
  · cases h; exact r.int
  · cases h; exact r.str
  · cases h
def keyed (ds : List (Da × Da)) : Bool := ds.all fun q => (kOf q.1).isSome
def hasD (ds : List (Da × Da)) (k : Key) : Bool := ds.any fun q => decide (kOf q.1 = some k)
def getDd (ds : List (Da × Da)) (k : Key) : Option Da := (ds.find? fun q => decide (kOf q.1 = some k)).map (·.2)
theorem RpKv.length : ∀ {ds : List (Da × Da)} {xs : List (Key × V)}, RpKv K Z xs ds → xs.length = ds.length
  | [], _, q => by cases q; rfl
  | _ :: _, _, q => by
    cases q with
    | cons h1 h2 => simp [RpKv.length h2]
theorem RpKv.has (k : Key) : ∀ {ds : List (Da × Da)} {xs : List (Key × V)}, RpKv K Z xs ds → (valV xs k).isSome = hasD ds k
  | [], _, q => by cases q; rfl
  | _ :: _, _, q => by
    cases q with
    | cons h1 h2 =>
      rename_i ds k2 v vs d
      have ih := RpKv.has k h2
      by_cases c : k2 = k
      · subst c
        rw [valV_pos rfl]
        simp [hasD, kOf_keyD]
      · rw [valV_neg c, ih]
        have : ¬ kOf (keyD k2) = some k := by rw [kOf_keyD]; exact fun z => c (Option.some.inj z)
        simp [hasD, this]
theorem RpKv.get (k : Key) : ∀ {ds : List (Da × Da)} {xs : List (Key × V)}, RpKv K Z xs ds → ∀ d, getDd ds k = some d → ∃ v, valV xs k = some v ∧ Rp K Z v d
  | [], _, _, d, h => by cases h
  | _ :: _, _, q, d, h => by
    cases q with
    | cons h1 h2 =>
      rename_i ds k2 v vs d2
      by_cases c : k2 = k
      · subst c
        have e : getDd ((keyD k2, d2) :: ds) k2 = some d2 := by simp [getDd, kOf_keyD]
        rw [e] at h
        cases h
        exact ⟨v, valV_pos rfl, h1⟩
      · have n : ¬ kOf (keyD k2) = some k := by rw [kOf_keyD]; exact fun z => c (Option.some.inj z)
        have e : getDd ((keyD k2, d2) :: ds) k = getDd ds k := by simp [getDd, n]
        rw [e] at h
        obtain ⟨w, e1, e2⟩ := RpKv.get k h2 d h
        exact ⟨w, by rw [valV_neg c]; exact e1, e2⟩
theorem RpKv.get0 (k : Key) {ds : List (Da × Da)} {xs : List (Key × V)} (q : RpKv K Z xs ds) (h : getDd ds k = none) : valV xs k = none := by
  have e := q.has k
  have : hasD ds k = false := by
    unfold getDd at h
    rw [Option.map_eq_none_iff, List.find?_eq_none] at h
    unfold hasD
    rw [List.any_eq_false]
    intro p hp
    simpa using h p hp
  rw [this] at e
  cases v : valV xs k with
  | none => rfl
  | some w => rw [v] at e; cases e
/-- d[k] = v -/
def putKd (ds : List (Da × Da)) (k : Key) (d : Da) : List (Da × Da) := if hasD ds k then ds.map fun q => if kOf q.1 = some k then (q.1, d) else q else ds ++ [(keyD k, d)]
theorem RpKv.app : ∀ {ds : List (Da × Da)} {xs : List (Key × V)} (_ : RpKv K Z xs ds) {k : Key} {v : V} {d : Da}, Rp K Z v d → RpKv K Z (xs ++ [(k, v)]) (ds ++ [(keyD k, d)])
  | [], _, q, _, _, _, h => by cases q; exact .cons h .nil
  | _ :: _, _, q, _, _, _, h => by
    cases q with
    | cons h1 h2 => exact .cons h1 (RpKv.app h2 h)
theorem RpKv.repl {k : Key} {y : V} {d : Da} (h : Rp K Z y d) : ∀ {ds : List (Da × Da)} {xs : List (Key × V)} (_ : RpKv K Z xs ds), RpKv K Z (xs.map fun kv => if kv.1 = k then (kv.1, y) else kv) (ds.map fun q => if kOf q.1 = some k then (q.1, d) else q)
  | [], _, q => by cases q; exact .nil
  | _ :: _, _, q => by
    cases q with
    | cons h1 h2 =>
      rename_i ds k2 v vs d2
      rw [List.map_cons, List.map_cons]
      by_cases c : k2 = k
      · subst c
        rw [if_pos rfl, if_pos (kOf_keyD _)]
        exact .cons h (RpKv.repl h h2)
      · have n : ¬ kOf (keyD k2) = some k := by rw [kOf_keyD]; exact fun z => c (Option.some.inj z)
        rw [if_neg c, if_neg n]
        exact .cons h1 (RpKv.repl h h2)
theorem RpKv.put {k : Key} {y : V} {ds : List (Da × Da)} {xs : List (Key × V)} (q : RpKv K Z xs ds) (h : Rp K Z y d) : RpKv K Z (putK xs k y) (putKd ds k d) := by
  have e := q.has k
  unfold putKd
  have e2 : (xs.any fun kv => decide (kv.1 = k)) = hasD ds k := by rw [valV_any]; exact e
  unfold putK
  rw [e2]
  cases hasD ds k with
  | true => exact RpKv.repl h q
  | false => exact RpKv.app q h
theorem OpdR.dic {ds : List (Da × Da)} (hz : Le Z H) (hk : keyed ds = true) (h : OpdR K Z H x (.dict ds)) : ∃ a xs, x = .ref a ∧ Rd H a (.dK xs) ∧ RpKv K Z xs ds := by
  rcases h with h | ⟨a, o, e, h, p⟩
  · cases h with
    | dk hs ha => exact ⟨_, _, rfl, Rd.le hz hs, ha⟩
    | fn y => cases hk
  · unfold ObC at p
    split at p
    · rename_i e2; cases e2
    · rename_i e2
      cases e2
      exact ⟨a, _, e, .inl h, p⟩
    · exact p.elim
def rInK : R2 := fun x y H Q => ∃ a k kvs, y = .ref a ∧ x = kV k ∧ Rd H a (.dK kvs) ∧ Q (.bl (valV kvs k).isSome) H
def rNotInK : R2 := fun x y H Q => ∃ a k kvs, y = .ref a ∧ x = kV k ∧ Rd H a (.dK kvs) ∧ Q (.bl (!(valV kvs k).isSome)) H
theorem op_inK {X : Cx} (hu : X.A.units + 65 < cLine) : OpR X (compareOp .In) rInK := by
  intro pins s σ H x y v u Q I rx ry h
  obtain ⟨a, k, kvs, rfl, rfl, hr, q⟩ := h
  cases ry
  exact d_in (by omega) I (.inl ⟨kvs, k, hr, rfl, rfl⟩) rx fun s' I' => ⟨.bl _, H, I', rfl, q⟩
theorem op_notInK {X : Cx} (hu : X.A.units + 65 < cLine) : OpR X (compareOp .NotIn) rNotInK := by
  intro pins s σ H x y v u Q I rx ry h
  obtain ⟨a, k, kvs, rfl, rfl, hr, q⟩ := h
  cases ry
  exact d_notIn (by omega) I (.inl ⟨kvs, k, hr, rfl, rfl⟩) rx fun s' I' => ⟨.bl _, H, I', rfl, q⟩
def inD (d : Da) (ds : List Da) : Bool := ds.any fun z => PyData.eqv z d
def inS (a b : Str) : Bool := !(Builtin.Str.occurrences b a 0 b.length 1).isEmpty
def opIn : List Da → Option Vl
  | [a, .list ds] => if SeqAt.shaped a && SeqAt.shaped (.list ds) then some (.val (.bool (inD a ds))) else none
  | [a, .tuple ds] => if flatD a && ds.all flatD then some (.val (.bool (inD a ds))) else none
  | [.str a, .str b] => some (.val (.bool (inS a b)))
  | [a, .dict ds] => match kOf a with
    | some k => if keyed ds then some (.val (.bool (hasD ds k))) else none
    | none => none
  | _ => none
def opNotIn : List Da → Option Vl
  | [a, .list ds] => if SeqAt.shaped a && SeqAt.shaped (.list ds) then some (.val (.bool (!inD a ds))) else none
  | [a, .tuple ds] => if flatD a && ds.all flatD then some (.val (.bool (!inD a ds))) else none
  | [.str a, .str b] => some (.val (.bool (!inS a b)))
  | [a, .dict ds] => match kOf a with
    | some k => if keyed ds then some (.val (.bool (!hasD ds k))) else none
    | none => none
  | _ => none
theorem flat_rp (h : flatD d = true) (r : Rp K Z x d) : flatV x = true := by
  cases r <;> first | rfl | (simp [flatD] at h)
theorem eqV_rp {y : V} {e : Da} (h1 : flatD d = true) (h2 : flatD e = true) (r1 : Rp K Z x d) (r2 : Rp K Z y e) : eqV y x = PyData.eqv e d := by
  cases r1 <;> first | (simp [flatD] at h1; done) | skip
  all_goals (cases r2 <;> first | (simp [flatD] at h2; done) | rfl | (simp [eqV, PyData.eqv]; done))
theorem inV_rp (h1 : flatD d = true) (r1 : Rp K Z x d) : ∀ {ds : List Da} {xs : List V}, ds.all flatD = true → RpAll K Z xs ds → inV x xs = inD d ds ∧ xs.all flatV = true
  | [], _, _, q => by cases q; exact ⟨rfl, rfl⟩
  | e :: ds, _, h, q => by
    cases q with
    | cons r2 rs =>
      rw [List.all_cons, Bool.and_eq_true] at h
      obtain ⟨a, b⟩ := inV_rp h1 r1 h.2 rs
      unfold inV inD at a ⊢
      refine ⟨?_, ?_⟩
      · rw [List.any_cons, List.any_cons, a, eqV_rp h1 h.1 r1 r2]
      · rw [List.all_cons, b, flat_rp h.1 r2]; rfl
theorem OpdR.flat (hf : flatD d = true) (h : OpdR K Z H x d) : Rp K Z x d := by
  rcases h with h | ⟨a, o, e, h, p⟩
  · exact h
  · unfold ObC at p
    split at p <;> first | exact p.elim | (simp [flatD] at hf)
def rInU (K : PySem.W.Frag) : R2 := fun x y H Q => rInD K x y H Q ∨ rIn K false x y H Q ∨ (∃ i j, x = .str i ∧ y = .str j ∧ Q (.bl (inS i j)) H) ∨ rInK x y H Q
def rNotInU (K : PySem.W.Frag) : R2 := fun x y H Q => rNotInD K x y H Q ∨ rIn K true x y H Q ∨ (∃ i j, x = .str i ∧ y = .str j ∧ Q (.bl (!inS i j)) H) ∨ rNotInK x y H Q
theorem op_inU {X : Cx} (hu : X.A.units + 65 < cLine) : OpR X (compareOp .In) (rInU X.K) := (op_inD hu).or (op_in_seq.or (op_in_str.or (op_inK hu)))
theorem op_notInU {X : Cx} (hu : X.A.units + 65 < cLine) : OpR X (compareOp .NotIn) (rNotInU X.K) := (op_notInD hu).or (op_notIn_seq.or (L2.op_notIn_str.or (op_notInK hu)))
theorem opS_in : OpS K opIn (at2 (rInU K)) := by
  intro xs ds v Z H Q hz ha hf hq
  unfold opIn at hf
  split at hf
  · split at hf
    · rename_i hc
      cases hf
      rw [Bool.and_eq_true] at hc
      obtain ⟨x, y, rfl, h1, h2⟩ := all2 ha
      exact ⟨_, _, rfl, .inl ⟨_, _, Rp.dp _ _ (SeqAt.canLay_of_shaped hc.1) (h1.rp hz), Rp.dp _ _ (SeqAt.canLay_of_shaped hc.2) (h2.rp hz), hc.1, hc.2, give hz hq (.bl _)⟩⟩
    · cases hf
  · split at hf
    · rename_i hc
      cases hf
      rw [Bool.and_eq_true] at hc
      obtain ⟨x, y, rfl, h1, h2⟩ := all2 ha
      obtain ⟨p, vs, e, hs, hp⟩ := h2.tup hz
      obtain ⟨q1, q2⟩ := inV_rp hc.1 (h1.flat hc.1) hc.2 hp
      exact ⟨_, _, rfl, .inr (.inl ⟨p, vs, e, .inr hs, flat_rp hc.1 (h1.flat hc.1), q2, by rw [if_neg Bool.false_ne_true, q1]; exact give hz hq (.bl _)⟩)⟩
    · cases hf
  · cases hf
    obtain ⟨x, y, rfl, h1, h2⟩ := all2 ha
    exact ⟨_, _, rfl, .inr (.inr (.inl ⟨_, _, h1.str, h2.str, give hz hq (.bl _)⟩))⟩
  · split at hf
    · rename_i k hk
      split at hf
      · rename_i hd
        cases hf
        obtain ⟨x, y, rfl, h1, h2⟩ := all2 ha
        obtain ⟨a, vs, e, hs, hp⟩ := h2.dic hz hd
        exact ⟨_, _, rfl, .inr (.inr (.inr ⟨a, k, vs, e, kOf_rp hk h1, hs, by rw [hp.has k]; exact give hz hq (.bl _)⟩))⟩
      · cases hf
    · cases hf
  · cases hf
theorem opS_notIn : OpS K opNotIn (at2 (rNotInU K)) := by
  intro xs ds v Z H Q hz ha hf hq
  unfold opNotIn at hf
  split at hf
  · split at hf
    · rename_i hc
      cases hf
      rw [Bool.and_eq_true] at hc
      obtain ⟨x, y, rfl, h1, h2⟩ := all2 ha
      exact ⟨_, _, rfl, .inl ⟨_, _, Rp.dp _ _ (SeqAt.canLay_of_shaped hc.1) (h1.rp hz), Rp.dp _ _ (SeqAt.canLay_of_shaped hc.2) (h2.rp hz), hc.1, hc.2, give hz hq (.bl _)⟩⟩
    · cases hf
  · split at hf
    · rename_i hc
      cases hf
      rw [Bool.and_eq_true] at hc
      obtain ⟨x, y, rfl, h1, h2⟩ := all2 ha
      obtain ⟨p, vs, e, hs, hp⟩ := h2.tup hz
      obtain ⟨q1, q2⟩ := inV_rp hc.1 (h1.flat hc.1) hc.2 hp
      exact ⟨_, _, rfl, .inr (.inl ⟨p, vs, e, .inr hs, flat_rp hc.1 (h1.flat hc.1), q2, by rw [if_pos rfl, q1]; exact give hz hq (.bl _)⟩)⟩
    · cases hf
  · cases hf
    obtain ⟨x, y, rfl, h1, h2⟩ := all2 ha
    exact ⟨_, _, rfl, .inr (.inr (.inl ⟨_, _, h1.str, h2.str, give hz hq (.bl _)⟩))⟩
  · split at hf
    · rename_i k hk
      split at hf
      · rename_i hd
        cases hf
        obtain ⟨x, y, rfl, h1, h2⟩ := all2 ha
        obtain ⟨a, vs, e, hs, hp⟩ := h2.dic hz hd
        exact ⟨_, _, rfl, .inr (.inr (.inr ⟨a, k, vs, e, kOf_rp hk h1, hs, by rw [hp.has k]; exact give hz hq (.bl _)⟩))⟩
      · cases hf
    · cases hf
  · cases hf

/-! ### negation, products -/
def at1 (t : V → Hp → VK → Prop) : List V → Hp → VK → Prop := fun xs H Q => ∃ x, xs = [x] ∧ t x H Q
def opNeg : List Da → Option Vl
  | [.int a] => some (.val (.int (-a)))
  | _ => none
theorem opS_neg : OpS K opNeg (at1 (rU fun i => .int (-i))) := by
  intro xs ds v Z H Q hz ha hf hq
  unfold opNeg at hf
  split at hf
  · cases hf
    obtain ⟨x, rfl, h1⟩ := all1 ha
    exact ⟨_, rfl, _, h1.int, give hz hq (.int _)⟩
  · cases hf
end
end Mi

set_option maxHeartbeats 1000000
namespace Mi
open PySem PySem.Spec PyProof.Rows L2

section
variable {K : PySem.W.Frag} {Z H : Hp} {x : V} {d : Da} {v : Vl}
/-! ### built-in functions -/
def rAbs : List V → Hp → VK → Prop := fun xs H Q => ∃ i, xs = [.int i] ∧ Q (.int (if i < 0 then -i else i)) H
def opAbs : List Da → Option Vl
  | [.int a] => some (.val (.int (a.natAbs : Int)))
  | _ => none
theorem opS_abs : OpS K opAbs rAbs := by
  intro xs ds v Z H Q hz ha hf hq
  unfold opAbs at hf
  split at hf
  · rename_i a
    cases hf
    obtain ⟨x, rfl, h1⟩ := all1 ha
    refine ⟨a, by rw [h1.int], ?_⟩
    rw [show (if a < 0 then -a else a) = ((a.natAbs : Nat) : Int) by split <;> omega]
    exact give hz hq (.int _)
  · cases hf
def rLen (K : PySem.W.Frag) : List V → Hp → VK → Prop := fun xs H Q =>
  (∃ p ys, xs = [.ref p] ∧ (SqL K H p ys ∨ SqT K H p ys) ∧ Q (.int ys.length) H) ∨ ∃ z, xs = [.str z] ∧ z.length ≤ sizeLine ∧ Q (.int z.length) H
theorem call_lenU {X : Cx} : CallR X (.builtin "len") (rLen X.K) := call_len_seq.or call_len_str
def opLen : List Da → Option Vl
  | [.list ds] => some (.val (.int (ds.length : Nat)))
  | [.tuple ds] => some (.val (.int (ds.length : Nat)))
  | [.str s] => if s.length ≤ 16777216 then some (.val (.int (s.length : Nat))) else none
  | _ => none
theorem opS_len : OpS K opLen (rLen K) := by
  intro xs ds v Z H Q hz ha hf hq
  unfold opLen at hf
  split at hf
  · cases hf
    obtain ⟨x, rfl, h1⟩ := all1 ha
    obtain ⟨p, vs, e, hs, hp⟩ := h1.lst hz
    subst e
    exact .inl ⟨p, vs, rfl, .inl (.inl hs), by rw [hp.length]; exact give hz hq (.int _)⟩
  · cases hf
    obtain ⟨x, rfl, h1⟩ := all1 ha
    obtain ⟨p, vs, e, hs, hp⟩ := h1.tup hz
    subst e
    exact .inl ⟨p, vs, rfl, .inr hs, by rw [hp.length]; exact give hz hq (.int _)⟩
  · split at hf
    · rename_i hl
      cases hf
      obtain ⟨x, rfl, h1⟩ := all1 ha
      exact .inr ⟨_, by rw [h1.str], by rw [szL]; exact hl, give hz hq (.int _)⟩
    · cases hf
  · cases hf
def intsD : List Da → Option (List Int)
  | [] => some []
  | .int i :: ds => (intsD ds).map (i :: ·)
  | _ => none
theorem ints_eq : ∀ {ds : List Da} {ns : List Int}, intsD ds = some ns → ds = ns.map .int
  | [], ns, h => by cases h; rfl
  | .int i :: ds, ns, h => by
    unfold intsD at h
    cases e : intsD ds with
    | none => rw [e] at h; cases h
    | some ms => rw [e] at h; cases h; rw [ints_eq e]; rfl
  | .none :: _, _, h => by cases h
  | .bool _ :: _, _, h => by cases h
  | .str _ :: _, _, h => by cases h
  | .list _ :: _, _, h => by cases h
  | .tuple _ :: _, _, h => by cases h
  | .dict _ :: _, _, h => by cases h
theorem ints_map (ns : List Int) : intsD (ns.map .int) = some ns := by
  induction ns with
  | nil => rfl
  | cons n ns ih => simp [intsD, ih]
theorem rp_ints : ∀ {ns : List Int} {xs : List V}, RpAll K Z xs (ns.map .int) → xs = ns.map V.int
  | [], _, q => by cases q; rfl
  | n :: ns, _, q => by
    cases q with
    | cons h1 h2 => cases h1; rw [rp_ints h2]; rfl
theorem ints_rp : ∀ (ns : List Int), RpAll K Z (ns.map V.int) (ns.map .int)
  | [] => .nil
  | n :: ns => .cons (.int n) (ints_rp ns)
def boolsD : List Da → Option (List Bool)
  | [] => some []
  | .bool i :: ds => (boolsD ds).map (i :: ·)
  | _ => none
theorem bools_eq : ∀ {ds : List Da} {ns : List Bool}, boolsD ds = some ns → ds = ns.map .bool
  | [], ns, h => by cases h; rfl
  | .bool i :: ds, ns, h => by
    unfold boolsD at h
    cases e : boolsD ds with
    | none => rw [e] at h; cases h
    | some ms => rw [e] at h; cases h; rw [bools_eq e]; rfl
  | .none :: _, _, h => by cases h
  | .int _ :: _, _, h => by cases h
  | .str _ :: _, _, h => by cases h
  | .list _ :: _, _, h => by cases h
  | .tuple _ :: _, _, h => by cases h
  | .dict _ :: _, _, h => by cases h
theorem bools_map (ns : List Bool) : boolsD (ns.map .bool) = some ns := by
  induction ns with
  | nil => rfl
  | cons n ns ih => simp [boolsD, ih]
theorem rp_bools : ∀ {ns : List Bool} {xs : List V}, RpAll K Z xs (ns.map .bool) → xs = ns.map V.bl
  | [], _, q => by cases q; rfl
  | n :: ns, _, q => by
    cases q with
    | cons h1 h2 => cases h1; rw [rp_bools h2]; rfl
def maxL : Int → List Int → Int
  | m, [] => m
  | m, n :: ns => maxL (max m n) ns
def minL : Int → List Int → Int
  | m, [] => m
  | m, n :: ns => minL (min m n) ns
theorem maxL_spec : ∀ (ns : List Int) (m : Int), (maxL m ns = m ∨ maxL m ns ∈ ns) ∧ m ≤ maxL m ns ∧ ∀ y ∈ ns, y ≤ maxL m ns
  | [], m => ⟨.inl rfl, Int.le_refl _, by simp⟩
  | n :: ns, m => by
    obtain ⟨h1, h2, h3⟩ := maxL_spec ns (max m n)
    unfold maxL
    refine ⟨?_, by omega, fun y hy => ?_⟩
    · rcases h1 with h1 | h1
      · rw [h1]
        by_cases c : m ≤ n
        · right; rw [Int.max_eq_right c]; exact List.mem_cons_self
        · left; rw [Int.max_eq_left (by omega)]
      · right; exact List.mem_cons_of_mem _ h1
    · rcases List.mem_cons.mp hy with e | hy
      · subst e; omega
      · exact h3 y hy
theorem minL_spec : ∀ (ns : List Int) (m : Int), (minL m ns = m ∨ minL m ns ∈ ns) ∧ minL m ns ≤ m ∧ ∀ y ∈ ns, minL m ns ≤ y
  | [], m => ⟨.inl rfl, Int.le_refl _, by simp⟩
  | n :: ns, m => by
    obtain ⟨h1, h2, h3⟩ := minL_spec ns (min m n)
    unfold minL
    refine ⟨?_, by omega, fun y hy => ?_⟩
    · rcases h1 with h1 | h1
      · rw [h1]
        by_cases c : m ≤ n
        · left; rw [Int.min_eq_left c]
        · right; rw [Int.min_eq_right (by omega)]; exact List.mem_cons_self
      · right; exact List.mem_cons_of_mem _ h1
    · rcases List.mem_cons.mp hy with e | hy
      · subst e; omega
      · exact h3 y hy
def rMaxU (K : PySem.W.Frag) : List V → Hp → VK → Prop := fun xs H Q => (∃ i j, xs = [.int i, .int j] ∧ Q (.int (if j > i then j else i)) H) ∨ rMax K xs H Q
def rMinU (K : PySem.W.Frag) : List V → Hp → VK → Prop := fun xs H Q => (∃ i j, xs = [.int i, .int j] ∧ Q (.int (if j < i then j else i)) H) ∨ rMin K xs H Q
theorem call_maxU {X : Cx} (hc : X.calm = true) : CallR X (.builtin "max") (rMaxU X.K) := (call_max2 hc).or (cr_max hc)
theorem call_minU {X : Cx} (hc : X.calm = true) : CallR X (.builtin "min") (rMinU X.K) := (call_min2 hc).or (cr_min hc)
def opMax : List Da → Option Vl
  | [.int a, .int b] => some (.val (.int (max a b)))
  | [.list ds] => match intsD ds with
    | some (n :: ns) => some (.val (.int (maxL n ns)))
    | _ => none
  | _ => none
def opMin : List Da → Option Vl
  | [.int a, .int b] => some (.val (.int (min a b)))
  | [.list ds] => match intsD ds with
    | some (n :: ns) => some (.val (.int (minL n ns)))
    | _ => none
  | _ => none
theorem opS_max : OpS K opMax (rMaxU K) := by
  intro xs ds v Z H Q hz ha hf hq
  unfold opMax at hf
  split at hf
  · rename_i a b
    cases hf
    obtain ⟨x, y, rfl, h1, h2⟩ := all2 ha
    refine .inl ⟨a, b, by rw [h1.int, h2.int], ?_⟩
    rw [show (if b > a then b else a) = max a b by split <;> omega]
    exact give hz hq (.int _)
  · split at hf
    · rename_i ds n ns e
      cases hf
      obtain ⟨x, rfl, h1⟩ := all1 ha
      obtain ⟨p, vs, ex, hs, hp⟩ := h1.lst hz
      subst ex
      rw [ints_eq e] at hp
      rw [rp_ints hp] at hs
      obtain ⟨s1, s2, s3⟩ := maxL_spec ns n
      refine .inr ⟨p, n :: ns, rfl, .inl hs, by simp, fun m hm hall => ?_⟩
      have e2 : m = maxL n ns := by
        have a1 := hall _ (show maxL n ns ∈ n :: ns by
          rcases s1 with s1 | s1
          · rw [s1]; exact List.mem_cons_self
          · exact List.mem_cons_of_mem _ s1)
        have a2 : m ≤ maxL n ns := by
          rcases List.mem_cons.mp hm with q | q
          · rw [q]; exact s2
          · exact s3 m q
        omega
      rw [e2]
      exact give hz hq (.int _)
    · cases hf
  · cases hf
theorem opS_min : OpS K opMin (rMinU K) := by
  intro xs ds v Z H Q hz ha hf hq
  unfold opMin at hf
  split at hf
  · rename_i a b
    cases hf
    obtain ⟨x, y, rfl, h1, h2⟩ := all2 ha
    refine .inl ⟨a, b, by rw [h1.int, h2.int], ?_⟩
    rw [show (if b < a then b else a) = min a b by split <;> omega]
    exact give hz hq (.int _)
  · split at hf
    · rename_i ds n ns e
      cases hf
      obtain ⟨x, rfl, h1⟩ := all1 ha
      obtain ⟨p, vs, ex, hs, hp⟩ := h1.lst hz
      subst ex
      rw [ints_eq e] at hp
      rw [rp_ints hp] at hs
      obtain ⟨s1, s2, s3⟩ := minL_spec ns n
      refine .inr ⟨p, n :: ns, rfl, .inl hs, by simp, fun m hm hall => ?_⟩
      have e2 : m = minL n ns := by
        have a1 := hall _ (show minL n ns ∈ n :: ns by
          rcases s1 with s1 | s1
          · rw [s1]; exact List.mem_cons_self
          · exact List.mem_cons_of_mem _ s1)
        have a2 : minL n ns ≤ m := by
          rcases List.mem_cons.mp hm with q | q
          · rw [q]; exact s2
          · exact s3 m q
        omega
      rw [e2]
      exact give hz hq (.int _)
    · cases hf
  · cases hf
def rInt : List V → Hp → VK → Prop := fun xs H Q => (∃ i, xs = [.int i] ∧ Q (.int i) H) ∨ ∃ k, xs = [.bl k] ∧ Q (.int (if k then 1 else 0)) H
def opInt : List Da → Option Vl
  | [.int a] => some (.val (.int a))
  | [.bool b] => some (.val (.int (if b then 1 else 0)))
  | _ => none
theorem opS_int : OpS K opInt rInt := by
  intro xs ds v Z H Q hz ha hf hq
  unfold opInt at hf
  split at hf
  · cases hf
    obtain ⟨x, rfl, h1⟩ := all1 ha
    exact .inl ⟨_, by rw [h1.int], give hz hq (.int _)⟩
  · cases hf
    obtain ⟨x, rfl, h1⟩ := all1 ha
    exact .inr ⟨_, by rw [h1.bool], give hz hq (.int _)⟩
  · cases hf
def rStr : List V → Hp → VK → Prop := fun xs H Q => (∃ i, xs = [.int i] ∧ i.natAbs.log2 < 1920 ∧ Q (.str (toString i)) H) ∨ ∃ a, xs = [.str a] ∧ Q (.str a) H
theorem call_strU {X : Cx} : CallR X (.type "str") rStr := call_str_int.or SkE.call_str_str
def opStr : List Da → Option Vl
  | [.int a] => if a.natAbs.log2 < 1920 then some (.val (.str (toString a))) else none
  | [.str b] => some (.val (.str b))
  | _ => none
theorem opS_str : OpS K opStr rStr := by
  intro xs ds v Z H Q hz ha hf hq
  unfold opStr at hf
  split at hf
  · split at hf
    · rename_i hl
      cases hf
      obtain ⟨x, rfl, h1⟩ := all1 ha
      exact .inl ⟨_, by rw [h1.int], hl, give hz hq (.str _)⟩
    · cases hf
  · cases hf
    obtain ⟨x, rfl, h1⟩ := all1 ha
    exact .inr ⟨_, by rw [h1.str], give hz hq (.str _)⟩
  · cases hf
def rList (K : PySem.W.Frag) : List V → Hp → VK → Prop := fun xs H Q => ∃ p ys, xs = [.ref p] ∧ (SqL K H p ys ∨ SqT K H p ys) ∧ ∀ l, H l = none → Q (.ref l) (upd H l (.lst ys))
def opList : List Da → Option Vl
  | [.list ds] => some (.own (.list ds))
  | [.tuple ds] => some (.own (.list ds))
  | _ => none
theorem opS_list : OpS K opList (rList K) := by
  intro xs ds v Z H Q hz ha hf hq
  unfold opList at hf
  split at hf
  · cases hf
    obtain ⟨x, rfl, h1⟩ := all1 ha
    obtain ⟨p, vs, e, hs, hp⟩ := h1.lst hz
    subst e
    exact ⟨p, vs, rfl, .inl (.inl hs), give_list hz hq hp⟩
  · cases hf
    obtain ⟨x, rfl, h1⟩ := all1 ha
    obtain ⟨p, vs, e, hs, hp⟩ := h1.tup hz
    subst e
    exact ⟨p, vs, rfl, .inr hs, give_list hz hq hp⟩
  · cases hf
def rTuple (K : PySem.W.Frag) : List V → Hp → VK → Prop := fun xs H Q => ∃ p ys, xs = [.ref p] ∧ ((SqL K H p ys ∧ ∀ l, H l = none → Q (.ref l) (upd H l (.tup ys))) ∨ (SqT K H p ys ∧ Q (.ref p) H))
def opTuple : List Da → Option Vl
  | [.list ds] => some (.val (.tuple ds))
  | [.tuple ds] => some (.val (.tuple ds))
  | _ => none
theorem opS_tuple : OpS K opTuple (rTuple K) := by
  intro xs ds v Z H Q hz ha hf hq
  unfold opTuple at hf
  split at hf
  · cases hf
    obtain ⟨x, rfl, h1⟩ := all1 ha
    obtain ⟨p, vs, e, hs, hp⟩ := h1.lst hz
    subst e
    exact ⟨p, vs, rfl, .inl ⟨.inl hs, give_tup hz hq hp⟩⟩
  · cases hf
    obtain ⟨x, rfl, h1⟩ := all1 ha
    have hr := h1.tupZ
    obtain ⟨p, vs, e, hs, hp⟩ := h1.tup hz
    subst e
    exact ⟨p, vs, rfl, .inr ⟨hs, give hz hq hr⟩⟩
  · cases hf
def opSum : List Da → Option Vl
  | [.list ds] => match intsD ds with
    | some ns => some (.val (.int ns.sum))
    | none => none
  | _ => none
theorem opS_sum : OpS K opSum (rSum K) := by
  intro xs ds v Z H Q hz ha hf hq
  unfold opSum at hf
  split at hf
  · split at hf
    · rename_i ds ns e
      cases hf
      obtain ⟨x, rfl, h1⟩ := all1 ha
      obtain ⟨p, vs, ex, hs, hp⟩ := h1.lst hz
      subst ex
      rw [ints_eq e] at hp
      rw [rp_ints hp] at hs
      exact ⟨p, ns, rfl, .inl hs, give hz hq (.int _)⟩
    · cases hf
  · cases hf
def opAll : List Da → Option Vl
  | [.list ds] => match boolsD ds with
    | some bs => some (.val (.bool (bs.all id)))
    | none => none
  | _ => none
def opAny : List Da → Option Vl
  | [.list ds] => match boolsD ds with
    | some bs => some (.val (.bool (bs.any id)))
    | none => none
  | _ => none
theorem opS_all : OpS K opAll (rAll K) := by
  intro xs ds v Z H Q hz ha hf hq
  unfold opAll at hf
  split at hf
  · split at hf
    · rename_i ds ns e
      cases hf
      obtain ⟨x, rfl, h1⟩ := all1 ha
      obtain ⟨p, vs, ex, hs, hp⟩ := h1.lst hz
      subst ex
      rw [bools_eq e] at hp
      rw [rp_bools hp] at hs
      exact ⟨p, ns, rfl, .inl hs, give hz hq (.bl _)⟩
    · cases hf
  · cases hf
theorem opS_any : OpS K opAny (rAny K) := by
  intro xs ds v Z H Q hz ha hf hq
  unfold opAny at hf
  split at hf
  · split at hf
    · rename_i ds ns e
      cases hf
      obtain ⟨x, rfl, h1⟩ := all1 ha
      obtain ⟨p, vs, ex, hs, hp⟩ := h1.lst hz
      subst ex
      rw [bools_eq e] at hp
      rw [rp_bools hp] at hs
      exact ⟨p, ns, rfl, .inl hs, give hz hq (.bl _)⟩
    · cases hf
  · cases hf

/-! ### repr -/
mutual
def rok : Da → Bool
  | .none => true
  | .bool _ => true
  | .int i => decide (i.natAbs < 2 ^ 1000)
  | .str x => x.cps.toList.all fun c => decide (c < 1114112)
  | .list ds => rokAll ds
  | .tuple ds => rokAll ds
  | .dict _ => false
def rokAll : List Da → Bool
  | [] => true
  | d :: ds => rok d && rokAll ds
end
/-- {} alone -/
def emptyD : Da → Bool
  | .dict [] => true
  | _ => false
/-- a great int alone -/
def bigI : Da → Bool
  | .int i => decide (i.natAbs < 2 ^ 1900)
  | _ => false
def reprOk (d : Da) : Bool := emptyD d || bigI d || (rok d && decide (d.bulk ≤ 16000) && decide (d.depth ≤ 60))
theorem emptyD_eq {d : Da} (h : emptyD d = true) : d = .dict [] := by
  unfold emptyD at h
  split at h
  · rfl
  · cases h
theorem bigI_eq {d : Da} (h : bigI d = true) : ∃ i : Int, d = .int i ∧ i.natAbs < 2 ^ 1900 := by
  unfold bigI at h
  split at h
  · exact ⟨_, rfl, of_decide_eq_true h⟩
  · cases h
theorem reprOk_ne {d : Da} (h : reprOk d = true) (e : emptyD d = false) (e2 : bigI d = false) : (rok d && decide (d.bulk ≤ 16000) && decide (d.depth ≤ 60)) = true := by
  unfold reprOk at h
  rw [e, e2, Bool.false_or, Bool.false_or] at h
  exact h
theorem log2_1000 {n : Nat} (h : n < 2 ^ 1000) : n.log2 < 1920 := Nat.lt_trans (PySem.Flt.log2_lt_of (by decide) h) (by decide)
theorem Str.cons_fact : True := trivial
theorem shown_int_len {i : Int} (h : i.natAbs < 2 ^ 1000) : (PyData.shown (.int i)).length ≤ 1001 := by
  simp only [PyData.shown]
  show (Str.ofString (toString i)).length ≤ 1001
  rw [PySem.ofString_length]
  exact int_text_length_le (k := 1000) (by decide) (PySem.Flt.log2_lt_of (by decide) h)
mutual
theorem rok_short : ∀ d : Da, rok d = true → d.leavesShort 1001 = true ∧ d.showable = true ∧ d.hasDict = false
  | .none, _ => ⟨rfl, rfl, rfl⟩
  | .bool _, _ => ⟨rfl, rfl, rfl⟩
  | .int i, h => by
    have h' : i.natAbs < 2 ^ 1000 := by simpa [rok] using h
    refine ⟨?_, ?_, rfl⟩
    · simp only [PyData.leavesShort, decide_eq_true_eq]; exact shown_int_len h'
    · simp only [PyData.showable, decide_eq_true_eq]; exact log2_1000 h'
  | .str x, h => by
    have h' : ∀ c ∈ x.cps.toList, c < 1114112 := by simpa only [rok, List.all_eq_true, decide_eq_true_eq] using h
    refine ⟨?_, rfl, rfl⟩
    simp only [PyData.leavesShort, List.all_eq_true, decide_eq_true_eq]
    intro c hc
    exact Nat.lt_trans (h' c hc) (by decide)
  | .list ds, h => by
    obtain ⟨a, b, c⟩ := rok_shortAll ds (by simpa only [rok] using h)
    exact ⟨by simpa only [PyData.leavesShort] using a, by simpa only [PyData.showable] using b, by simpa only [PyData.hasDict] using c⟩
  | .tuple ds, h => by
    obtain ⟨a, b, c⟩ := rok_shortAll ds (by simpa only [rok] using h)
    exact ⟨by simpa only [PyData.leavesShort] using a, by simpa only [PyData.showable] using b, by simpa only [PyData.hasDict] using c⟩
  | .dict _, h => by simp [rok] at h
theorem rok_shortAll : ∀ ds : List Da, rokAll ds = true → PyData.leavesShortAll 1001 ds = true ∧ PyData.showableAll ds = true ∧ PyData.hasDictAll ds = false
  | [], _ => ⟨rfl, rfl, rfl⟩
  | d :: ds, h => by
    rw [rokAll, Bool.and_eq_true] at h
    obtain ⟨a, b, c⟩ := rok_short d h.1
    obtain ⟨a', b', c'⟩ := rok_shortAll ds h.2
    simp only [PyData.leavesShortAll, PyData.showableAll, PyData.hasDictAll, a, b, c, a', b', c', Bool.and_self, Bool.or_self, and_self]
end
mutual
theorem Rp.dpR : ∀ (d : Da) (x : V), d.hasDict = false → Rp K H x d → Dp K H x d
  | .none, _, _, q => by cases q; exact .non
  | .bool b, _, _, q => by cases q; exact .bl b
  | .int i, _, _, q => by cases q; exact .int i
  | .str s, _, _, q => by cases q; exact .str s
  | .list ds, _, h, q => by
    cases q with
    | lst hs ha => exact .lst (.inl hs) (RpAll.dpR ds _ (by simpa [PyData.hasDict] using h) ha)
  | .tuple ds, _, h, q => by
    cases q with
    | tup hs ha => exact .tup hs (RpAll.dpR ds _ (by simpa [PyData.hasDict] using h) ha)
  | .dict ds, _, h, q => by simp [PyData.hasDict] at h
theorem RpAll.dpR : ∀ (ds : List Da) (xs : List V), PyData.hasDictAll ds = false → RpAll K H xs ds → DpAll K H xs ds
  | [], _, _, q => by cases q; exact .nil
  | d :: ds, _, h, q => by
    have h' : d.hasDict = false ∧ PyData.hasDictAll ds = false := by simpa [PyData.hasDictAll] using h
    cases q with
    | cons h1 h2 => exact .cons (Rp.dpR d _ h'.1 h1) (RpAll.dpR ds _ h'.2 h2)
end
theorem shown_big {i : Int} (h : i.natAbs < 2 ^ 1900) : (PyData.shown (.int i)).length ≤ 1901 := by
  simp only [PyData.shown]
  show (Str.ofString (toString i)).length ≤ 1901
  rw [PySem.ofString_length]
  exact int_text_length_le (k := 1900) (by decide) (PySem.Flt.log2_lt_of (by decide) h)
theorem reprOk_len {d : Da} (h : reprOk d = true) : d.shown.length ≤ sizeLine := by
  cases he : emptyD d with
  | true => rw [emptyD_eq he, szL]; decide
  | false =>
  cases hb : bigI d with
  | true =>
    obtain ⟨i, rfl, hi⟩ := bigI_eq hb
    rw [szL]
    exact Nat.le_trans (shown_big hi) (by decide)
  | false =>
  replace h := reprOk_ne h he hb
  simp only [Bool.and_eq_true, decide_eq_true_eq] at h
  have a := PyData.shown_le_bulk 1001 (by decide) d (rok_short d h.1.1).1
  rw [szL]
  have : (1001 + 2) * d.bulk ≤ 1003 * 16000 := Nat.mul_le_mul (by decide) h.1.2
  omega
def rRepr (K : PySem.W.Frag) : List V → Hp → VK → Prop := fun xs H Q => ∃ x d, xs = [x] ∧ Rp K H x d ∧ reprOk d = true ∧ Q (.str d.shown) H
theorem call_reprU {X : Cx} (hg : X.A.guards = some []) (hu : X.A.units + 70 < cLine) : CallR X (.builtin "repr") (rRepr X.K) := by
  intro pins s σ H xs us Q I r h
  obtain ⟨x, d, rfl, hr, ok, q⟩ := h
  have hl := reprOk_len ok
  cases he : emptyD d with
  | true =>
    have ed := emptyD_eq he
    subst ed
    obtain ⟨u, rfl, ru⟩ := vals1 r
    have key : ∃ a as, u = .ref a ∧ Reads s.heap u (.dict []) as ∧ sysModules ∉ as := by
      cases hr with
      | dk hs ha =>
        cases ha
        cases ru
        obtain ⟨_, nm, vs, kv, o, es, ep, h1, h2, h3, h4, h5, _⟩ := dk_rd I.hok hs
        cases kv
        have e0 : es.toList = [] := by
          cases hes : es.toList with
          | nil => rfl
          | cons b l => rw [hes] at h5; cases h5
        refine ⟨_, _, rfl, Reads.dict (as := []) (bs := []) h1 h2.1 h3 (by rw [e0]; exact .nil) (by rw [e0]; exact .nil), fun hm => ?_⟩
        have hm' := List.mem_cons.mp hm
        rcases hm' with z | z
        · rw [← z] at nm; simp at nm
        · cases z
    obtain ⟨a, as, rfl, hrd, hsm⟩ := key
    exact repr_of_reads' hrd rfl (fun _ => hsm) hg (by
      have h60 : PyData.depth (.dict []) ≤ 60 := by decide
      omega) (fun _ _ z => z) (fun h' u tk hk => ⟨.str _, H, I.kept hk, ⟨_, rfl⟩, q⟩) hl
  | false =>
  cases hb : bigI d with
  | true =>
    obtain ⟨i, rfl, hi⟩ := bigI_eq hb
    obtain ⟨u, rfl, ru⟩ := vals1 r
    cases hr
    obtain ⟨t, rfl⟩ := ru
    exact PySem.P.repr_of_int (Nat.lt_trans (PySem.Flt.log2_lt_of (by decide) hi) (by decide)) ⟨.str _, H, I.tok _, ⟨_, rfl⟩, by simpa only [PyData.shown] using q⟩
  | false =>
  replace ok := reprOk_ne ok he hb
  simp only [Bool.and_eq_true, decide_eq_true_eq] at ok
  obtain ⟨⟨ok1, ok2⟩, ok3⟩ := ok
  obtain ⟨_, hs, hd⟩ := rok_short d ok1
  obtain ⟨u, rfl, ru⟩ := vals1 r
  cases d with
  | none => cases hr; cases ru; exact PySem.P.repr_of_none ⟨.str _, H, I.tok _, ⟨_, rfl⟩, q⟩
  | bool b => cases hr; cases ru; exact PySem.P.repr_of_bool ⟨.str _, H, I.tok _, ⟨_, rfl⟩, by simpa only [PyData.shown] using q⟩
  | int i =>
    cases hr
    obtain ⟨t, rfl⟩ := ru
    exact PySem.P.repr_of_int (by simpa [PyData.showable] using hs) ⟨.str _, H, I.tok _, ⟨_, rfl⟩, by simpa only [PyData.shown] using q⟩
  | str z =>
    cases hr
    obtain ⟨t, rfl⟩ := ru
    exact PySem.P.repr_of_str (hsz := by simpa only [PyData.shown] using hl) ⟨.str _, H, I.tok _, ⟨_, rfl⟩, by simpa only [PyData.shown] using q⟩
  | list ds =>
    obtain ⟨as, hrd⟩ := Dp.reads I _ _ _ (Rp.dpR _ _ hd hr) ru
    have e : ∃ a, u = .ref a := by cases hr; cases ru; exact ⟨_, rfl⟩
    obtain ⟨a, rfl⟩ := e
    exact repr_of_reads' hrd hs (PyData.noDict_hsm hd) hg (by omega) (fun _ _ z => z) (fun h' u tk hk => ⟨.str _, H, I.kept hk, ⟨_, rfl⟩, q⟩) hl
  | tuple ds =>
    obtain ⟨as, hrd⟩ := Dp.reads I _ _ _ (Rp.dpR _ _ hd hr) ru
    have e : ∃ a, u = .ref a := by cases hr; cases ru; exact ⟨_, rfl⟩
    obtain ⟨a, rfl⟩ := e
    exact repr_of_reads' hrd hs (PyData.noDict_hsm hd) hg (by omega) (fun _ _ z => z) (fun h' u tk hk => ⟨.str _, H, I.kept hk, ⟨_, rfl⟩, q⟩) hl
  | dict _ => simp [PyData.hasDict] at hd
def opRepr : List Da → Option Vl
  | [d] => if reprOk d then some (.val (.str d.shown)) else none
  | _ => none
theorem opS_repr : OpS K opRepr (rRepr K) := by
  intro xs ds v Z H Q hz ha hf hq
  unfold opRepr at hf
  split at hf
  · split at hf
    · rename_i hc
      cases hf
      obtain ⟨x, rfl, h1⟩ := all1 ha
      exact ⟨x, _, rfl, h1.rp hz, hc, give hz hq (.str _)⟩
    · cases hf
  · cases hf
end

/-! sorted -/
def ins (x : Int) : List Int → List Int
  | [] => [x]
  | y :: ys => if x ≤ y then x :: y :: ys else y :: ins x ys
def isort : List Int → List Int
  | [] => []
  | x :: xs => ins x (isort xs)
theorem ins_perm (x : Int) : ∀ ys : List Int, (ins x ys).Perm (x :: ys)
  | [] => .refl _
  | y :: ys => by
    unfold ins
    split
    · exact .refl _
    · exact ((ins_perm x ys).cons y).trans (.swap x y ys)
theorem isort_perm : ∀ xs : List Int, (isort xs).Perm xs
  | [] => .refl _
  | x :: xs => (ins_perm x _).trans ((isort_perm xs).cons x)
theorem ins_sorted (x : Int) : ∀ {ys : List Int}, ys.Pairwise (· ≤ ·) → (ins x ys).Pairwise (· ≤ ·)
  | [], _ => .cons (fun _ h => nomatch h) .nil
  | y :: ys, h => by
    unfold ins
    have hy := List.pairwise_cons.mp h
    split
    · rename_i c
      refine .cons (fun z hz => ?_) h
      rcases List.mem_cons.mp hz with rfl | hz
      · exact c
      · exact Int.le_trans c (hy.1 z hz)
    · rename_i c
      refine .cons (fun z hz => ?_) (ins_sorted x hy.2)
      rcases List.mem_cons.mp ((ins_perm x ys).mem_iff.mp hz) with rfl | hz
      · omega
      · exact hy.1 z hz
theorem isort_sorted : ∀ xs : List Int, (isort xs).Pairwise (· ≤ ·)
  | [] => .nil
  | x :: xs => ins_sorted x (isort_sorted xs)
theorem sorted_one : ∀ {xs ys : List Int}, xs.Perm ys → xs.Pairwise (· ≤ ·) → ys.Pairwise (· ≤ ·) → xs = ys
  | [], ys, h, _, _ => h.nil_eq
  | x :: xs, [], h, _, _ => by have := h.length_eq; simp at this
  | x :: xs, y :: ys, h, h1, h2 => by
    have a := List.pairwise_cons.mp h1
    have b := List.pairwise_cons.mp h2
    have e : x = y := by
      have m1 : x ∈ y :: ys := h.mem_iff.mp List.mem_cons_self
      have m2 : y ∈ x :: xs := h.mem_iff.mpr List.mem_cons_self
      rcases List.mem_cons.mp m1 with c | c
      · exact c
      · rcases List.mem_cons.mp m2 with d | d
        · exact d.symm
        · have := b.1 x c; have := a.1 y d; omega
    subst e
    rw [sorted_one ((List.perm_cons x).mp h) a.2 b.2]
section
variable {K : PySem.W.Frag} {Z H : Hp} {x : V} {d : Da} {v : Vl}
def keysI : List (Da × Da) → Option (List Int)
  | [] => some []
  | (.int i, _) :: ds => (keysI ds).map (i :: ·)
  | _ => none
def opSorted : List Da → Option Vl
  | [.list ds] => match intsD ds with
    | some ns => some (.own (.list ((isort ns).map .int)))
    | none => none
  | [.dict ds] => match keysI ds with
    | some ns => if ns.length < 64 then some (.own (.list ((isort ns).map .int))) else none
    | none => none
  | _ => none
def rSortU (K : PySem.W.Frag) : List V → Hp → VK → Prop := fun vs H Q => rSortedI K vs H Q ∨ ∃ (a : Addr) (kvs : List (Key × V)) (ks : List Int), vs = [.ref a] ∧ Rd H a (.dK kvs) ∧ kvs.map (·.1) = ks.map Sum.inl ∧ ks.length < 64 ∧
    ∀ (ys : List Int) (p : Addr), ys.Perm ks → ys.Pairwise (· ≤ ·) → H p = none → Q (.ref p) (upd H p (.lst (ys.map V.int)))
theorem call_sortU {X : Cx} (hc : X.calm = true) : CallR X (.builtin "sorted") (rSortU X.K) := cr_sortedI.or (call_sortedDI hc)
theorem ints_v : ∀ {ns : List Int} {vs : List V}, RpAll K Z vs (ns.map .int) → vs = ns.map V.int
  | [], _, h => by cases h; rfl
  | n :: ns, _, h => by
    cases h with
    | cons h1 h2 => cases h1; rw [ints_v h2]; rfl
theorem v_ints (Z : Hp) : ∀ ns : List Int, RpAll K Z (ns.map V.int) (ns.map .int)
  | [] => .nil
  | _ :: ns => .cons (.int _) (v_ints Z ns)
theorem keys_rp : ∀ {ds : List (Da × Da)} {xs : List (Key × V)} {ns : List Int}, RpKv K Z xs ds → keysI ds = some ns → xs.map (·.1) = ns.map Sum.inl ∧ keyed ds = true
  | [], _, _, q, h => by cases q; cases h; exact ⟨rfl, rfl⟩
  | _ :: _, _, ns, q, h => by
    cases q with
    | cons h1 h2 =>
      rename_i ds k v vs d
      cases k with
      | inr s => cases h
      | inl i =>
        have h : (keysI ds).map (i :: ·) = some _ := h
        cases e : keysI ds with
        | none => rw [e] at h; cases h
        | some ms =>
          rw [e] at h
          cases h
          obtain ⟨a, b⟩ := keys_rp h2 e
          exact ⟨by rw [List.map_cons, a]; rfl, by unfold keyed at b ⊢; rw [List.all_cons, b]; rfl⟩
theorem keysI_keyed : ∀ {ds : List (Da × Da)} {ns : List Int}, keysI ds = some ns → keyed ds = true
  | [], _, _ => rfl
  | (.int i, _) :: ds, _, h => by
    have h : (keysI ds).map (i :: ·) = some _ := h
    cases e : keysI ds with
    | none => rw [e] at h; cases h
    | some ms => have := keysI_keyed e; unfold keyed at this ⊢; rw [List.all_cons, this]; rfl
  | (.none, _) :: _, _, h => by cases h
  | (.bool _, _) :: _, _, h => by cases h
  | (.str _, _) :: _, _, h => by cases h
  | (.list _, _) :: _, _, h => by cases h
  | (.tuple _, _) :: _, _, h => by cases h
  | (.dict _, _) :: _, _, h => by cases h
theorem opS_sorted : OpS K opSorted (rSortU K) := by
  intro xs ds v Z H Q hz ha hf hq
  unfold opSorted at hf
  split at hf
  · rename_i l
    cases e : intsD l with
    | none => rw [e] at hf; cases hf
    | some ns =>
      rw [e] at hf
      cases hf
      have el := ints_eq e
      subst el
      obtain ⟨x, rfl, h1⟩ := all1 ha
      obtain ⟨p, vs, ex, hs, hp⟩ := h1.lst hz
      subst ex
      have ev := ints_v hp
      subst ev
      refine .inl ⟨p, ns, rfl, .inl hs, fun ns' q hperm hsort hn => ?_⟩
      have e2 : ns' = isort ns := sorted_one (hperm.trans (isort_perm ns).symm) hsort (isort_sorted ns)
      subst e2
      exact give_list hz hq (v_ints Z _) q hn
  · rename_i l
    cases e : keysI l with
    | none => rw [e] at hf; cases hf
    | some ns =>
      rw [e] at hf
      by_cases c : ns.length < 64
      · dsimp only at hf
        rw [if_pos c] at hf
        cases hf
        obtain ⟨x, rfl, h1⟩ := all1 ha
        obtain ⟨p, vs, ex, hs, hp⟩ := h1.dic hz (keysI_keyed e)
        subst ex
        refine .inr ⟨p, vs, ns, rfl, hs, (keys_rp hp e).1, c, fun ns' q hperm hsort hn => ?_⟩
        have e2 : ns' = isort ns := sorted_one (hperm.trans (isort_perm ns).symm) hsort (isort_sorted ns)
        subst e2
        exact give_list hz hq (v_ints Z _) q hn
      · dsimp only at hf
        rw [if_neg c] at hf; cases hf
  · cases hf
end
end Mi

set_option maxHeartbeats 1000000
namespace Mi
open PySem PySem.Spec PyProof.Rows L2

section
variable {K : PySem.W.Frag} {Z H : Hp} {x : V} {d : Da} {v : Vl}
/-! ### items -/
def itemD (ds : List Da) (i : Int) : Option Da := if 0 ≤ i then ds[i.toNat]? else if -(ds.length : Int) ≤ i then ds[(i + ds.length).toNat]? else none
theorem atI_rp {vs : List V} {ds : List Da} (h : RpAll K Z vs ds) {i : Int} {d : Da} (e : itemD ds i = some d) : ∃ x, atI vs i = some x ∧ Rp K Z x d := by
  have hl := h.length
  unfold itemD at e
  unfold atI ixN
  by_cases h0 : 0 ≤ i
  · rw [if_pos h0] at e ⊢
    have lt : i.toNat < ds.length := (List.getElem?_eq_some_iff.mp e).1
    rw [if_pos (by omega)]
    obtain ⟨x, ex, rx⟩ := h.get e
    exact ⟨x, ex, rx⟩
  · rw [if_neg h0] at e ⊢
    split at e
    · rename_i h1
      rw [if_pos (by omega), hl]
      obtain ⟨x, ex, rx⟩ := h.get e
      exact ⟨x, ex, rx⟩
    · cases e
def rIxK : R2 := fun x y H Q => ∃ a kvs k v, x = .ref a ∧ y = kV k ∧ Rd H a (.dK kvs) ∧ valV kvs k = some v ∧ Q v H
theorem ix_dk {X : Cx} (hu : X.A.units + 1 < cLine) : IxR X rIxK := by
  intro value slice pins s σ H x y v u Q I rx ry h hs
  obtain ⟨a, kvs, k, w, rfl, rfl, hr, hv, q⟩ := h
  obtain rfl : v = Value.ref a := rx
  have g : DGet H a (kV k) (some w) := .inl ⟨kvs, k, hr, rfl, hv.symm⟩
  exact tail_any (dict_typeIs I g) slot_dict_getitem.lookup (d_getItem hu I g ry fun w' s' I' rw' => ⟨w, H, I', rw', q⟩) hs
def rItem (K : PySem.W.Frag) : R2 := fun x y H Q => rIx K x y H Q ∨ rIxK x y H Q
theorem ix_itemU {X : Cx} (hu : X.A.units + 1 < cLine) : IxR X (rItem X.K) := ix_seq.or (ix_dk hu)
def opItem : List Da → Option Vl
  | [.list ds, .int i] => (itemD ds i).map .val
  | [.tuple ds, .int i] => (itemD ds i).map .val
  | [.str s, .int i] => if s.length ≤ 16777216 then (atI s.cps.toList i).map fun c => .val (.str ⟨#[c]⟩) else none
  | [.dict ds, a] => match kOf a with
    | some k => if keyed ds then (getDd ds k).map .val else none
    | none => none
  | _ => none
theorem opS_item : OpS K opItem (at2 (rItem K)) := by
  intro xs ds v Z H Q hz ha hf hq
  unfold opItem at hf
  split at hf
  · rename_i ds i
    obtain ⟨x, y, rfl, h1, h2⟩ := all2 ha
    cases e : itemD ds i with
    | none => rw [e] at hf; cases hf
    | some d =>
      rw [e] at hf
      cases hf
      obtain ⟨p, vs, ex, hs, hp⟩ := h1.lst hz
      obtain ⟨z, ez, rz⟩ := atI_rp hp e
      exact ⟨x, y, rfl, .inl (.inl ⟨p, vs, i, z, ex, h2.int, .inl hs, ez, give hz hq rz⟩)⟩
  · rename_i ds i
    obtain ⟨x, y, rfl, h1, h2⟩ := all2 ha
    cases e : itemD ds i with
    | none => rw [e] at hf; cases hf
    | some d =>
      rw [e] at hf
      cases hf
      obtain ⟨p, vs, ex, hs, hp⟩ := h1.tup hz
      obtain ⟨z, ez, rz⟩ := atI_rp hp e
      exact ⟨x, y, rfl, .inl (.inr (.inl ⟨p, vs, i, z, ex, h2.int, hs, ez, give hz hq rz⟩))⟩
  · rename_i s i
    split at hf
    · rename_i hl
      obtain ⟨x, y, rfl, h1, h2⟩ := all2 ha
      cases e : atI s.cps.toList i with
      | none => rw [e] at hf; cases hf
      | some c =>
        rw [e] at hf
        cases hf
        exact ⟨x, y, rfl, .inl (.inr (.inr ⟨s, i, c, h1.str, h2.int, by rw [szL]; exact hl, e, give hz hq (.str _)⟩))⟩
    · cases hf
  · split at hf
    · rename_i k hk
      split at hf
      · rename_i hd
        cases e : getDd _ k with
        | none => rw [e] at hf; cases hf
        | some d =>
          rw [e] at hf
          cases hf
          obtain ⟨x, y, rfl, h1, h2⟩ := all2 ha
          obtain ⟨a, vs, ex, hs, hp⟩ := h1.dic hz hd
          obtain ⟨w, ew, rw'⟩ := hp.get k d e
          exact ⟨x, y, rfl, .inr ⟨a, vs, k, w, ex, kOf_rp hk h2, hs, ew, give hz hq rw'⟩⟩
      · cases hf
    · cases hf
  · cases hf

/-! ### slices -/
theorem RpAll.cut {vs : List V} {ds : List Da} (h : RpAll K Z vs ds) (lo hi : Option Int) : RpAll K Z (cutV vs lo hi) ((ds.drop (HT.sIx ds.length 0 lo)).take (HT.sIx ds.length ds.length hi - HT.sIx ds.length 0 lo)) := by
  have hl := h.length
  unfold cutV
  rw [hl]
  generalize HT.sIx ds.length 0 lo = a
  generalize HT.sIx ds.length ds.length hi - a = b
  refine RpAll.of_get (by simp [hl]) fun i x d h1 h2 => ?_
  rw [List.getElem?_take] at h1 h2
  split at h1
  · rename_i hb
    rw [if_pos hb] at h2
    rw [List.getElem?_drop] at h1 h2
    obtain ⟨y, ey, ry⟩ := h.get h2
    rw [h1] at ey
    cases ey
    exact ry
  · cases h1
theorem RpAll.rev : ∀ {ds : List Da} {vs : List V}, RpAll K Z vs ds → RpAll K Z vs.reverse ds.reverse
  | [], _, h => by cases h; exact .nil
  | d :: ds, _, h => by
    cases h with
    | cons h1 h2 =>
      rw [List.reverse_cons, List.reverse_cons]
      exact (RpAll.rev h2).append (.cons h1 .nil)
def cutD (ds : List Da) (lo hi : Option Int) : List Da := (ds.drop (HT.sIx ds.length 0 lo)).take (HT.sIx ds.length ds.length hi - HT.sIx ds.length 0 lo)
def rSlU (K : PySem.W.Frag) : V → Option Int → Option Int → Hp → VK → Prop := fun x lo hi H Q => rSlL K x lo hi H Q ∨ rSlA K x lo hi H Q
theorem sl_U {X : Cx} : SlR X (rSlU X.K) := sl_list.or sl_tupA
def opSl (lo hi : Option Int) : List Da → Option Vl
  | [.list ds] => some (.own (.list (cutD ds lo hi)))
  | [.tuple ds] => some (.val (.tuple (cutD ds lo hi)))
  | _ => none
theorem opS_sl (lo hi : Option Int) : OpS K (opSl lo hi) (at1 fun x H Q => rSlU K x lo hi H Q) := by
  intro xs ds v Z H Q hz ha hf hq
  unfold opSl at hf
  split at hf
  · cases hf
    obtain ⟨x, rfl, h1⟩ := all1 ha
    obtain ⟨p, vs, e, hs, hp⟩ := h1.lst hz
    exact ⟨x, rfl, .inl ⟨p, vs, e, .inl hs, give_list hz hq (hp.cut lo hi)⟩⟩
  · rename_i ds
    cases hf
    obtain ⟨x, rfl, h1⟩ := all1 ha
    have hr := h1.tupZ
    obtain ⟨p, vs, e, hs, hp⟩ := h1.tup hz
    refine ⟨x, rfl, .inr ⟨p, vs, e, hs, fun hw => ?_, fun _ => give_tup hz hq (hp.cut lo hi)⟩⟩
    rw [hp.length] at hw
    have e2 : cutD ds lo hi = ds := by
      unfold cutD
      rw [hw.1, hw.2]
      simp
    subst e
    exact give hz hq (by rw [e2]; exact hr)
  · cases hf
/-- the bounds of a slice by values -/
def opSl3 (a b : Bool) : List Da → Option Vl
  | [d, .int lo, .int hi] => if a && b then opSl (some lo) (some hi) [d] else none
  | [d, .int i] => if a && !b then opSl (some i) none [d] else if b && !a then opSl none (some i) [d] else none
  | [d] => if a || b then none else opSl none none [d]
  | _ => none
/-! xs[::-1], a list or a tuple -/
theorem adjust_rev (n : Nat) : Builtin.Slice.sliceAdjust none none (-1) (n : Int) = ((n : Int) - 1, -1) := by
  have h1 : ((-1 : Int) < 0) := by omega
  unfold Builtin.Slice.sliceAdjust
  simp only [h1, if_true]
theorem places_rev (n : Nat) : Builtin.Slice.slicePlaces ((n : Int) - 1) (-1) (-1) = n := by
  unfold Builtin.Slice.slicePlaces
  have h1 : ¬ ((-1 : Int) > 0) := by omega
  simp only [h1, if_false, Int.neg_neg, Int.ediv_one]
  split <;> omega
theorem pick_rev (xs : Array Value) : ((List.range xs.size).filterMap fun (m : Nat) => xs[(((xs.size : Nat) : Int) - 1 + (m : Int) * (-1)).toNat]?).toArray = xs.toList.reverse.toArray := by
  congr 1
  apply List.ext_getElem?
  intro i
  have e : ∀ k, k ≤ xs.size → ((List.range k).filterMap fun (m : Nat) => xs[(((xs.size : Nat) : Int) - 1 + (m : Int) * (-1)).toNat]?) = xs.toList.reverse.take k := by
    intro k
    induction k with
    | zero => intro _; simp
    | succ k ih =>
      intro hk
      rw [List.range_succ, List.filterMap_append, ih (by omega), List.take_add_one]
      congr 1
      have h1 : (((xs.size : Nat) : Int) - 1 + (k : Int) * (-1)).toNat = xs.size - 1 - k := by omega
      have h2 : xs.toList.reverse[k]? = xs[xs.size - 1 - k]? := by
        rw [List.getElem?_reverse (by simp; omega)]
        simp
      rw [h2]
      simp only [List.filterMap_cons, List.filterMap_nil, h1]
      rw [Array.getElem?_eq_getElem (by omega)]
      rfl
  rw [e xs.size (Nat.le_refl _), List.take_of_length_le (by simp)]
section
variable {prog : Program} {w : World} {A : Around} {E : Value → Shared → Prop} {s : Shared}
theorem sliceApplied_rev {sl : Addr} {vl vu vs : Value} {n : Nat} {Q : Int × Int × Nat → Shared → Prop} (hs : s.heap.IsSliceOf sl vl vu vs) (pl : IsPart vl none) (pu : IsPart vu none) (ps : IsPart vs (some (-1)))
    (h : Q ((n : Int) - 1, -1, n) s) : wpAny (model prog w) A (Builtin.Slice.sliceApplied (.ref sl) (pure (n : Int))) Q E s := by
  obtain ⟨os, hos, hcs, hds⟩ := id hs
  unfold Builtin.Slice.sliceApplied Builtin.Slice.sliceFields
  refine wpAny_bind (wpAny_bind (wpAny_field hos hds (x := vl) rfl (wpAny_bind (wpAny_field hos hds (x := vu) rfl (wpAny_bind (wpAny_field hos hds (x := vs) rfl (wpAny_pure ?_)))))))
  refine wpAny_bind (HT.slicePart_ ps ?_)
  show wpAny _ _ (if ((-1 : Int) == 0) = true then _ else _) _ _ s
  rw [if_neg (by decide)]
  refine wpAny_bind (HT.slicePart_ pl (wpAny_bind (HT.slicePart_ pu (wpAny_bind (wpAny_pure ?_)))))
  show wpAny _ _ (match Builtin.Slice.sliceAdjust none none (-1) (n : Int) with | (lo, hi) => pure (lo, (-1 : Int), Builtin.Slice.slicePlaces lo hi (-1))) _ _ s
  rw [adjust_rev n]
  show wpAny _ _ (pure ((n : Int) - 1, (-1 : Int), Builtin.Slice.slicePlaces ((n : Int) - 1) (-1) (-1))) _ _ s
  rw [places_rev]
  exact wpAny_pure h
theorem getItem_tuple_rev {t sl : Addr} {items : Array Value} {vl vu vs : Value} {Q : Value → Shared → Prop} (ht : PyProof.Rows.IsTup s.heap t items) (hs : s.heap.IsSliceOf sl vl vu vs) (pl : IsPart vl none) (pu : IsPart vu none) (ps : IsPart vs (some (-1)))
    (h : Q (.ref s.heap.objs.size) { s with heap := s.heap.push { cls := .type "tuple", data := .seq items.toList.reverse.toArray } }) (hsz : items.size ≤ sizeLine) : wpAny (model prog w) A (getItem (.ref t) (.ref sl)) Q E s := by
  have htake : sizeOk (.seq items.toList.reverse.toArray) := by
    show items.toList.reverse.toArray.size ≤ sizeLine
    rw [List.size_toArray, List.length_reverse, Array.length_toList]
    exact hsz
  obtain ⟨os, hos, hcs, hds⟩ := id hs
  have hTs : s.TypeIs (.ref sl) "slice" := ⟨os, hos, hcs⟩
  unfold getItem
  try with_reducible refine wpAny_holding ?_
  first | refine wpAny_bind (wpAny_pure ?_) | skip
  refine wpAny_bind (wpAny_sequenceKey ht.typeIs (by decide) ?_)
  refine wpAny_bind (wpAny_callSpecial?_slot (name := Str.ofString "__getitem__") ht.typeIs PyProof.Rows.slot_tuple_getitem
    (wpAny_call_entry PyProof.Rows.slot_tuple_getitem ht.typeIs PyProof.Rows.entry_tuple_getitem ?_ (PyProof.Rows.args_tuple_getitem _ _)))
  show wpAny _ _ (Builtin.Tuple.tupleItemsOf (.ref t) >>= _) _ _ s
  refine wpAny_bind (PyProof.Rows.tupleItemsOf_ ht ?_)
  refine wpAny_bind (wpAny_typeOf hTs ?_)
  rw [if_pos (by decide)]
  refine wpAny_bind (sliceApplied_rev hs pl pu ps ?_)
  have hno : ¬ ((((items.size : Int) - 1) == 0 && (-1 : Int) == 1 && items.size == items.size) = true) := by
    intro q
    rw [Bool.and_eq_true, Bool.and_eq_true] at q
    exact absurd q.1.2 (by decide)
  show wpAny _ _ (if (((items.size : Int) - 1) == 0 && (-1 : Int) == 1 && items.size == items.size) = true then _ else _) _ _ s
  rw [if_neg hno, pick_rev]
  first
    | exact wpAny_bind (m := Builtin.Tuple.tupleExact _) (wpAny_newObj_type (wpAny_pure ⟨_, rfl, wpAny_pure h⟩) htake)
    | exact wpAny_bind (m := Builtin.Tuple.tupleExact _) (wpAny_newObj_type (wpAny_bind (wpAny_pure (wpAny_pure ⟨_, rfl, wpAny_pure h⟩))) htake)
    | exact wpAny_bind (wpAny_bind (m := Builtin.Tuple.tupleExact _) (wpAny_newObj_type (wpAny_pure (wpAny_pure ⟨_, rfl, wpAny_pure h⟩)) htake))
    | exact wpAny_bind (wpAny_bind (m := Builtin.Tuple.tupleExact _) (wpAny_newObj_type (wpAny_pure ⟨_, rfl, wpAny_pure h⟩) htake))
end
def rRevU (K : PySem.W.Frag) : V → Hp → VK → Prop := fun x H Q => ∃ a xs, x = .ref a ∧ ((SqL K H a xs ∧ ∀ p, H p = none → Q (.ref p) (upd H p (.lst xs.reverse))) ∨ (SqT K H a xs ∧ ∀ p, H p = none → Q (.ref p) (upd H p (.tup xs.reverse))))
def tRevU (K : PySem.W.Frag) (te : TE) : TE := fun σ H Q => te σ H fun x H1 => rRevU K x H1 Q
theorem pe_revU {X : Cx} {e : Expr} {te : TE} {k : Nat} {p1 p2 p3 pos : Pos} (he : PE X e te) : PE X (.Subscript e (.Slice none none (some (.UnaryOp .USub (.Constant (.int 1) k p1) p2)) p3) pos) (tRevU X.K te) := by
  refine ⟨fun pins s σ H Q I h => ?_⟩
  refine Subscript_ (thn (he.run pins s σ H _ I h) fun v s1 ⟨x, H1, I1, r1, q1⟩ => ?_)
  obtain ⟨a, xs, ex, hq⟩ := q1
  subst ex
  cases r1
  have hst : PO X (some (.UnaryOp .USub (.Constant (.int 1) k p1) p2)) (tPart (tUn (rU fun i => .int (-i)) (tC (.int 1)))) := po_some (pe_un un_neg pe_int)
  refine wpAny_Slice (thn (po_none.run pins s1 σ H1 (fun o H2 => o = none ∧ H2 = H1) I1 ⟨rfl, rfl⟩) fun vl s2 ⟨l, H2, I2, pl, el, e2⟩ => ?_)
  subst el e2
  refine thn (po_none.run pins s2 σ H2 (fun o H3 => o = none ∧ H3 = H2) I2 ⟨rfl, rfl⟩) fun vu s3 ⟨u, H3, I3, pu, eu, e3⟩ => ?_
  subst eu e3
  refine thn (hst.run pins s3 σ H3 (fun o H4 => o = some (-1) ∧ H4 = H3) I3 ⟨1, rfl, -1, rfl, rfl, rfl⟩) fun vs s4 ⟨o, H4, I4, ps, eo, e4⟩ => ?_
  subst eo e4
  have I5 : Inv X pins σ H4 { s4 with heap := s4.heap.push { cls := .type "slice", data := .fields #[vl, vu, vs] } } := I4.kept (t' := s4.toks) fun b ob q => Heap.get?_push_of_some _ q
  rcases hq with ⟨hx, q⟩ | ⟨hx, q⟩
  · obtain ⟨its, r, ht, hz⟩ := I5.list hx
    have hlen := r.length
    show wpAny (model X.prog X.w) X.A (subscriptTail e (.Slice none none (some (.UnaryOp .USub (.Constant (.int 1) k p1) p2)) p3) (.ref a) (.ref s4.heap.objs.size)) (EP X pins σ Q) X.xe { s4 with heap := s4.heap.push { cls := .type "slice", data := .fields #[vl, vu, vs] } }
    refine tail_any (ops := [.ref a, .ref s4.heap.objs.size]) ht.isList.typeIs (PySem.slot_list_getitem.lookup) ?_ (by with_unfolding_all rfl)
    refine wpAny_getItem_list_slice ht.isList (Heap.IsSliceOf.new _ vl vu vs) pl pu ps (by decide) ?_ (by rw [List.size_toArray]; omega)
    rw [PySem.W.krv_pick]
    refine ⟨.ref _, _, I5.laid (t' := s4.toks) (o := .lst xs.reverse) (fun b ob q => Heap.get?_push_of_some _ q) (Nat.le_refl _) ?_, rfl, q _ (I5.hok.fresh (Nat.le_refl _))⟩
    exact ⟨by rw [List.length_reverse]; exact hz, _, 0, r.reverse, Heap.get?_push_size _ rfl⟩
  · obtain ⟨its, r, ht, hz⟩ := I5.tuple hx
    have hlen := r.length
    show wpAny (model X.prog X.w) X.A (subscriptTail e (.Slice none none (some (.UnaryOp .USub (.Constant (.int 1) k p1) p2)) p3) (.ref a) (.ref s4.heap.objs.size)) (EP X pins σ Q) X.xe { s4 with heap := s4.heap.push { cls := .type "slice", data := .fields #[vl, vu, vs] } }
    refine tail_any (ops := [.ref a, .ref s4.heap.objs.size]) ht.typeIs (PyProof.Rows.slot_tuple_getitem.lookup) ?_ (by with_unfolding_all rfl)
    refine getItem_tuple_rev ht (Heap.IsSliceOf.new _ vl vu vs) pl pu ps ?_ (by rw [List.size_toArray]; omega)
    refine ⟨.ref _, _, I5.laid (t' := s4.toks) (o := .tup xs.reverse) (fun b ob q => Heap.get?_push_of_some _ q) (Nat.le_refl _) ?_, rfl, q _ (I5.hok.fresh (Nat.le_refl _))⟩
    exact ⟨by rw [List.length_reverse]; exact hz, _, r.reverse, PyProof.Rows.IsTup.new _ _⟩
def opRev : List Da → Option Vl
  | [.list ds] => some (.own (.list ds.reverse))
  | [.tuple ds] => some (.val (.tuple ds.reverse))
  | _ => none
theorem opS_rev : OpS K opRev (at1 fun x H Q => rRevU K x H Q) := by
  intro xs ds v Z H Q hz ha hf hq
  unfold opRev at hf
  split at hf
  · cases hf
    obtain ⟨x, rfl, h1⟩ := all1 ha
    obtain ⟨p, vs, e, hs, hp⟩ := h1.lst hz
    exact ⟨x, rfl, p, vs, e, .inl ⟨.inl hs, give_list hz hq hp.rev⟩⟩
  · cases hf
    obtain ⟨x, rfl, h1⟩ := all1 ha
    obtain ⟨p, vs, e, hs, hp⟩ := h1.tup hz
    exact ⟨x, rfl, p, vs, e, .inr ⟨hs, give_tup hz hq hp.rev⟩⟩
  · cases hf

/-! ### isinstance -/
def tyD : Da → String
  | .none => "NoneType"
  | .bool _ => "bool"
  | .int _ => "int"
  | .str _ => "str"
  | .list _ => "list"
  | .tuple _ => "tuple"
  | .dict _ => "dict"
/-- a def of the module, as data -/
def fnD (x : Str) : Da := .dict [(.list [], .str x)]
def isFn : Da → Bool
  | .dict [(.list [], .str _)] => true
  | _ => false
theorem tyX_rp : ∀ {d : Da} {x : V}, isFn d = false → Rp K H x d → TyX K H x (.type (tyD d))
  | .none, _, _, h => by cases h; exact .base .non
  | .bool b, _, _, h => by cases h; exact .base (.bl b)
  | .int i, _, _, h => by cases h; exact .base (.int i)
  | .str s, _, _, h => by cases h; exact .base (.str s)
  | .list ds, _, _, h => by
    cases h with
    | lst hs ha =>
      rcases hs with hs | ⟨o, hs⟩
      · exact .base (.lst hs)
      · exact .base (.frz hs)
  | .tuple ds, _, _, h => by
    cases h with
    | tup hs ha =>
      rcases hs with (hs | ⟨o, hs⟩) | ⟨o, its, n, hk, hc, _⟩
      · exact .base (.tup hs)
      · exact .fTuple hs
      · exact .kTuple hk hc
  | .dict ds, _, n, h => by
    cases h with
    | dk hs ha =>
      rcases hs with hs | ⟨o, hs⟩
      · exact .base (.dK hs)
      · exact .fDict hs
    | fn y => cases n
def isD (t : String) (d : Da) : Bool := tyD d == t || (t == "int" && tyD d == "bool")
def isTys : List String := ["int", "bool", "str", "list", "tuple", "dict"]
theorem isD_kit : ∀ t ∈ isTys, ∀ y ∈ ["NoneType", "bool", "int", "str", "list", "tuple", "dict"], kitB y t = some (y == t || (t == "int" && y == "bool")) := by decide +kernel
theorem tyD_mem (d : Da) : tyD d ∈ ["NoneType", "bool", "int", "str", "list", "tuple", "dict"] := by cases d <;> simp [tyD]
def opIsi (t : String) : List Da → Option Vl
  | [d] => if isFn d then none else some (.val (.bool (isD t d)))
  | _ => none
def rIsiT1 (K : PySem.W.Frag) (t : String) : V → Hp → VK → Prop := fun x H Q => ∃ (u : Value) (b : Bool), TyX K H x u ∧ PySem.W.kitOne K u (.type t) = some b ∧ Q (.bl b) H
theorem opS_isi {t : String} (ht : t ∈ isTys) : OpS K (opIsi t) (at1 (rIsiT1 K t)) := by
  intro xs ds v Z H Q hz ha hf hq
  unfold opIsi at hf
  split at hf
  · rename_i d
    split at hf
    · cases hf
    rename_i nf
    cases hf
    obtain ⟨x, rfl, h1⟩ := all1 ha
    exact ⟨x, rfl, _, _, tyX_rp (by simpa using nf) (h1.rp hz), kit_ty (isD_kit t ht _ (tyD_mem d)), give hz hq (.bl _)⟩
  · cases hf
end
end Mi

set_option maxHeartbeats 1000000
namespace Mi
open PySem PySem.Spec PyProof.Rows L2

/-! ## forms of expressions, each by its parts -/
section
variable {X : Cx} {R : XR} {W : WX} {Z Z' H H' : Hp} {σ : L2.St} {r r' : Rho} {x : V} {d : Da} {v : Vl} {K : PySem.W.Frag}

theorem PE.to {X : Cx} {e : Expr} {t t' : TE} (h : PE X e t) (f : ∀ σ H Q, t' σ H Q → t σ H Q) : PE X e t' :=
  ⟨fun pins s σ H Q I q => h.run pins s σ H Q I (f σ H Q q)⟩
theorem PT.to {X : Cx} {e : Expr} {t t' : TT} (h : PT X e t) (f : ∀ σ H Q, t' σ H Q → t σ H Q) : PT X e t' :=
  ⟨fun pins s σ H Q I q => h.run pins s σ H Q I (f σ H Q q)⟩
theorem PS.to {X : Cx} {e : Stmt} {t t' : TS} (h : PS X e t) (f : ∀ D σ H, t' D σ H → t D σ H) : PS X e t' :=
  ⟨fun pins s σ H D I q => h.run pins s σ H D I (f D σ H q)⟩

/-- nothing stands at a slot's own container twice: a slot frozen -/
theorem SR.slotFrz (S : SR K Z σ H r) {i : Nat} {d : Da} (h : gt r i = some (.own d)) :
    ∃ x Z', σ[i]? = some (some x) ∧ SR K Z' σ H (r.set i (some (.val d))) ∧ Fr Z σ H r Z' σ H (r.set i (some (.val d))) ∧ Rp K Z' x d := by
  obtain ⟨a, o, e, hz, hh, hp⟩ := S.own_ref (.inl h)
  have hi := gt_lt h
  have rp : Rp K (upd Z a o) (.ref a) d := ObC.rp hp upd_same (le_upd hz)
  refine ⟨_, upd Z a o, e, ⟨fun b u q => ?_, S.tb.frz hh hp.nt, by simp [S.len], fun j v hj hl => ?_, fun j k b d1 d2 h1 h2 e1 e2 => ?_⟩, ⟨fun _ _ q _ => .of q, le_upd hz, fun b q n => ?_, fun b q => ?_, fun j hj => ?_, fun j d' hj => ?_⟩, rp⟩
  · by_cases c : b = a
    · subst c; rw [upd_same] at q; cases q; exact hh
    · rw [upd_ne c] at q; exact S.sub b u q
  · rcases gt_set_cases hj with ⟨ej, q⟩ | ⟨ej, q⟩
    · subst ej
      cases q
      exact ⟨_, e, rp⟩
    · obtain ⟨x, e1, q1⟩ := S.at_ j v q hl
      refine ⟨x, e1, ?_⟩
      have ob : ∀ d', ow r j d' → ObR K Z H x d' → ObR K (upd Z a o) H x d' := fun d' hw q => ObR.le (le_upd hz) q fun b eb => by
        subst eb
        have hb : b ≠ a := fun z => ej (S.sep j i a d' d hw (.inl h) (by rw [← z]; exact e1) e)
        obtain ⟨b', o', e1', hz', _, _⟩ := S.own_ref hw
        rw [e1] at e1'; cases e1'
        exact ⟨rfl, by rw [upd_ne hb]; exact hz'⟩
      cases v with
      | val d' => exact Rp.le (le_upd hz) d' x q1
      | own d' => exact ob d' (.inl q) q1
      | lent d' => exact ob d' (.inr q) q1
      | lck => exact absurd rfl hl
  · have w : ∀ {j d'}, ow (r.set i (some (.val d))) j d' → ow r j d' := fun {j d'} hw => by
      rcases hw with hw | hw
      · rcases gt_set_cases hw with ⟨_, q⟩ | ⟨_, q⟩
        · cases q
        · exact .inl q
      · rcases gt_set_cases hw with ⟨_, q⟩ | ⟨_, q⟩
        · cases q
        · exact .inr q
    exact S.sep j k b d1 d2 (w h1) (w h2) e1 e2
  · by_cases c : b = a
    · subst c; exact .inr ⟨i, d, .inl h, e⟩
    · rw [upd_ne c] at n; exact absurd q n
  · rcases own_set q with q | ⟨d', q, _⟩
    · exact .inl q
    · rcases q with q | q <;> cases q
  · refine ⟨?_, rfl⟩
    have ne : j ≠ i := fun z => by subst z; rw [h] at hj; cases hj
    rw [gt_set_ne ne]; exact hj
  · refine ⟨⟨d', ?_⟩, rfl⟩
    have ne : j ≠ i := fun z => by subst z; rw [h] at hj; cases hj
    rw [gt_set_ne ne]; exact hj

theorem pe_mVar {e : Expr} {i : Nat} (h : PE X e (tVar i)) : PE X e (rdE X.K R W (mVar i)) := PE.to h fun σ H Q q => by
  obtain ⟨Z, r, S, q⟩ := q
  unfold mVar at q
  split at q
  · rename_i d hd
    obtain ⟨x, ex, rx⟩ := S.at_ i _ hd (by intro z; cases z)
    exact ⟨x, ex, q Z H S Fr.refl x rx⟩
  · rename_i d hd
    obtain ⟨x, Z', ex, S', F', rx⟩ := S.slotFrz hd
    exact ⟨x, ex, q Z' H S' F' x rx⟩
  · exact q.elim
theorem pe_mC {e : Expr} {v : V} {d : Da} (h : PE X e (tC v)) (hr : ∀ Z, Rp X.K Z v d) : PE X e (rdE X.K R W (mC d)) := PE.to h fun σ H Q q => by
  obtain ⟨Z, r, S, q⟩ := q
  exact q Z H S Fr.refl v (hr Z)

theorem pe_mStuck {e : Expr} : PE X e (rdE X.K R W mStuck) := ⟨fun _ _ _ _ _ _ q => by obtain ⟨_, _, _, q⟩ := q; exact False.elim q⟩
theorem pt_mStuck {e : Expr} : PT X e (rdT X.K R W mStuck) := ⟨fun _ _ _ _ _ _ q => by obtain ⟨_, _, _, q⟩ := q; exact False.elim q⟩

theorem Eo.mono' {α : Type} {o : Out α} {k k' : α → Rho → Hp → Hp → Prop} (h : Eo K R W Z σ H r o k) (f : ∀ a r' Z' H', k a r' Z' H' → k' a r' Z' H') : Eo K R W Z σ H r o k' := h.mono fun a r' Z' H' _ _ q => f a r' Z' H' q
theorem tOpd_mono {o : Opd} {Q Q' : VK} (h : tOpd K R W o σ H Q) (f : ∀ x H, Q x H → Q' x H) : tOpd K R W o σ H Q' := by
  cases o with
  | sl i => obtain ⟨v, e, q⟩ := h; exact ⟨v, e, f _ _ q⟩
  | ex m => obtain ⟨Z, r, S, q⟩ := h; exact ⟨Z, r, S, q.mono' fun d r' Z' H' k x hx => f _ _ (k x hx)⟩
theorem opd1 {o : Opd} {k : List V → Hp → Prop} {k1 : V → Hp → Prop} (h : tOpds K R W [o] σ H k) (f : ∀ x H, k [x] H → k1 x H) : tOpd K R W o σ H k1 := tOpd_mono h f
theorem opd2 {oa ob : Opd} {k : List V → Hp → Prop} {k2 : V → V → Hp → Prop} (h : tOpds K R W [oa, ob] σ H k) (f : ∀ x y H, k [x, y] H → k2 x y H) :
    tOpd K R W oa σ H fun x H1 => tOpd K R W ob σ H1 fun y H2 => k2 x y H2 := tOpd_mono h fun x H1 q => tOpd_mono q fun y H2 q2 => f x y H2 q2
theorem opd3 {oa ob oc : Opd} {k : List V → Hp → Prop} {k3 : V → V → V → Hp → Prop} (h : tOpds K R W [oa, ob, oc] σ H k) (f : ∀ x y z H, k [x, y, z] H → k3 x y z H) :
    tOpd K R W oa σ H fun x H1 => tOpd K R W ob σ H1 fun y H2 => tOpd K R W oc σ H2 fun z H3 => k3 x y z H3 :=
  tOpd_mono h fun x H1 q => tOpd_mono q fun y H2 q2 => tOpd_mono q2 fun z H3 q3 => f x y z H3 q3
theorem at1_use {t : V → Hp → VK → Prop} {x : V} {H : Hp} {Q : VK} (h : at1 t [x] H Q) : t x H Q := by
  obtain ⟨y, e, q⟩ := h; cases e; exact q
theorem at2_use {t : R2} {x y : V} {H : Hp} {Q : VK} (h : at2 t [x, y] H Q) : t x y H Q := by
  obtain ⟨x', y', e, q⟩ := h; cases e; exact q

section
variable {a b c e : Expr} {es : List Expr} {oa ob oc o : Opd} {os : List Opd} {f g : List Da → Option Vl} {t t' : R2} {pos p : Pos} {m m1 m2 : Mm Vl} {mc : Mm Bool}
theorem pe_mBin {op : Operator} (ho : OpR X (binaryOp op) t) (hs : OpS X.K f (at2 t)) (ha : OpdX X X.K R W a oa) (hb : OpdX X X.K R W b ob) : PE X (.BinOp a op b pos) (rdE X.K R W (mOp f [oa, ob])) :=
  PE.to (pe_op ho ha.pe hb.pe) fun σ H Q q => opd2 (mOp_to hs q) fun x y H h => at2_use h
theorem pe_mUn {t : V → Hp → VK → Prop} {op : UnaryOp} (ho : UnR X (unaryOp op) t) (hs : OpS X.K f (at1 t)) (ha : OpdX X X.K R W a oa) : PE X (.UnaryOp op a pos) (rdE X.K R W (mOp f [oa])) :=
  PE.to (pe_un ho ha.pe) fun σ H Q q => opd1 (mOp_to hs q) fun x H h => at1_use h
theorem pe_mCmp {op : CmpOp} (ho : OpR X (compareOp op) t) (hs : OpS X.K f (at2 t)) (ha : OpdX X X.K R W a oa) (hb : OpdX X X.K R W b ob) (hm : behindInMarks op b = false) :
    PE X (.Compare a [op] [b] pos) (rdE X.K R W (mOp f [oa, ob])) :=
  PE.to (pe_cmpR ho ha.pe hb.pe hm) fun σ H Q q => opd2 (mOp_to hs q) fun x y H h => at2_use h
theorem pe_mItem (hu : X.A.units + 1 < cLine) (ha : OpdX X X.K R W a oa) (hb : OpdX X X.K R W b ob) (hp : PlainIx b) : PE X (.Subscript a b pos) (rdE X.K R W (mOp opItem [oa, ob])) :=
  PE.to (pe_ix (ix_itemU hu) ha.pe hb.pe hp) fun σ H Q q => opd2 (mOp_to opS_item q) fun x y H h => at2_use h

theorem Eo.opt {α : Type} {o : Option α} {k : α → Rho → Hp → Hp → Prop} (S : SR K Z σ H r) (h : Eo K R W Z σ H r (mOpt o r) k) : ∃ a, o = some a ∧ k a r Z H := by
  cases o with
  | none => exact h.elim
  | some a => exact ⟨a, rfl, h Z H S Fr.refl⟩
/-- a test from a value -/
theorem truth_bool {d : Da} {k : Bool} (h : truth d = some k) : d = .bool k := by
  unfold truth at h
  split at h
  · cases h; rfl
  · cases h
theorem test_to {m : Mm Vl} {Q : Bool → Hp → Prop} (h : rdT K R W (mTest m) σ H Q) : tTest (rdV K R W m) σ H Q := by
  obtain ⟨Z, r, S, h⟩ := h
  refine ⟨Z, r, S, (Eo.bnd h).mono fun d r' Z' H' S' F' q x rx => ?_⟩
  obtain ⟨k, hk, q3⟩ := Eo.opt S' q
  have e := truth_bool hk
  subst e
  cases rx
  exact ⟨k, rfl, q3⟩
theorem pt_mTest (h : PE X e (rdE X.K R W m)) (he : ∀ whole, isTrue e X.env whole = (do let v ← whole; standAt e.pos; holding [v] (truthy v))) : PT X e (rdT X.K R W (mTest m)) :=
  PT.to (pt_val (rdV_of h) he) fun σ H Q q => test_to q
theorem pt_mCmp {op : CmpOp} (ho : OpR X (compareOp op) t) (hs : OpS X.K f (at2 t)) (ha : OpdX X X.K R W a oa) (hb : OpdX X X.K R W b ob) (hm : behindInMarks op b = false) :
    PT X (.Compare a [op] [b] pos) (rdT X.K R W (mTest (mOp f [oa, ob]))) :=
  PT.to (pt_cmpR ho ha.pe hb.pe hm) fun σ H Q q => by
    obtain ⟨Z, r, S, h⟩ := q
    have q2 : rdE X.K R W (mOp f [oa, ob]) σ H fun x H' => ∃ k, x = .bl k ∧ Q k H' := by
      refine ⟨Z, r, S, ?_⟩
      have h1 := Eo.fz (Eo.bnd h)
      refine h1.mono fun v r' Z' H' S' F' q x tx => ?_
      obtain ⟨d, Z2, S2, F2, rx, q2⟩ := q x tx
      obtain ⟨k, hk, q3⟩ := Eo.opt S2 q2
      have e := truth_bool hk
      subst e
      cases rx
      exact ⟨k, rfl, q3⟩
    exact opd2 (mOp_to hs q2) fun x y H h => at2_use h

/-- a condition, then one of two -/
theorem Eo.cond {mc : Mm Bool} {α : Type} {m1 m2 : Mm α} {k : α → Rho → Hp → Hp → Prop} (h : Eo K R W Z σ H r (mIf mc m1 m2 r) k) :
    Eo K R W Z σ H r (mc r) fun b r1 Z1 H1 => if b = true then Eo K R W Z1 σ H1 r1 (m1 r1) k else Eo K R W Z1 σ H1 r1 (m2 r1) k := by
  unfold mIf at h
  refine (Eo.bnd h).mono' fun b r' Z' H' q => ?_
  cases b with
  | true => rw [if_pos rfl]; exact q
  | false => rw [if_neg Bool.false_ne_true]; exact q
theorem TmpR.back {H0 : Hp} {r0 : Rho} (F : Fr Z σ H0 r0 Z' σ H r') {Z2 H2 : Hp} {r2 : Rho} {x : V} {v : Vl} (h : TmpR K H r' Z2 σ H2 r2 x v) : TmpR K H0 r0 Z2 σ H2 r2 x v := by
  cases v with
  | own d =>
    refine ⟨h.1, fun a e => ⟨(h.2 a e).1, ?_⟩⟩
    rcases (h.2 a e).2 with q | q
    · cases e0 : H0 a with
      | none => exact .inl rfl
      | some o =>
        by_cases c : Own r0 σ a
        · exact .inr c
        · exact absurd q (F.keep a o e0 c).nn
    · exact (F.ow a q).symm
  | val d => exact h
  | lent d => exact h
  | lck => exact h
theorem pe_mIf (hc : PT X c (rdT X.K R W mc)) (ha : PE X a (rdE X.K R W m1)) (hb : PE X b (rdE X.K R W m2)) : PE X (.IfExp c a b pos) (rdE X.K R W (mIf mc m1 m2)) :=
  PE.to (pe_ifExp hc ha hb) fun σ H Q q => by
    obtain ⟨Z, r, S, h⟩ := q
    refine ⟨Z, r, S, (Eo.cond h).mono fun k r1 Z1 H1 S1 F1 q => ?_⟩
    cases k with
    | true =>
      rw [if_pos rfl] at q ⊢
      exact ⟨Z1, r1, S1, q.mono' fun v r2 Z2 H2 k x tx => k x (TmpR.back F1 tx)⟩
    | false =>
      rw [if_neg Bool.false_ne_true] at q ⊢
      exact ⟨Z1, r1, S1, q.mono' fun v r2 Z2 H2 k x tx => k x (TmpR.back F1 tx)⟩
theorem test_boolV {m : Mm Vl} {mb : Mm Vl} {Q : VK} {Q1 : Hp → Prop} (dflt : Bool)
    (h : ∃ Z r, SR K Z σ H r ∧ Eo K R W Z σ H r (mTest m r) fun b r1 Z1 H1 => if b = dflt then Eo K R W Z1 σ H1 r1 (mFz mb r1) (fun d r2 Z2 H2 => ∀ x, Rp K Z2 x d → Q x H2) else Q (.bl (!dflt)) H1) :
    rdV K R W m σ H fun x H1 => ∃ c, x = .bl c ∧ if c = dflt then rdV K R W mb σ H1 Q else Q (.bl (!dflt)) H1 := by
  obtain ⟨Z, r, S, h⟩ := h
  refine ⟨Z, r, S, (Eo.bnd h).mono fun d r' Z' H' S' F' q x rx => ?_⟩
  obtain ⟨k, hk, q1⟩ := Eo.opt S' q
  have e := truth_bool hk
  subst e
  cases rx
  refine ⟨k, rfl, ?_⟩
  by_cases hb : k = dflt
  · rw [if_pos hb] at q1 ⊢
    exact ⟨Z', r', S', q1⟩
  · rw [if_neg hb] at q1 ⊢
    exact q1
theorem pe_mAnd (ha : PE X a (rdE X.K R W m1)) (hb : PE X (.BoolOp .And (b :: es) pos) (rdE X.K R W m2)) : PE X (.BoolOp .And (a :: b :: es) pos) (rdE X.K R W (mAnd m1 m2)) :=
  PE.to (pe_and (rdV_of ha) (rdV_of hb)) fun σ H Q q => by
    obtain ⟨Z, r, S, h⟩ := q
    unfold mAnd at h
    refine test_boolV (K := X.K) (Q1 := fun _ => True) true ⟨Z, r, S, (Eo.bnd h).mono fun k r1 Z1 H1 S1 F1 q => ?_⟩
    cases k with
    | true =>
      rw [if_pos rfl]
      exact (Eo.bnd q).mono fun d r2 Z2 H2 S2 F2 k2 x rx => k2 Z2 H2 S2 Fr.refl x rx
    | false =>
      rw [if_neg Bool.false_ne_true]
      exact q Z1 H1 S1 Fr.refl (.bl false) (.bl false)
theorem pe_mOr (ha : PE X a (rdE X.K R W m1)) (hb : PE X (.BoolOp .Or (b :: es) pos) (rdE X.K R W m2)) : PE X (.BoolOp .Or (a :: b :: es) pos) (rdE X.K R W (mOr m1 m2)) :=
  PE.to (pe_or (rdV_of ha) (rdV_of hb)) fun σ H Q q => by
    obtain ⟨Z, r, S, h⟩ := q
    unfold mOr at h
    have h2 := test_boolV (K := X.K) (Q := Q) (m := m1) (mb := m2) (Q1 := fun _ => True) false ⟨Z, r, S, (Eo.bnd h).mono fun k r1 Z1 H1 S1 F1 q => by
      cases k with
      | false =>
        rw [if_pos rfl]
        exact (Eo.bnd q).mono fun d r2 Z2 H2 S2 F2 k2 x rx => k2 Z2 H2 S2 Fr.refl x rx
      | true =>
        rw [if_neg (by decide)]
        exact q Z1 H1 S1 Fr.refl (.bl true) (.bl true)⟩
    obtain ⟨Z', r', S', h3⟩ := h2
    refine ⟨Z', r', S', h3.mono' fun d r2 Z2 H2 k x rx => ?_⟩
    obtain ⟨c, e, q⟩ := k x rx
    refine ⟨c, e, ?_⟩
    cases c with
    | true => rw [if_neg (by decide)] at q; exact q
    | false => rw [if_pos rfl] at q; exact q
theorem pe_mNot (ha : PE X a (rdE X.K R W m1)) : PE X (.UnaryOp .Not a pos) (rdE X.K R W (mNot m1)) :=
  PE.to (pe_not (rdV_of ha)) fun σ H Q q => by
    obtain ⟨Z, r, S, h⟩ := q
    unfold mNot mTest at h
    refine ⟨Z, r, S, (Eo.bnd (Eo.bnd h)).mono fun d r' Z' H' S' F' q x rx => ?_⟩
    obtain ⟨k, hk, q3⟩ := Eo.opt S' q
    have e := truth_bool hk
    subst e
    cases rx
    exact ⟨k, rfl, q3 Z' H' S' Fr.refl (V.bl (!k)) (Rp.bl (!k))⟩
end
end
end Mi

set_option maxHeartbeats 1000000
namespace Mi
open PySem PySem.Spec PyProof.Rows L2

section
variable {X : Cx} {R : XR} {W : WX} {Z Z' H H' : Hp} {σ : L2.St} {r r' : Rho} {x : V} {d : Da} {v : Vl} {K : PySem.W.Frag}
variable {a b c e : Expr} {es : List Expr} {oa ob oc o : Opd} {os : List Opd} {f g : List Da → Option Vl} {t t' : R2} {pos p : Pos} {m m1 m2 : Mm Vl} {mc mc2 : Mm Bool}

/-! ### lists of expressions -/
def notStar : Expr → Bool
  | .Starred _ _ => false
  | _ => true
theorem starEach_cons (h : notStar e = true) (es : List Expr) (env : Env) : starEach (e :: es) env = (false, eval e env) :: starEach es env := by
  cases e <;> first | rfl | (simp [notStar] at h)
theorem starEach_plain : ∀ {es : List Expr}, es.all notStar = true → ∀ (pos : Pos) (env : Env), (backTo pos (starEach es env)).any (·.1) = false
  | [], _, _, _ => rfl
  | e :: es, h, pos, env => by
    rw [List.all_cons, Bool.and_eq_true] at h
    rw [starEach_cons h.1]
    show (false || (backTo pos (starEach es env)).any (·.1)) = false
    rw [starEach_plain h.2]; rfl

/-- each expression by its meaning -/
inductive ExX (X : Cx) (R : XR) (W : WX) : List Expr → List (Mm Vl) → Prop
  | nil : ExX X R W [] []
  | cons {e : Expr} {es : List Expr} {m : Mm Vl} {ms : List (Mm Vl)} : notStar e = true → PE X e (rdE X.K R W m) → ExX X R W es ms → ExX X R W (e :: es) (m :: ms)
def tAlls (K : PySem.W.Frag) (R : XR) (W : WX) : List (Mm Vl) → TA
  | [] => tNil
  | m :: ms => tCons (rdV K R W m) (tAlls K R W ms)
theorem ExX.pa : ∀ {es : List Expr} {ms : List (Mm Vl)}, ExX X R W es ms → PA X es (tAlls X.K R W ms)
  | _, _, .nil => pa_nil
  | _, _, .cons hn h t => pa_cons (rdV_of h) t.pa (starEach_cons hn _ _)
theorem alls : ∀ (ms : List (Mm Vl)) {Z : Hp} {H : Hp} {r : Rho} {k : List V → Hp → Prop}, SR K Z σ H r →
    Eo K R W Z σ H r (mAll ms r) (fun ds r' Z' H' => ∀ xs, RpAll K Z' xs ds → ds.length = ms.length → k xs H') → tAlls K R W ms σ H k
  | [], Z, H, r, k, S, h => h Z H S Fr.refl [] .nil rfl
  | m :: ms, Z, H, r, k, S, h => by
    unfold mAll at h
    refine ⟨Z, r, S, (Eo.bnd h).mono fun d r1 Z1 H1 S1 F1 k1 x hx => ?_⟩
    refine alls ms S1 ((Eo.bnd k1).mono fun ds r2 Z2 H2 S2 F2 k2 xs ha hl => ?_)
    exact k2 Z2 H2 S2 Fr.refl (x :: xs) (.cons (Rp.le F2.zm d x hx) ha) (by simp [hl])
theorem pe_mTup {k : Nat} {ms : List (Mm Vl)} (h : ExX X R W es ms) (hl : ms.length ≤ 100000) : PE X (.Tuple es k pos) (rdE X.K R W (mTup ms)) :=
  PE.to (pe_tup h.pa) fun σ H Q q => by
    obtain ⟨Z, r, S, q⟩ := q
    unfold mTup at q
    refine alls ms S ((Eo.bnd q).mono fun ds r1 Z1 H1 S1 F1 k1 xs ha hds => ⟨by rw [szL, ha.length, hds]; omega, fun p hp => ?_⟩)
    have E := Ext.frz (o := .tup xs) S1.sub hp
    exact k1 _ _ (E.sr S1) E.fr (.ref p) (.tup (.inl (.inl upd_same)) (RpAll.le E.zm _ _ ha))
theorem pe_mLst {ms : List (Mm Vl)} (h : ExX X R W es ms) (hl : ms.length ≤ 100000) : PE X (.List es pos) (rdE X.K R W (mLst ms)) :=
  PE.to (pe_lst h.pa) fun σ H Q q => by
    obtain ⟨Z, r, S, q⟩ := q
    unfold mLst at q
    refine alls ms S ((Eo.bnd q).mono fun ds r1 Z1 H1 S1 F1 k1 xs ha hds => ⟨by rw [szL, ha.length, hds]; omega, fun p hp => ?_⟩)
    have E := Ext.new (o := .lst xs) S1.sub hp
    have zp : Z1 p = none := by
      cases e : Z1 p with
      | none => rfl
      | some u => rw [S1.sub p u e] at hp; cases hp
    refine k1 _ _ (E.sr S1) E.fr (.ref p) ⟨⟨p, _, rfl, zp, upd_same, ha⟩, fun b eb => ?_⟩
    cases eb
    refine ⟨fun w => (S1.own_z (show Own r1 σ p from w)).2 hp, ?_⟩
    cases e0 : H p with
    | none => exact .inl rfl
    | some o =>
      by_cases c : Own r σ p
      · exact .inr c
      · exact absurd hp (F1.keep p o e0 c).nn

/-- {} -/
def mDct0 : Mm Vl := mRet (.own (.dict []))
theorem pe_mDct0 : PE X (.Dict [] [] pos) (rdE X.K R W mDct0) :=
  PE.to pe_dnewK fun σ H Q q => by
    obtain ⟨Z, r, S, q⟩ := q
    intro p hp
    have E := Ext.new (o := .dK []) S.sub hp
    have zp : Z p = none := by
      cases e : Z p with
      | none => rfl
      | some u => rw [S.sub p u e] at hp; cases hp
    refine q _ _ (E.sr S) E.fr (.ref p) ⟨⟨p, _, rfl, zp, upd_same, .nil⟩, fun b eb => ?_⟩
    cases eb
    exact ⟨fun w => (S.own_z (show Own r σ p from w)).2 hp, .inl hp⟩

/-! ### slices -/
/-- an int -/
def mInt (m : Mm Vl) : Mm Vl := mBnd (mFz m) fun d => match d with
  | .int i => mRet (.val (.int i))
  | _ => mStuck
theorem pe_mInt (h : PE X e (rdE X.K R W m)) : PE X e (rdE X.K R W (mInt m)) := PE.to (rdV_of h) fun σ H Q q => by
  obtain ⟨Z, r, S, q⟩ := q
  unfold mInt at q
  refine ⟨Z, r, S, (Eo.bnd q).mono fun d r' Z' H' S' F' k x rx => ?_⟩
  cases d with
  | int i => exact k Z' H' S' Fr.refl x rx
  | _ => exact k.elim
theorem tOpd_int {Q : VK} (h : tOpd K R W (.ex (mInt m)) σ H Q) : tOpd K R W (.ex (mInt m)) σ H fun y H2 => ∃ i, y = .int i ∧ Q y H2 := by
  obtain ⟨Z, r, S, h⟩ := h
  refine ⟨Z, r, S, ?_⟩
  unfold mInt mFz mBnd mRet mStuck at h ⊢
  cases e : m r with
  | stuck => rw [e] at h; exact h
  | exc ex r1 => rw [e] at h; exact h
  | ok v r1 =>
    rw [e] at h
    cases v with
    | val d =>
      cases d with
      | int i => exact fun Z' H' S' F' x rx => (by
          have := h Z' H' S' F' x rx
          cases rx
          exact ⟨i, rfl, this⟩)
      | _ => exact h
    | own d =>
      cases d with
      | int i => exact fun Z' H' S' F' x rx => (by
          have := h Z' H' S' F' x rx
          cases rx
          exact ⟨i, rfl, this⟩)
      | _ => exact h
    | lent d => exact h
    | lck => exact h
def opSlL : List Da → Option Vl
  | [d, .int i] => opSl (some i) none [d]
  | _ => none
def opSlH : List Da → Option Vl
  | [d, .int i] => opSl none (some i) [d]
  | _ => none
def opSlLH : List Da → Option Vl
  | [d, .int i, .int j] => opSl (some i) (some j) [d]
  | _ => none
theorem opS_slL : OpS K opSlL (at2 fun x y H Q => ∃ i, y = .int i ∧ rSlU K x (some i) none H Q) := by
  intro xs ds v Z H Q hz ha hf hq
  unfold opSlL at hf
  split at hf
  · obtain ⟨x, y, rfl, h1, h2⟩ := all2 ha
    exact ⟨x, y, rfl, _, h2.int, at1_use (opS_sl _ _ [x] _ v Z H Q hz (show OpdAll K Z H [x] [_] from ⟨h1, trivial⟩) hf hq)⟩
  · cases hf
theorem opS_slH : OpS K opSlH (at2 fun x y H Q => ∃ i, y = .int i ∧ rSlU K x none (some i) H Q) := by
  intro xs ds v Z H Q hz ha hf hq
  unfold opSlH at hf
  split at hf
  · obtain ⟨x, y, rfl, h1, h2⟩ := all2 ha
    exact ⟨x, y, rfl, _, h2.int, at1_use (opS_sl _ _ [x] _ v Z H Q hz (show OpdAll K Z H [x] [_] from ⟨h1, trivial⟩) hf hq)⟩
  · cases hf
def at3 (t : V → V → V → Hp → VK → Prop) : List V → Hp → VK → Prop := fun xs H Q => ∃ x y z, xs = [x, y, z] ∧ t x y z H Q
theorem at3_use {t : V → V → V → Hp → VK → Prop} {x y z : V} {H : Hp} {Q : VK} (h : at3 t [x, y, z] H Q) : t x y z H Q := by
  obtain ⟨x', y', z', e, q⟩ := h; cases e; exact q
theorem opS_slLH : OpS K opSlLH (at3 fun x y z H Q => ∃ i j, y = .int i ∧ z = .int j ∧ rSlU K x (some i) (some j) H Q) := by
  intro xs ds v Z H Q hz ha hf hq
  unfold opSlLH at hf
  split at hf
  · obtain ⟨x, y, z, rfl, h1, h2, h3⟩ := all3 ha
    exact ⟨x, y, z, rfl, _, _, h2.int, h3.int, at1_use (opS_sl _ _ [x] _ v Z H Q hz (show OpdAll K Z H [x] [_] from ⟨h1, trivial⟩) hf hq)⟩
  · cases hf
theorem pe_mSl (ha : OpdX X X.K R W a oa) : PE X (.Subscript a (.Slice none none none p) pos) (rdE X.K R W (mOp (opSl none none) [oa])) :=
  PE.to (pe_slice sl_U ha.pe po_none po_none) fun σ H Q q => opd1 (mOp_to (opS_sl none none) q) fun x H h => at1_use h
theorem pe_mSlL (ha : OpdX X X.K R W a oa) (hb : OpdX X X.K R W b ob) : PE X (.Subscript a (.Slice (some b) none none p) pos) (rdE X.K R W (mOp opSlL [oa, ob])) :=
  PE.to (pe_slice sl_U ha.pe (po_some hb.pe) po_none) fun σ H Q q => opd2 (mOp_to opS_slL q) fun x y H h => at2_use h
theorem pe_mSlH (ha : OpdX X X.K R W a oa) (hb : OpdX X X.K R W b ob) : PE X (.Subscript a (.Slice none (some b) none p) pos) (rdE X.K R W (mOp opSlH [oa, ob])) :=
  PE.to (pe_slice sl_U ha.pe po_none (po_some hb.pe)) fun σ H Q q => opd2 (mOp_to opS_slH q) fun x y H h => at2_use h
theorem pe_mSlLH (ha : OpdX X X.K R W a oa) (hb : PE X b (rdE X.K R W m)) (hc : OpdX X X.K R W c oc) : PE X (.Subscript a (.Slice (some b) (some c) none p) pos) (rdE X.K R W (mOp opSlLH [oa, .ex (mInt m), oc])) :=
  PE.to (pe_slice sl_U ha.pe (po_some (OpdX.pe (o := .ex (mInt m)) (pe_mInt hb))) (po_some hc.pe)) fun σ H Q q => by
    have h := opd3 (mOp_to opS_slLH q) fun x y z H h => at3_use h
    refine tOpd_mono h fun x H1 h1 => tOpd_mono (tOpd_int h1) fun y H2 ⟨i, ey, h2⟩ => ⟨i, ey, tOpd_mono h2 fun z H3 ⟨i', j, e1, e2, h3⟩ => ⟨j, e2, ?_⟩⟩
    rw [ey] at e1
    cases e1
    exact h3
theorem pe_mRev {k : Nat} {p1 p2 : Pos} (ha : OpdX X X.K R W a oa) : PE X (.Subscript a (.Slice none none (some (.UnaryOp .USub (.Constant (.int 1) k p1) p2)) p) pos) (rdE X.K R W (mOp opRev [oa])) :=
  PE.to (pe_revU ha.pe) fun σ H Q q => opd1 (mOp_to opS_rev q) fun x H h => at1_use h

/-! ### built-in functions called -/
theorem mOp_tA {r : List V → Hp → VK → Prop} (hs : OpS K f r) {Q : VK} (h : rdE K R W (mOp f os) σ H Q) : tCB r (tOpds K R W os) σ H Q := mOp_to hs h
/-- operands told as an argument list -/
inductive OpX (X : Cx) (R : XR) (W : WX) : List Expr → List Opd → Prop
  | nil : OpX X R W [] []
  | cons {e : Expr} {es : List Expr} {o : Opd} {os : List Opd} : notStar e = true → OpdX X X.K R W e o → OpX X R W es os → OpX X R W (e :: es) (o :: os)
theorem OpX.pa : ∀ {es : List Expr} {os : List Opd}, OpX X R W es os → PA X es (tOpds X.K R W os)
  | _, _, .nil => pa_nil
  | _, _, .cons hn h t => pa_cons h.pe t.pa (starEach_cons hn _ _)
theorem OpX.plain : ∀ {es : List Expr} {os : List Opd}, OpX X R W es os → es.all notStar = true
  | _, _, .nil => rfl
  | _, _, .cons hn _ t => by rw [List.all_cons, hn, t.plain]; rfl
theorem pe_mFn {x : Str} {id : String} {r : List V → Hp → VK → Prop} (hc : CallR X (.builtin id) r) (hs : OpS X.K f r) (hg : Gl X x) (hm : X.mg x = none) (hv : bootBuiltins x = some (.builtin id)) (h : OpX X R W (e :: es) os)
    (hn : x ≠ "__name__") (hdb : (x == ("__debug__" : Str)) = false) : PE X (.Call (.Name x p) (e :: es) [] pos) (rdE X.K R W (mOp f os)) :=
  PE.to (pe_callB hc hg hm hv h.pa hn hdb (by have := h.plain; rw [List.all_cons, Bool.and_eq_true] at this; exact starEach_cons this.1 _ _)
    (by have := h.plain; rw [List.all_cons, Bool.and_eq_true] at this; exact starEach_plain this.2 _ _)) fun σ H Q q => mOp_tA hs q
theorem pe_mTy {x : Str} {T : String} {r : List V → Hp → VK → Prop} (hc : CallR X (.type T) r) (hs : OpS X.K f r) (hg : Gl X x) (hm : X.mg x = none) (hv : bootBuiltins x = some (.type T)) (h : OpX X R W (e :: es) os)
    (hn : x ≠ "__name__") (hdb : (x == ("__debug__" : Str)) = false) : PE X (.Call (.Name x p) (e :: es) [] pos) (rdE X.K R W (mOp f os)) :=
  PE.to (pe_callTy hc hg hm hv h.pa hn hdb (by have := h.plain; rw [List.all_cons, Bool.and_eq_true] at this; exact starEach_cons this.1 _ _)
    (by have := h.plain; rw [List.all_cons, Bool.and_eq_true] at this; exact starEach_plain this.2 _ _)) fun σ H Q q => mOp_tA hs q
/-- isinstance(x, T) -/
theorem pe_mIsi {tn : Str} {T : String} {p2 p3 : Pos} (hT : T ∈ isTys) (hg : Gl X "isinstance") (hm : X.mg "isinstance" = none) (hg2 : Gl X tn) (hm2 : X.mg tn = none) (hv2 : bootBuiltins tn = some (.type T)) (hn2 : tn ≠ "__name__") (hdb2 : (tn == ("__debug__" : Str)) = false)
    (ha : OpdX X X.K R W a oa) (hna : notStar a = true) : PE X (.Call (.Name "isinstance" p) [a, .Name tn p2] [] pos) (rdE X.K R W (mOp (opIsi T) [oa])) :=
  PE.to (pe_callB (call_isi) hg hm boot_isinstance (pa_cons ha.pe (pa_cons (pe_bltn hg2 hm2 hv2 (v := .ty T) rfl hn2 hdb2) pa_nil) (starEach_cons hna _ _)) (by decide) (by decide) (starEach_cons hna _ _)) fun σ H Q q => by
    have h := opd1 (mOp_to (opS_isi hT) q) fun x H h => at1_use h
    refine tOpd_mono h fun x H1 ⟨u, b, ty, kt, q1⟩ => ?_
    exact ⟨x, .ty T, u, .type T, b, rfl, .ty T, ty, kt, q1⟩

/-! ### chains -/
def mChain (f g : List Da → Option Vl) (oa ob oc : Opd) : Mm Vl := mBnd (mOps [oa, ob]) fun ds => match ds with
  | [x, .int j] => mBnd (mOpt (f [x, .int j])) fun v => match v with
    | .val (.bool true) => mBnd (mOps [oc]) fun es => match es with
      | [z] => mOpt (g [.int j, z])
      | _ => mStuck
    | .val (.bool false) => mRet (.val (.bool false))
    | _ => mStuck
  | _ => mStuck
/-- a comparison that gives a bool and makes nothing -/
def CmpOk (f : List Da → Option Vl) (t : R2) : Prop := ∀ (K : PySem.W.Frag) (x y : V) (d e : Da) (Z H : Hp) (k : Bool) (Q : VK), Le Z H → OpdR K Z H x d → OpdR K Z H y e → f [d, e] = some (.val (.bool k)) → Q (.bl k) H → t x y H Q
theorem CmpOk.of {p : Int → Int → Bool} (hf : ∀ d e k, f [d, e] = some (.val (.bool k)) → ∃ i j, d = .int i ∧ e = .int j ∧ k = p i j) : CmpOk f (rI0 fun i j => .bl (p i j)) := by
  intro K x y d e Z H k Q hz h1 h2 h q
  obtain ⟨i, j, rfl, rfl, rfl⟩ := hf d e k h
  exact ⟨i, j, h1.int, h2.int, q⟩
theorem cmpOk_lt : CmpOk opLt (rI0 fun i j => .bl (decide (i < j))) := CmpOk.of (p := fun i j => decide (i < j)) fun d e k h => by
  unfold opLt at h; split at h <;> cases h; rename_i he; cases he; exact ⟨_, _, rfl, rfl, rfl⟩
theorem cmpOk_le : CmpOk opLe (rI0 fun i j => .bl (decide (i ≤ j))) := CmpOk.of (p := fun i j => decide (i ≤ j)) fun d e k h => by
  unfold opLe at h; split at h <;> cases h; rename_i he; cases he; exact ⟨_, _, rfl, rfl, rfl⟩
theorem pe_mChain {op op' : CmpOp} (ho : OpR X (compareOp op) t) (ho' : OpR X (compareOp op') t') (cf : CmpOk f t) (cg : CmpOk g t') (bg : ∀ x y v, g [x, y] = some v → ∃ k, v = .val (.bool k)) (ha : OpdX X X.K R W a oa) (hb : OpdX X X.K R W b ob) (hc : OpdX X X.K R W c oc)
    (hm : lastMarks [op, op'] [b, c] = false) : PE X (.Compare a [op, op'] [b, c] pos) (rdE X.K R W (mChain f g oa ob oc)) :=
  PE.to (pe_chain ho ho' ha.pe hb.pe hc.pe hm) fun σ H Q q => chain_to cf cg bg q
where
  chain_to {X : Cx} {R : XR} {W : WX} {oa ob oc : Opd} {f g : List Da → Option Vl} {t t' : R2} {σ : L2.St} {H : Hp} {Q : VK} (cf : CmpOk f t) (cg : CmpOk g t') (bg : ∀ x y v, g [x, y] = some v → ∃ k, v = .val (.bool k)) (q : rdE X.K R W (mChain f g oa ob oc) σ H Q) :
      tChain t t' (tOpd X.K R W oa) (tOpd X.K R W ob) (tOpd X.K R W oc) σ H Q := by
    obtain ⟨Z, r, S, q⟩ := q
    unfold mChain at q
    have h := opds [oa, ob] (k := fun xs H2 => match xs with
      | [x, y] => t x y H2 fun z H3 => ∃ k, z = .bl k ∧ if k = true then (tOpd X.K R W oc) σ H3 fun w H4 => t' y w H4 Q else Q (.bl false) H3
      | _ => False) S ((Eo.bnd q).mono fun ds r1 Z1 H1 S1 F1 k1 xs ha => ?_)
    · exact opd2 h fun x y H2 h2 => h2
    · match ds, k1, ha with
      | [x, .int j], k1, ha =>
        obtain ⟨vx, vy, rfl, h1, h2⟩ := all2 ha
        obtain ⟨v, hv, k2⟩ := Eo.opt S1 (Eo.bnd k1)
        match v, hv, k2 with
        | .val (.bool true), hv, k2 =>
          refine cf X.K vx vy _ _ Z1 H1 true _ S1.sub h1 h2 hv ⟨true, rfl, ?_⟩
          rw [if_pos rfl]
          have k3 := Eo.bnd k2
          refine opd1 (opds [oc] (k := fun xs H2 => match xs with | [w] => t' vy w H2 Q | _ => False) S1 (k3.mono fun es r2 Z2 H2 S2 F2 k4 ys hb => ?_)) fun w H2 h => h
          match es, k4, hb with
          | [z], k4, hb =>
            obtain ⟨vz, rfl, h3⟩ := all1 hb
            obtain ⟨u, hu, k5⟩ := Eo.opt S2 k4
            obtain ⟨k, rfl⟩ := bg _ _ _ hu
            have ey := h2.int
            subst ey
            exact cg X.K _ _ (.int j) z Z2 H2 k Q S2.sub (.inl (.int j)) h3 hu (k5 (.bl k) (.bl k))
          | [], k4, _ => exact k4.elim
          | _ :: _ :: _, k4, _ => exact k4.elim
        | .val (.bool false), hv, k2 =>
          refine cf X.K vx vy _ _ Z1 H1 false _ S1.sub h1 h2 hv ⟨false, rfl, ?_⟩
          rw [if_neg Bool.false_ne_true]
          exact k2 Z1 H1 S1 Fr.refl (.bl false) (.bl false)
        | .val .none, _, k2 => exact k2.elim
        | .val (.int _), _, k2 => exact k2.elim
        | .val (.str _), _, k2 => exact k2.elim
        | .val (.list _), _, k2 => exact k2.elim
        | .val (.tuple _), _, k2 => exact k2.elim
        | .val (.dict _), _, k2 => exact k2.elim
        | .own _, _, k2 => exact k2.elim
        | .lent _, _, k2 => exact k2.elim
        | .lck, _, k2 => exact k2.elim
      | [], k1, _ => exact k1.elim
      | [_], k1, _ => exact k1.elim
      | [_, .none], k1, _ => exact k1.elim
      | [_, .bool _], k1, _ => exact k1.elim
      | [_, .str _], k1, _ => exact k1.elim
      | [_, .list _], k1, _ => exact k1.elim
      | [_, .tuple _], k1, _ => exact k1.elim
      | [_, .dict _], k1, _ => exact k1.elim
      | _ :: d2 :: _ :: _, k1, _ => cases d2 <;> exact k1.elim

/-! ### tests -/
theorem pt_mChain {op op' : CmpOp} (ho : OpR X (compareOp op) t) (ho' : OpR X (compareOp op') t') (cf : CmpOk f t) (cg : CmpOk g t') (bg : ∀ x y v, g [x, y] = some v → ∃ k, v = .val (.bool k)) (ha : OpdX X X.K R W a oa) (hb : OpdX X X.K R W b ob) (hc : OpdX X X.K R W c oc)
    (hm : lastMarks [op, op'] [b, c] = false) : PT X (.Compare a [op, op'] [b, c] pos) (rdT X.K R W (mTest (mChain f g oa ob oc))) :=
  PT.to (pt_chain ho ho' ha.pe hb.pe hc.pe hm) fun σ H Q q => by
    obtain ⟨Z, r, S, h⟩ := q
    have q2 : rdE X.K R W (mChain f g oa ob oc) σ H fun x H' => ∃ k, x = .bl k ∧ Q k H' := by
      refine ⟨Z, r, S, (Eo.fz (Eo.bnd h)).mono fun v r' Z' H' S' F' q x tx => ?_⟩
      obtain ⟨d, Z2, S2, F2, rx, q2⟩ := q x tx
      obtain ⟨k, hk, q3⟩ := Eo.opt S2 q2
      have e := truth_bool hk
      subst e
      cases rx
      exact ⟨k, rfl, q3⟩
    exact pe_mChain.chain_to cf cg bg q2
def mNotT (m : Mm Bool) : Mm Bool := mBnd m fun k => mRet (!k)
def mAndT (a b : Mm Bool) : Mm Bool := mBnd a fun k => match k with
  | true => b
  | false => mRet false
def mOrT (a b : Mm Bool) : Mm Bool := mBnd a fun k => match k with
  | true => mRet true
  | false => b
theorem pt_mNot (h : PT X a (rdT X.K R W mc)) : PT X (.UnaryOp .Not a pos) (rdT X.K R W (mNotT mc)) := PT.to (pt_not h) fun σ H Q q => by
  obtain ⟨Z, r, S, q⟩ := q
  unfold mNotT at q
  exact ⟨Z, r, S, (Eo.bnd q).mono fun k r' Z' H' S' F' q => q Z' H' S' Fr.refl⟩
theorem pw_mAnd (h : PT X a (rdT X.K R W mc)) (h2 : PW X (.BoolOp .And (b :: es) pos) (rdT X.K R W mc2)) : PW X (.BoolOp .And (a :: b :: es) pos) (rdT X.K R W (mAndT mc mc2)) :=
  ⟨fun wh pins s σ H Q I q => (pw_and h h2).run wh pins s σ H Q I (by
    obtain ⟨Z, r, S, q⟩ := q
    unfold mAndT at q
    refine ⟨Z, r, S, (Eo.bnd q).mono fun k r' Z' H' S' F' q => ?_⟩
    cases k with
    | true => rw [if_pos rfl]; exact ⟨Z', r', S', q⟩
    | false => rw [if_neg Bool.false_ne_true]; exact q Z' H' S' Fr.refl)⟩
theorem pw_mOr (h : PT X a (rdT X.K R W mc)) (h2 : PW X (.BoolOp .Or (b :: es) pos) (rdT X.K R W mc2)) : PW X (.BoolOp .Or (a :: b :: es) pos) (rdT X.K R W (mOrT mc mc2)) :=
  ⟨fun wh pins s σ H Q I q => (pw_or h h2).run wh pins s σ H Q I (by
    obtain ⟨Z, r, S, q⟩ := q
    unfold mOrT at q
    refine ⟨Z, r, S, (Eo.bnd q).mono fun k r' Z' H' S' F' q => ?_⟩
    cases k with
    | true => rw [if_pos rfl]; exact q Z' H' S' Fr.refl
    | false => rw [if_neg Bool.false_ne_true]; exact ⟨Z', r', S', q⟩)⟩
theorem pw_mAnd1 (h : PT X a (rdT X.K R W mc)) : PW X (.BoolOp .And [a] pos) (rdT X.K R W mc) := pw_and1 h
theorem pw_mOr1 (h : PT X a (rdT X.K R W mc)) : PW X (.BoolOp .Or [a] pos) (rdT X.K R W mc) := pw_or1 h
end
end Mi

set_option maxHeartbeats 1000000
namespace Mi
open PySem PySem.Spec PyProof.Rows L2

/-! ## calls -/
/-- the layer's contract of a def, where nothing is being shown (repr asks for that) -/
structure FnG (P : Program) (w : World) (K : PySem.W.Frag) (mg : Str → Option Value) (base : Heap) (k : Nat) (f : Addr) (fd : FuncData) (ps : List Str) (sp : Sp) : Prop where
  len : ∀ vs H Q E, sp vs H Q E → vs.length = ps.length
  run : ∀ (A : Around) (outer : List Env) (s : Shared) (H : Hp) (args : Args) (us : List Value) (vs : List V) (Q : VK) (E : XK), Room k A → A.guards = some [] →
    Env0 P w K mg base A outer s H → BindsTo s fd args (ps.zip us) → Vals vs us → sp vs H Q E → codeAny (model P w) A (.call (.ref f) args) (CR (L2.CX P w) outer P w H s Q E) s

section
variable {X : Cx} {W : WX} {k : Nat} {f : Addr} {fd : FuncData} {ps : List Str} {sp : Sp} {x : Str} {p pos : Pos} {e : Expr} {es : List Expr} {t : TA}
theorem FnG.go {pins : List (Addr × Obj)} {σ : L2.St} {H : Hp} {s : Shared} {Q : VK} {us : List Value} {vs : List V} (F : FnG X.prog X.w X.K X.mg X.base k f fd ps sp) (hr : Room k X.A) (hg : X.A.guards = some []) (hb : Binds X.K fd ps []) (tk : Takes X W)
    (I : Inv X pins σ H s) (r : Vals vs us) (h : sp vs H Q (WE W σ)) : wpAny (model X.prog X.w) X.A (call (.ref f) us) (EP X pins σ Q) X.xe s := by
  have lenU : (us ++ []).length = ps.length := by rw [List.append_nil, ← r.length]; exact F.len _ _ _ _ h
  have bd := hb s us I.kIn lenU
  rw [List.append_nil] at bd
  refine wpAny_call (codeAny_mono (F.run X.A X.stack s H ⟨us, []⟩ us vs Q _ hr hg I.env0 bd r h) ?_)
  intro res s' hres
  match res, hres with
  | .error err, hres => exact passAt tk σ pins H s err s' I hres
  | .ok (.ret u), hres => exact I.after hres
theorem pe_callG (F : FnG X.prog X.w X.K X.mg X.base k f fd ps sp) (hr : Room k X.A) (hg : X.A.guards = some []) (hx : Gl X x) (hm : X.mg x = some (.ref f)) (hk : PySem.W.keepIn X.K (.ref f) = true) (hb : Binds X.K fd ps []) (tk : Takes X W)
    (ha : PA X (e :: es) t) (hn : (e :: es).all notStar = true) (hdb : (x == ("__debug__" : Str)) = false) : PE X (.Call (.Name x p) (e :: es) [] pos) (tCallS sp (WE W) t) := by
  refine ⟨fun pins s σ H Q I h => wpAny_Call_Name_kw (ld_glob I hx hm ?_ hdb)⟩
  rw [List.all_cons, Bool.and_eq_true] at hn
  refine PySem.W.callWith_K (h₀ := X.base) I.ok.mod.kin hk (thn (ha.run pos pins s σ H _ I h) fun us s1 q => ?_) (starEach_cons hn.1 _ _) (starEach_plain hn.2 _ _)
  obtain ⟨vs, H1, I1, r, q⟩ := q
  exact ⟨I1.kIn, F.go hr hg hb tk I1 r q⟩
theorem pe_callG0 (F : FnG X.prog X.w X.K X.mg X.base k f fd ps sp) (hr : Room k X.A) (hg : X.A.guards = some []) (hx : Gl X x) (hm : X.mg x = some (.ref f)) (hk : PySem.W.keepIn X.K (.ref f) = true) (hb : Binds X.K fd ps []) (tk : Takes X W)
    (hdb : (x == ("__debug__" : Str)) = false) : PE X (.Call (.Name x p) [] [] pos) (tCallS sp (WE W) tNil) :=
  ⟨fun pins s σ H Q I h => wpAny_Call_Name_kw (ld_glob I hx hm (PySem.W.callWith_K0 I.kIn hk (F.go (us := []) hr hg hb tk I .nil h)) hdb)⟩
end

/-! ### what a def does, by the small semantics -/
section
variable (K : PySem.W.Frag) (R : XR)
/-- the lent arguments' contents at the end -/
def LentR (Z H : Hp) : List V → List Vl → List Da → Prop
  | [], [], [] => True
  | x :: xs, .lent _ :: as, d :: ds => ObR K Z H x d ∧ LentR Z H xs as ds
  | _ :: xs, .val _ :: as, ds => LentR Z H xs as ds
  | _, _, _ => False
structure CEnd (Z H : Hp) (vs : List V) (as : List Vl) (ls : List Da) (Z' H' : Hp) : Prop where
  sub : Le Z' H'
  tb : TbOk K Z' H'
  keep : ∀ a o, H a = some o → ¬ Own (as.map some) (vs.map some) a → KpO o (H' a)
  zm : Le Z Z'
  zn : ∀ a, Z a = none → Z' a ≠ none → H a = none
  lts : LentR K Z' H' vs as ls
def isArg : Vl → Bool
  | .val _ => true
  | .lent _ => true
  | _ => false
/-- the promise -/
def spF (n : Nat) (F : List Vl → CRes) : Sp := fun vs H Q E => ∃ Z as, vs.length = n ∧ SR K Z (vs.map some) H (as.map some) ∧ (∀ v ∈ as, isArg v = true) ∧ match F as with
  | .ret v ls => ∀ x Z' H', CEnd K Z H vs as ls Z' H' → NewR K H Z' H' x v → Q x H'
  | .exc e ls => ∀ cls d Z' H', CEnd K Z H vs as ls Z' H' → R Z' H' cls d e → E cls d H'
  | .stuck => False
end

section
variable {K : PySem.W.Frag} {R : XR} {W : WX} {Z Z' Z'' H H' H'' : Hp} {σ σ' : L2.St} {r r' r'' : Rho} {x : V} {d : Da} {v : Vl}

/-! ### arguments -/
def tArg (K : PySem.W.Frag) (R : XR) (W : WX) : Bool × Opd → TE
  | (_, .sl i) => tVar i
  | (false, .ex m) => rdV K R W m
  | (true, .ex m) => rdE K R W m
def tArgs (K : PySem.W.Frag) (R : XR) (W : WX) : List (Bool × Opd) → TA
  | [] => tNil
  | a :: as => tCons (tArg K R W a) (tArgs K R W as)
/-- a temporary that is to be lent: told as the extra owners E -/
def ArgR (K : PySem.W.Frag) (H0 : Hp) (r0 : Rho) (Z : Hp) (σ : L2.St) (H : Hp) (r : Rho) : Bool × Opd → V → Vl → Prop
  | (false, .sl i), x, .val d => peek r i = some d ∧ σ[i]? = some (some x)
  | (true, .sl i), x, .lent d => ow r i d ∧ σ[i]? = some (some x)
  | (false, .ex _), x, .val d => Rp K Z x d
  | (true, .ex _), x, .lent d => ObR K Z H x d ∧ ∀ a, x = .ref a → ¬ Own r σ a ∧ (H0 a = none ∨ Own r0 σ a)
  | _, _, _ => False
def ArgAll (K : PySem.W.Frag) (H0 : Hp) (r0 : Rho) (Z : Hp) (σ : L2.St) (H : Hp) (r : Rho) : List (Bool × Opd) → List V → List Vl → Prop
  | [], [], [] => True
  | a :: as, x :: xs, v :: vs => ArgR K H0 r0 Z σ H r a x v ∧ ArgAll K H0 r0 Z σ H r as xs vs
  | _, _, _ => False
theorem ArgR.back {H0 : Hp} {r0 : Rho} {Z0 : Hp} {a : Bool × Opd} (F : Fr Z0 σ H0 r0 Z' σ H' r') {Z2 H2 : Hp} {r2 : Rho} (h : ArgR K H' r' Z2 σ H2 r2 a x v) : ArgR K H0 r0 Z2 σ H2 r2 a x v := by
  match a, v, h with
  | (false, .sl i), .val d, h => exact h
  | (true, .sl i), .lent d, h => exact h
  | (false, .ex _), .val d, h => exact h
  | (true, .ex _), .lent d, h =>
    refine ⟨h.1, fun a e => ⟨(h.2 a e).1, ?_⟩⟩
    rcases (h.2 a e).2 with q | q
    · cases e0 : H0 a with
      | none => exact .inl rfl
      | some o =>
        by_cases c : Own r0 σ a
        · exact .inr c
        · exact absurd q (F.keep a o e0 c).nn
    · exact (F.ow a q).symm
theorem ArgAll.back {H0 : Hp} {r0 : Rho} {Z0 : Hp} (F : Fr Z0 σ H0 r0 Z' σ H' r') {Z2 H2 : Hp} {r2 : Rho} : ∀ {as : List (Bool × Opd)} {xs : List V} {vs : List Vl}, ArgAll K H' r' Z2 σ H2 r2 as xs vs → ArgAll K H0 r0 Z2 σ H2 r2 as xs vs
  | [], [], [], _ => trivial
  | _ :: _, _ :: _, _ :: _, h => ⟨h.1.back F, ArgAll.back F h.2⟩
/-- an own temporary through what comes behind it -/
theorem tmp_keep (S : SR K Z σ H r) (F : Fr Z σ H r Z' σ H' r') (S' : SR K Z' σ H' r') (ob : ObR K Z H x d) (no : ∀ a, x = .ref a → ¬ Own r σ a) : ObR K Z' H' x d ∧ ∀ a, x = .ref a → ¬ Own r' σ a := by
  obtain ⟨a, o, e, hz, hh, hp⟩ := ob
  have n := no a e
  have h1 := (F.keep a o hh n).same hp.nt
  have z1 : Z' a = none := by
    cases q : Z' a with
    | none => rfl
    | some u =>
      rcases F.zn a hz (by rw [q]; intro z; cases z) with w | w
      · rw [hh] at w; cases w
      · exact absurd w n
  refine ⟨⟨a, o, e, z1, h1, ObC.le F.zm hp⟩, fun b eb w => ?_⟩
  rw [e] at eb
  cases eb
  rcases F.ow a w with q | q
  · exact n q
  · rw [hh] at q; cases q
theorem args_to : ∀ (as : List (Bool × Opd)) {Z : Hp} {H : Hp} {r : Rho} {k : List V → Hp → Prop}, SR K Z σ H r →
    Eo K R W Z σ H r (mArgs as r) (fun vs r' Z' H' => ∀ xs, ArgAll K H r Z' σ H' r' as xs vs → k xs H') → tArgs K R W as σ H k
  | [], Z, H, r, k, S, h => h Z H S Fr.refl [] trivial
  | (false, .sl i) :: as, Z, H, r, k, S, h => by
    unfold mArgs at h
    have h1 := Eo.bnd h
    have np : mPeek i r ≠ .stuck := fun z => by rw [z] at h1; exact h1
    obtain ⟨d0, e0, e1⟩ := mPeek_ok np
    rw [e1] at h1
    have h2 := Eo.bnd (h1 Z H S Fr.refl)
    obtain ⟨x, ex, _⟩ := S.peek e0
    refine ⟨x, ex, args_to as S (h2.mono fun vs r' Z' H' S' F' k1 xs ha => ?_)⟩
    have k2 := Eo.bnd k1
    have np' : mPeek i r' ≠ .stuck := fun z => by rw [z] at k2; exact k2
    obtain ⟨d, e, e'⟩ := mPeek_ok np'
    rw [e'] at k2
    exact k2 Z' H' S' Fr.refl Z' H' S' Fr.refl (x :: xs) ⟨⟨e, ex⟩, ha⟩
  | (true, .sl i) :: as, Z, H, r, k, S, h => by
    unfold mArgs at h
    have h1 := Eo.bnd h
    have np : mPeek i r ≠ .stuck := fun z => by rw [z] at h1; exact h1
    obtain ⟨d0, e0, e1⟩ := mPeek_ok np
    rw [e1] at h1
    have h2 := Eo.bnd (h1 Z H S Fr.refl)
    obtain ⟨x, ex, _⟩ := S.peek e0
    refine ⟨x, ex, args_to as S (h2.mono fun vs r' Z' H' S' F' k1 xs ha => ?_)⟩
    cases e : gt r' i with
    | none => rw [e] at k1; exact k1.elim
    | some u =>
      rw [e] at k1
      cases u with
      | val d => exact k1.elim
      | lck => exact k1.elim
      | own d => exact k1 Z' H' S' Fr.refl (x :: xs) ⟨⟨.inl e, ex⟩, ha⟩
      | lent d => exact k1 Z' H' S' Fr.refl (x :: xs) ⟨⟨.inr e, ex⟩, ha⟩
  | (false, .ex m) :: as, Z, H, r, k, S, h => by
    unfold mArgs at h
    refine ⟨Z, r, S, (Eo.bnd h).mono fun d r1 Z1 H1 S1 F1 k1 x hx => ?_⟩
    refine args_to as S1 ((Eo.bnd k1).mono fun vs r2 Z2 H2 S2 F2 k2 xs ha => ?_)
    exact k2 Z2 H2 S2 Fr.refl (x :: xs) ⟨Rp.le F2.zm d x hx, ArgAll.back F1 ha⟩
  | (true, .ex m) :: as, Z, H, r, k, S, h => by
    unfold mArgs at h
    refine ⟨Z, r, S, (Eo.bnd h).mono fun v r1 Z1 H1 S1 F1 k1 x hx => ?_⟩
    cases v with
    | val d => exact k1.elim
    | lent d => exact k1.elim
    | lck => exact k1.elim
    | own d =>
      refine args_to as S1 ((Eo.bnd k1).mono fun vs r2 Z2 H2 S2 F2 k2 xs ha => ?_)
      obtain ⟨ob, no⟩ := tmp_keep S1 F2 S2 hx.1 fun a e => (hx.2 a e).1
      exact k2 Z2 H2 S2 Fr.refl (x :: xs) ⟨⟨ob, fun a e => ⟨no a e, (hx.2 a e).2⟩⟩, ArgAll.back F1 ha⟩
end
end Mi

set_option maxHeartbeats 1000000
namespace Mi
open PySem PySem.Spec PyProof.Rows L2

section
variable {K : PySem.W.Frag} {R : XR} {W : WX} {Z Z' Z'' H H' H'' : Hp} {σ σ' : L2.St} {r r' r'' : Rho} {x : V} {d : Da} {v : Vl}

/-! ### data without containers -/
mutual
theorem scal_rp (h : ∀ a xs, Rd Z a (.tup xs) → Rd Z' a (.tup xs)) : ∀ (d : Da) (x : V), scal d = true → Rp K Z x d → Rp K Z' x d
  | .none, _, _, q => by cases q; exact .non
  | .bool b, _, _, q => by cases q; exact .bl b
  | .int i, _, _, q => by cases q; exact .int i
  | .str s, _, _, q => by cases q; exact .str s
  | .list ds, _, hs, q => by simp [scal] at hs
  | .dict ds, _, hs, q => by simp [scal] at hs
  | .tuple ds, _, hs, q => by
    cases q with
    | tup ht ha =>
      refine .tup ?_ (scal_rpAll h ds _ (by simpa [scal] using hs) ha)
      rcases ht with ht | ht
      · exact .inl (h _ _ ht)
      · exact .inr ht
theorem scal_rpAll (h : ∀ a xs, Rd Z a (.tup xs) → Rd Z' a (.tup xs)) : ∀ (ds : List Da) (xs : List V), scal.scalAll ds = true → RpAll K Z xs ds → RpAll K Z' xs ds
  | [], _, _, q => by cases q; exact .nil
  | d :: ds, _, hs, q => by
    rw [scal.scalAll, Bool.and_eq_true] at hs
    cases q with
    | cons h1 h2 => exact .cons (scal_rp h d _ hs.1 h1) (scal_rpAll h ds _ hs.2 h2)
end
theorem scalOb_rp (h : ∀ a xs, Rd Z a (.tup xs) → Rd Z' a (.tup xs)) {o : HO} (hs : scalOb d = true) (q : ObC K Z o d) : ObC K Z' o d := by
  unfold scalOb at hs
  split at hs
  · unfold ObC at q ⊢
    split at q
    · rename_i e; cases e; exact scal_rpAll h _ _ hs q
    · rename_i e; cases e
    · exact q.elim
  · cases hs

/-! ### what the caller's slots are behind a call -/
theorem mem_lent_peek : ∀ {as : List (Bool × Opd)}, okArgs as = true → ∀ i ∈ lentSl as, i ∉ peekSl as
  | [], _ => fun i h => by cases h
  | (true, .sl j) :: as, h => fun i hi => by
    rw [okArgs, Bool.and_eq_true] at h
    have h1 := List.all_eq_true.mp h.1
    have ap : ∀ k, k ∈ peekSl as → k ≠ j := fun k hk => by
      intro e
      subst e
      have : ∀ {l : List (Bool × Opd)}, k ∈ peekSl l → (false, Opd.sl k) ∈ l := by
        intro l
        induction l with
        | nil => intro h; cases h
        | cons a l ih =>
          intro h
          match a, h with
          | (false, .sl i), h =>
            rcases List.mem_cons.mp h with e | h
            · subst e; exact List.mem_cons_self
            · exact List.mem_cons_of_mem _ (ih h)
          | (true, .sl i), h => exact List.mem_cons_of_mem _ (ih h)
          | (false, .ex m), h => exact List.mem_cons_of_mem _ (ih h)
          | (true, .ex m), h => exact List.mem_cons_of_mem _ (ih h)
      have := h1 _ (this hk)
      simp [apart] at this
    rcases List.mem_cons.mp hi with e | hi
    · subst e; exact fun q => ap _ q rfl
    · exact mem_lent_peek h.2 i hi
  | (false, .sl j) :: as, h => fun i hi q => by
    rw [okArgs, Bool.and_eq_true] at h
    have h1 := List.all_eq_true.mp h.1
    have hi : i ∈ lentSl as := hi
    rcases List.mem_cons.mp (show i ∈ j :: peekSl as from q) with e | q
    · subst e
      have : ∀ {l : List (Bool × Opd)}, i ∈ lentSl l → (true, Opd.sl i) ∈ l := by
        intro l
        induction l with
        | nil => intro h; cases h
        | cons a l ih =>
          intro h
          match a, h with
          | (true, .sl k), h =>
            rcases List.mem_cons.mp h with e | h
            · subst e; exact List.mem_cons_self
            · exact List.mem_cons_of_mem _ (ih h)
          | (false, .sl k), h => exact List.mem_cons_of_mem _ (ih h)
          | (false, .ex m), h => exact List.mem_cons_of_mem _ (ih h)
          | (true, .ex m), h => exact List.mem_cons_of_mem _ (ih h)
      have := h1 _ (this hi)
      simp [apart] at this
    · exact mem_lent_peek h.2 i hi q
  | (true, .ex m) :: as, h => fun i hi => by
    rw [okArgs, Bool.and_eq_true] at h
    exact mem_lent_peek h.2 i hi
  | (false, .ex m) :: as, h => fun i hi => by
    rw [okArgs, Bool.and_eq_true] at h
    exact mem_lent_peek h.2 i hi
theorem lent_fresh {j : Nat} : ∀ {as : List (Bool × Opd)}, as.all (apart (true, .sl j)) = true → j ∉ lentSl as
  | [], _ => fun h => by cases h
  | (true, .sl k) :: as, h => fun q => by
    rw [List.all_cons, Bool.and_eq_true] at h
    rcases List.mem_cons.mp q with e | q
    · subst e; simp [apart] at h
    · exact lent_fresh h.2 q
  | (false, .sl k) :: as, h => fun q => by
    rw [List.all_cons, Bool.and_eq_true] at h
    exact lent_fresh h.2 q
  | (true, .ex m) :: as, h => fun q => by
    rw [List.all_cons, Bool.and_eq_true] at h
    exact lent_fresh h.2 q
  | (false, .ex m) :: as, h => fun q => by
    rw [List.all_cons, Bool.and_eq_true] at h
    exact lent_fresh h.2 q

/-- one slot's story: from r to r' -/
def LentS (K : PySem.W.Frag) (Z H : Hp) (σ : L2.St) (r r' : Rho) (j : Nat) : Prop := ∃ d' x, σ[j]? = some (some x) ∧ ObR K Z H x d' ∧ scalOb d' = scalOb d' ∧
  ((gt r' j = some (.own d') ∧ ∃ d, gt r j = some (.own d)) ∨ (gt r' j = some (.lent d') ∧ ∃ d, gt r j = some (.lent d)))
theorem back_spec {H0 : Hp} {r0 : Rho} {Z1 H1 : Hp} {r1 : Rho} (P : Da → Prop) : ∀ {as : List (Bool × Opd)} {ls : List Da} {r r2 : Rho} {xs : List V} {us : List Vl}, okArgs as = true → backLents as ls r = some r2 → LentR K Z' H' xs us ls → ArgAll K H0 r0 Z1 σ H1 r1 as xs us → (∀ d ∈ ls, P d) →
    r2.length = r.length ∧ (∀ j, j ∉ lentSl as → gt r2 j = gt r j) ∧ ∀ j ∈ lentSl as, ∃ d' x, P d' ∧ σ[j]? = some (some x) ∧ ObR K Z' H' x d' ∧ ((gt r2 j = some (.own d') ∧ ∃ d, gt r j = some (.own d)) ∨ (gt r2 j = some (.lent d') ∧ ∃ d, gt r j = some (.lent d)))
  | [], ls, r, r2, xs, us, _, hb, hl, ha, _ => by
    match xs, us, ls, hl, ha, hb with
    | [], [], [], _, _, hb => cases hb; exact ⟨rfl, fun _ _ => rfl, fun j h => by cases h⟩
  | (true, .sl i) :: as, ls, r, r2, xs, us, ok, hb, hl, ha, hp => by
    rw [okArgs, Bool.and_eq_true] at ok
    match xs, us, ls, hl, ha, hb with
    | x :: xs, .lent d0 :: us, d :: ls, hl, ha, hb =>
      obtain ⟨ob, hl⟩ := hl
      obtain ⟨⟨_, ex⟩, ha⟩ := ha
      unfold backLents at hb
      split at hb
      · rename_i dd hg
        obtain ⟨h1, h2, h3⟩ := back_spec P ok.2 hb hl ha fun d hd => hp d (List.mem_cons_of_mem _ hd)
        have fr := lent_fresh ok.1
        have hi := gt_lt hg
        refine ⟨by rw [h1]; simp, fun j hj => ?_, fun j hj => ?_⟩
        · have n1 : j ≠ i := fun e => hj (by subst e; exact List.mem_cons_self)
          rw [h2 j fun q => hj (List.mem_cons_of_mem _ q), gt_set_ne n1]
        · by_cases e : j = i
          · subst e
            exact ⟨d, x, hp d List.mem_cons_self, ex, ob, .inl ⟨by rw [h2 j fr, gt_set_eq hi], dd, hg⟩⟩
          · have hj' : j ∈ lentSl as := (List.mem_cons.mp hj).resolve_left e
            obtain ⟨d', y, p, e1, e2, e3⟩ := h3 j hj'
            refine ⟨d', y, p, e1, e2, ?_⟩
            rw [gt_set_ne e] at e3
            exact e3
      · rename_i dd hg
        obtain ⟨h1, h2, h3⟩ := back_spec P ok.2 hb hl ha fun d hd => hp d (List.mem_cons_of_mem _ hd)
        have fr := lent_fresh ok.1
        have hi := gt_lt hg
        refine ⟨by rw [h1]; simp, fun j hj => ?_, fun j hj => ?_⟩
        · have n1 : j ≠ i := fun e => hj (by subst e; exact List.mem_cons_self)
          rw [h2 j fun q => hj (List.mem_cons_of_mem _ q), gt_set_ne n1]
        · by_cases e : j = i
          · subst e
            exact ⟨d, x, hp d List.mem_cons_self, ex, ob, .inr ⟨by rw [h2 j fr, gt_set_eq hi], dd, hg⟩⟩
          · have hj' : j ∈ lentSl as := (List.mem_cons.mp hj).resolve_left e
            obtain ⟨d', y, p, e1, e2, e3⟩ := h3 j hj'
            refine ⟨d', y, p, e1, e2, ?_⟩
            rw [gt_set_ne e] at e3
            exact e3
      · cases hb
  | (true, .ex m) :: as, ls, r, r2, xs, us, ok, hb, hl, ha, hp => by
    rw [okArgs, Bool.and_eq_true] at ok
    match xs, us, ls, hl, ha, hb with
    | x :: xs, .lent d0 :: us, d :: ls, hl, ha, hb => exact back_spec (as := as) (ls := ls) P ok.2 hb hl.2 ha.2 fun d hd => hp d (List.mem_cons_of_mem _ hd)
  | (false, .sl i) :: as, ls, r, r2, xs, us, ok, hb, hl, ha, hp => by
    rw [okArgs, Bool.and_eq_true] at ok
    match xs, us, hl, ha, hb with
    | x :: xs, .val d0 :: us, hl, ha, hb =>
      have hb' : backLents as ls r = some r2 := by cases ls <;> exact hb
      exact back_spec (as := as) P ok.2 hb' (by cases ls <;> exact hl) ha.2 hp
  | (false, .ex m) :: as, ls, r, r2, xs, us, ok, hb, hl, ha, hp => by
    rw [okArgs, Bool.and_eq_true] at ok
    match xs, us, hl, ha, hb with
    | x :: xs, .val d0 :: us, hl, ha, hb =>
      have hb' : backLents as ls r = some r2 := by cases ls <;> exact hb
      exact back_spec (as := as) P ok.2 hb' (by cases ls <;> exact hl) ha.2 hp
theorem frz_spec : ∀ {is : List Nat} {r r3 : Rho}, frzAll is r = some r3 → r3.length = r.length ∧ (∀ j, j ∉ is → gt r3 j = gt r j) ∧ ∀ j ∈ is, ∃ d, gt r3 j = some (.val d) ∧ (gt r j = some (.val d) ∨ gt r j = some (.own d))
  | [], r, r3, h => by cases h; exact ⟨rfl, fun _ _ => rfl, fun j h => by cases h⟩
  | i :: is, r, r3, h => by
    unfold frzAll at h
    split at h
    · rename_i d hg
      obtain ⟨h1, h2, h3⟩ := frz_spec h
      have hi := gt_lt hg
      refine ⟨by rw [h1]; simp, fun j hj => ?_, fun j hj => ?_⟩
      · have n1 : j ≠ i := fun e => hj (by subst e; exact List.mem_cons_self)
        rw [h2 j fun q => hj (List.mem_cons_of_mem _ q), gt_set_ne n1]
      · by_cases e : j = i
        · subst e
          by_cases c : j ∈ is
          · obtain ⟨d', e1, e2⟩ := h3 j c
            rw [gt_set_eq hi] at e2
            rcases e2 with e2 | e2
            · cases e2; exact ⟨_, e1, .inr hg⟩
            · cases e2
          · exact ⟨d, by rw [h2 j c, gt_set_eq hi], .inr hg⟩
        · obtain ⟨d', e1, e2⟩ := h3 j ((List.mem_cons.mp hj).resolve_left e)
          rw [gt_set_ne e] at e2
          exact ⟨d', e1, e2⟩
    · rename_i d hg
      obtain ⟨h1, h2, h3⟩ := frz_spec h
      refine ⟨h1, fun j hj => h2 j fun q => hj (List.mem_cons_of_mem _ q), fun j hj => ?_⟩
      by_cases e : j = i
      · subst e
        by_cases c : j ∈ is
        · exact h3 j c
        · exact ⟨d, by rw [h2 j c]; exact hg, .inl hg⟩
      · exact h3 j ((List.mem_cons.mp hj).resolve_left e)
    · cases h

/-! ### the call -/
/-- what is looked at through an argument: the slots' own containers -/
def Pk (as : List (Bool × Opd)) (σ : L2.St) (r : Rho) (b : Addr) : Prop := ∃ i ∈ peekSl as, ∃ d, ow r i d ∧ σ[i]? = some (some (.ref b))
theorem arg_get {H0 : Hp} {r0 : Rho} {Z1 H1 : Hp} {r1 : Rho} : ∀ {as : List (Bool × Opd)} {xs : List V} {us : List Vl}, ArgAll K H0 r0 Z1 σ H1 r1 as xs us → xs.length = as.length ∧ us.length = as.length ∧
    ∀ (p : Nat) a, as[p]? = some a → ∃ x u, xs[p]? = some x ∧ us[p]? = some u ∧ ArgR K H0 r0 Z1 σ H1 r1 a x u
  | [], [], [], _ => ⟨rfl, rfl, fun p a h => by simp at h⟩
  | a :: as, x :: xs, u :: us, h => by
    obtain ⟨h1, h2, h3⟩ := arg_get h.2
    refine ⟨by simp [h1], by simp [h2], fun p b hp => ?_⟩
    cases p with
    | zero =>
      simp only [List.getElem?_cons_zero, Option.some.injEq] at hp
      subst hp
      exact ⟨x, u, by simp, by simp, h.1⟩
    | succ p =>
      simp only [List.getElem?_cons_succ] at hp ⊢
      exact h3 p b hp
theorem ok_apart : ∀ {as : List (Bool × Opd)}, okArgs as = true → ∀ (p q : Nat) a b, p < q → as[p]? = some a → as[q]? = some b → apart a b = true
  | [], _ => fun p q a b _ h => by simp at h
  | c :: as, h => fun p q a b hpq ha hb => by
    rw [okArgs, Bool.and_eq_true] at h
    cases q with
    | zero => omega
    | succ q =>
      simp only [List.getElem?_cons_succ] at hb
      cases p with
      | zero =>
        simp only [List.getElem?_cons_zero, Option.some.injEq] at ha
        subst ha
        exact List.all_eq_true.mp h.1 b (List.mem_of_getElem? hb)
      | succ p =>
        simp only [List.getElem?_cons_succ] at ha
        exact ok_apart h.2 p q a b (by omega) ha hb
theorem mem_lent_iff {i : Nat} : ∀ {as : List (Bool × Opd)}, i ∈ lentSl as ↔ ∃ p : Nat, as[p]? = some (true, Opd.sl i)
  | [] => by simp [lentSl]
  | a :: as => by
    have ih := mem_lent_iff (i := i) (as := as)
    constructor
    · intro h
      match a, h with
      | (true, .sl k), h =>
        rcases List.mem_cons.mp h with e | h
        · subst e; exact ⟨0, rfl⟩
        · obtain ⟨p, e⟩ := ih.mp h; exact ⟨p + 1, by simpa using e⟩
      | (false, .sl k), h => obtain ⟨p, e⟩ := ih.mp h; exact ⟨p + 1, by simpa using e⟩
      | (false, .ex m), h => obtain ⟨p, e⟩ := ih.mp h; exact ⟨p + 1, by simpa using e⟩
      | (true, .ex m), h => obtain ⟨p, e⟩ := ih.mp h; exact ⟨p + 1, by simpa using e⟩
    · rintro ⟨p, h⟩
      cases p with
      | zero =>
        simp only [List.getElem?_cons_zero, Option.some.injEq] at h
        subst h; exact List.mem_cons_self
      | succ p =>
        simp only [List.getElem?_cons_succ] at h
        have := ih.mpr ⟨p, h⟩
        match a, this with
        | (true, .sl k), t => exact List.mem_cons_of_mem _ t
        | (false, .sl k), t => exact t
        | (false, .ex m), t => exact t
        | (true, .ex m), t => exact t
theorem mem_peek_of {i : Nat} : ∀ {as : List (Bool × Opd)} {p : Nat}, as[p]? = some (false, .sl i) → i ∈ peekSl as
  | [], p, h => by simp at h
  | a :: as, 0, h => by
    simp only [List.getElem?_cons_zero, Option.some.injEq] at h
    subst h; exact List.mem_cons_self
  | a :: as, p + 1, h => by
    simp only [List.getElem?_cons_succ] at h
    have := mem_peek_of h
    match a, this with
    | (true, .sl k), t => exact t
    | (false, .sl k), t => exact List.mem_cons_of_mem _ t
    | (false, .ex m), t => exact t
    | (true, .ex m), t => exact t
open Classical in
/-- what is frozen for the callee -/
noncomputable def zc (as : List (Bool × Opd)) (σ : L2.St) (r : Rho) (Z H : Hp) : Hp := fun b => if Pk as σ r b then H b else Z b
open Classical in
/-- .. and behind the call, if nothing of it was kept -/
noncomputable def zu (k : Bool) (as : List (Bool × Opd)) (σ : L2.St) (r : Rho) (Z : Hp) : Hp := fun b => if k = true ∧ Pk as σ r b then none else Z b
theorem SR.pk (S : SR K Z σ H r) {as : List (Bool × Opd)} {b : Addr} (h : Pk as σ r b) : Z b = none ∧ ∃ o d, H b = some o ∧ ObC K Z o d := by
  obtain ⟨i, _, d, hw, e⟩ := h
  obtain ⟨a, o, e1, h1, h2, h3⟩ := S.own_ref hw
  rw [e] at e1
  cases e1
  exact ⟨h1, o, d, h2, h3⟩
theorem zc_le (S : SR K Z σ H r) (as : List (Bool × Opd)) : Le Z (zc as σ r Z H) := fun b u e => by
  unfold zc
  split
  · rename_i h; rw [(S.pk h).1] at e; cases e
  · exact e
theorem zc_sub (S : SR K Z σ H r) (as : List (Bool × Opd)) : Le (zc as σ r Z H) H := fun b u e => by
  unfold zc at e
  split at e
  · exact e
  · exact S.sub b u e
/-- the callee's state -/
theorem callee_sr {H0 : Hp} {r0 : Rho} {as : List (Bool × Opd)} {xs : List V} {us : List Vl} (S : SR K Z σ H r) (ok : okArgs as = true) (ha : ArgAll K H0 r0 Z σ H r as xs us) :
    SR K (zc as σ r Z H) (xs.map some) H (us.map some) ∧ (∀ v ∈ us, isArg v = true) ∧ ∀ a, Own (us.map some) (xs.map some) a → (∃ i ∈ lentSl as, ∃ d, ow r i d ∧ σ[i]? = some (some (.ref a))) ∨ (¬ Own r σ a ∧ (H0 a = none ∨ Own r0 σ a)) := by
  obtain ⟨l1, l2, hg⟩ := arg_get ha
  have at_us : ∀ (p : Nat) v, us[p]? = some v → ∃ a x, as[p]? = some a ∧ xs[p]? = some x ∧ ArgR K H0 r0 Z σ H r a x v := fun p v h => by
    have hp : p < as.length := by rw [← l2]; exact (List.getElem?_eq_some_iff.mp h).1
    obtain ⟨x, u, e1, e2, q⟩ := hg p as[p] (List.getElem?_eq_getElem hp)
    rw [h] at e2
    cases e2
    exact ⟨_, x, List.getElem?_eq_getElem hp, e1, q⟩
  have gtu : ∀ (p : Nat) v, gt (us.map some) p = some v → us[p]? = some v := fun p v h => by
    unfold gt at h
    rw [List.getElem?_map] at h
    cases e : us[p]? with
    | none => rw [e] at h; cases h
    | some w => rw [e] at h; exact h
  have kinds : ∀ (p : Nat) v, us[p]? = some v → isArg v = true := fun p v h => by
    obtain ⟨a, x, e1, e2, q⟩ := at_us p v h
    match a, v, q with
    | (false, .sl i), .val d, _ => rfl
    | (true, .sl i), .lent d, _ => rfl
    | (false, .ex _), .val d, _ => rfl
    | (true, .ex _), .lent d, _ => rfl
  have sx : ∀ (p : Nat) x, xs[p]? = some x → (xs.map some)[p]? = some (some x) := fun p x h => by rw [List.getElem?_map, h]; rfl
  have xs_of : ∀ (p : Nat) (x : V), (xs.map some)[p]? = some (some x) → xs[p]? = some x := fun p x h => by
    rw [List.getElem?_map] at h
    cases e : xs[p]? with
    | none => rw [e] at h; cases h
    | some w => rw [e] at h; simpa using h
  have zle := zc_le S as
  refine ⟨⟨zc_sub S as, S.tb.to (fun _ _ h _ _ _ => h) (fun b ps hb hz => by
    unfold zc
    rw [if_neg]
    · exact hz
    · intro pk
      obtain ⟨_, o, d, e, hc⟩ := S.pk pk
      rw [hb] at e
      cases e
      exact hc.nt ps rfl), by simp [l1, l2], fun p v h hl => ?_, fun p q b d d' hp hq ep eq => ?_⟩, fun v hv => ?_, fun a h => ?_⟩
  · obtain ⟨a, x, e1, e2, q⟩ := at_us p v (gtu p v h)
    refine ⟨x, sx p x e2, ?_⟩
    match a, v, q with
    | (false, .sl i), .val d, ⟨hp, ei⟩ =>
      rcases peek_gt hp with hv | hw
      · obtain ⟨y, ey, ry⟩ := S.at_ i _ hv (by intro z; cases z)
        rw [ei] at ey
        cases ey
        exact Rp.le zle d x ry
      · obtain ⟨b, o, eb, hz, hh, hc⟩ := S.own_ref hw
        rw [ei] at eb
        cases eb
        have pk : Pk as σ r b := ⟨i, mem_peek_of e1, d, hw, ei⟩
        refine ObC.rp hc ?_ zle
        unfold zc
        rw [if_pos pk]
        exact hh
    | (false, .ex _), .val d, rx => exact Rp.le zle d x rx
    | (true, .sl i), .lent d, ⟨hw, ei⟩ =>
      obtain ⟨b, o, eb, hz, hh, hc⟩ := S.own_ref hw
      rw [ei] at eb
      cases eb
      refine ⟨b, o, rfl, ?_, hh, ObC.le zle hc⟩
      unfold zc
      rw [if_neg]
      · exact hz
      · rintro ⟨j, hj, d2, hw2, ej⟩
        have := S.sep j i b d2 d hw2 hw ej ei
        subst this
        exact mem_lent_peek ok j (mem_lent_iff.mpr ⟨p, e1⟩) hj
    | (true, .ex _), .lent d, ⟨⟨b, o, eb, hz, hh, hc⟩, no⟩ =>
      refine ⟨b, o, eb, ?_, hh, ObC.le zle hc⟩
      unfold zc
      rw [if_neg]
      · exact hz
      · rintro ⟨j, hj, d2, hw2, ej⟩
        exact (no b eb).1 ⟨j, d2, hw2, ej⟩
  · have lp : ∀ {p d}, ow (us.map some) p d → ∃ a x, as[p]? = some a ∧ xs[p]? = some x ∧ ArgR K H0 r0 Z σ H r a x (.lent d) := fun {p d} h => by
      rcases h with h | h
      · have := kinds p _ (gtu p _ h)
        cases this
      · exact at_us p _ (gtu p _ h)
    obtain ⟨a, x, e1, e2, q1⟩ := lp hp
    obtain ⟨a', x', e1', e2', q2⟩ := lp hq
    have ex := xs_of p _ ep
    rw [e2] at ex
    cases ex
    have ex' := xs_of q _ eq
    rw [e2'] at ex'
    cases ex'
    have key : ∀ (p q : Nat) a a' d d', p < q → as[p]? = some a → as[q]? = some a' → ArgR K H0 r0 Z σ H r a (.ref b) (.lent d) → ArgR K H0 r0 Z σ H r a' (.ref b) (.lent d') → False := fun p q a a' d d' hpq e1 e1' q1 q2 => by
      have ap := ok_apart ok p q a a' hpq e1 e1'
      match a, a', q1, q2, ap with
      | (true, .sl i), (true, .sl j), ⟨w1, s1⟩, ⟨w2, s2⟩, ap =>
        have := S.sep i j b _ _ w1 w2 s1 s2
        subst this
        simp [apart] at ap
      | (true, .sl i), (true, .ex _), ⟨w1, s1⟩, ⟨_, no⟩, ap => exact (no b rfl).1 ⟨i, _, w1, s1⟩
      | (true, .ex _), (true, .sl i), ⟨_, no⟩, ⟨w1, s1⟩, ap => exact (no b rfl).1 ⟨i, _, w1, s1⟩
      | (true, .ex _), (true, .ex _), _, _, ap => simp [apart] at ap
    rcases Nat.lt_trichotomy p q with c | c | c
    · exact (key p q a a' _ _ c e1 e1' q1 q2).elim
    · exact c
    · exact (key q p a' a _ _ c e1' e1 q2 q1).elim
  · obtain ⟨p, e⟩ := List.mem_iff_getElem?.mp hv
    exact kinds p v e
  · obtain ⟨p, d, hw, ep⟩ := h
    rcases hw with hw | hw
    · have := kinds p _ (gtu p _ hw)
      cases this
    · obtain ⟨c, x, e1, e2, q⟩ := at_us p _ (gtu p _ hw)
      have ex := xs_of p _ ep
      rw [e2] at ex
      cases ex
      match c, q with
      | (true, .sl i), ⟨w1, s1⟩ => exact .inl ⟨i, mem_lent_iff.mpr ⟨p, e1⟩, d, w1, s1⟩
      | (true, .ex _), ⟨_, no⟩ => exact .inr (no a rfl)
end
end Mi

set_option maxHeartbeats 1000000
namespace Mi
open PySem PySem.Spec PyProof.Rows L2

section
variable {K : PySem.W.Frag} {R : XR} {W : WX} {Z Z1 Z' Z'' H H1 H' H'' : Hp} {σ σ' : L2.St} {r r1 r2 r' r'' : Rho} {x : V} {d : Da} {v : Vl} {as : List (Bool × Opd)} {xs : List V} {us : List Vl} {ls : List Da}

theorem zu_false : zu false as σ r Z = Z := by
  funext b; unfold zu; rw [if_neg]; rintro ⟨h, _⟩; cases h

theorem call_end {k : Bool} (S : SR K Z σ H r) (F1 : Fr Z σ H r Z1 σ H1 r1) (S1 : SR K Z1 σ H1 r1) (ok : okArgs as = true) (ha : ArgAll K H r Z1 σ H1 r1 as xs us) (C : CEnd K (zc as σ r1 Z1 H1) H1 xs us ls Z' H')
    (hb : backLents as ls r1 = some r2) (hk : k = true → ls.all scalOb = true) (hr : if k = true then r' = r2 else frzAll (peekSl as) r2 = some r') :
    SR K (zu k as σ r1 Z') σ H' r' ∧ Fr Z σ H r (zu k as σ r1 Z') σ H' r' ∧ ∀ a, Own r' σ a → Own r1 σ a := by
  obtain ⟨_, _, ownU⟩ := callee_sr S1 ok ha
  obtain ⟨bl, bn, bm⟩ := back_spec (P := fun d => k = true → scalOb d = true) ok hb C.lts ha (fun d hd hk' => List.all_eq_true.mp (hk hk') d hd)
  have lp := mem_lent_peek ok
  -- the slots at the end
  have rl : r'.length = r1.length := by
    cases k with
    | true => rw [if_pos rfl] at hr; rw [hr]; exact bl
    | false => rw [if_neg Bool.false_ne_true] at hr; rw [(frz_spec hr).1]; exact bl
  have slot : ∀ j, (j ∈ lentSl as ∧ ∃ d' x, (k = true → scalOb d' = true) ∧ σ[j]? = some (some x) ∧ ObR K Z' H' x d' ∧ ((gt r' j = some (.own d') ∧ ∃ d, gt r1 j = some (.own d)) ∨ (gt r' j = some (.lent d') ∧ ∃ d, gt r1 j = some (.lent d)))) ∨
      (j ∉ lentSl as ∧ gt r' j = gt r1 j ∧ (k = false → j ∈ peekSl as → ∃ d, gt r1 j = some (.val d))) ∨ (j ∉ lentSl as ∧ k = false ∧ j ∈ peekSl as ∧ ∃ d, gt r1 j = some (.own d) ∧ gt r' j = some (.val d)) := fun j => by
    by_cases hj : j ∈ lentSl as
    · obtain ⟨d', y, p, e1, e2, e3⟩ := bm j hj
      refine .inl ⟨hj, d', y, p, e1, e2, ?_⟩
      cases k with
      | true => rw [if_pos rfl] at hr; rw [hr]; exact e3
      | false =>
        rw [if_neg Bool.false_ne_true] at hr
        rw [(frz_spec hr).2.1 j (lp j hj)]; exact e3
    · cases k with
      | true =>
        rw [if_pos rfl] at hr
        exact .inr (.inl ⟨hj, by rw [hr]; exact bn j hj, fun h => by cases h⟩)
      | false =>
        rw [if_neg Bool.false_ne_true] at hr
        obtain ⟨_, f2, f3⟩ := frz_spec hr
        by_cases hp : j ∈ peekSl as
        · obtain ⟨d, e1, e2⟩ := f3 j hp
          rw [bn j hj] at e2
          rcases e2 with e2 | e2
          · exact .inr (.inl ⟨hj, e1.trans e2.symm, fun _ _ => ⟨d, e2⟩⟩)
          · exact .inr (.inr ⟨hj, rfl, hp, d, e2, e1⟩)
        · exact .inr (.inl ⟨hj, by rw [f2 j hp]; exact bn j hj, fun _ h => absurd h hp⟩)
  have owr : ∀ {j d'}, ow r' j d' → ∃ d, ow r1 j d := fun {j d'} h => by
    rcases slot j with ⟨_, d2, y, _, _, _, e⟩ | ⟨_, e, _⟩ | ⟨_, _, _, d2, _, e⟩
    · rcases e with ⟨_, d, q⟩ | ⟨_, d, q⟩
      · exact ⟨d, .inl q⟩
      · exact ⟨d, .inr q⟩
    · unfold ow at h; rw [e] at h; exact ⟨d', h⟩
    · unfold ow at h; rw [e] at h; rcases h with h | h <;> cases h
  have owA : ∀ {a}, Own r' σ a → Own r1 σ a := fun {a} ⟨j, d', h1, h2⟩ => by
    obtain ⟨d, h⟩ := owr h1
    exact ⟨j, d, h, h2⟩
  have zle := zc_le S1 as
  -- frozen things stay frozen
  have le1 : Le Z1 (zu k as σ r1 Z') := fun b u e => by
    unfold zu
    rw [if_neg]
    · exact C.zm b u (zle b u e)
    · rintro ⟨_, h⟩; rw [(S1.pk h).1] at e; cases e
  have tups : ∀ a xs, Rd Z' a (.tup xs) → k = true → Rd (zu k as σ r1 Z') a (.tup xs) := fun a ys h hk' => by
    have np : ¬ Pk as σ r1 a := fun p => by
      obtain ⟨z1, o, d, ho, hc⟩ := S1.pk p
      have e1 : zc as σ r1 Z1 H1 a = some o := by unfold zc; rw [if_pos p]; exact ho
      have e2 := C.zm a o e1
      rcases h with h | ⟨ob, h⟩
      · rw [e2] at h; cases h; unfold ObC at hc; split at hc <;> first | exact hc.elim | (rename_i q; cases q)
      · rw [e2] at h; cases h; unfold ObC at hc; split at hc <;> first | exact hc.elim | (rename_i q; cases q)
    have e : zu k as σ r1 Z' a = Z' a := by unfold zu; rw [if_neg]; rintro ⟨_, q⟩; exact np q
    rcases h with h | ⟨ob, h⟩
    · exact .inl (e.trans h)
    · exact .inr ⟨ob, e.trans h⟩
  have zuN : ∀ a, Z' a = none → zu k as σ r1 Z' a = none := fun a h => by unfold zu; split <;> first | rfl | exact h
  have subU : Le (zu k as σ r1 Z') H' := fun b u e => by
    unfold zu at e
    split at e
    · cases e
    · exact C.sub b u e
  -- an owner that the callee did not get
  have other : ∀ {j d a}, j ∉ lentSl as → ow r1 j d → σ[j]? = some (some (.ref a)) → ¬ Own (us.map some) (xs.map some) a := fun {j d a} hj hw e h => by
    rcases ownU a h with ⟨i, hi, d2, hw2, e2⟩ | ⟨n, _⟩
    · have := S1.sep i j a d2 d hw2 hw e2 e
      subst this
      exact hj hi
    · exact n ⟨j, d, hw, e⟩
  have zcN : ∀ {j d a}, ow r1 j d → σ[j]? = some (some (.ref a)) → j ∉ peekSl as → zc as σ r1 Z1 H1 a = Z1 a := fun {j d a} hw e hj => by
    unfold zc
    rw [if_neg]
    rintro ⟨i, hi, d2, hw2, e2⟩
    have := S1.sep i j a d2 d hw2 hw e2 e
    subst this
    exact hj hi
  refine ⟨⟨subU, C.tb.to (fun _ _ h _ _ _ => h) (fun a _ _ hz => zuN a hz), by rw [rl]; exact S1.len, fun j v hj hl => ?_, fun i j a d d' h1 h2 e1 e2 => ?_⟩, ⟨fun a o e n => ?_, fun b u e => le1 b u (F1.zm b u e), fun a e n => ?_, fun a h => F1.ow a (owA h), fun i e => ?_, fun i d e => ?_⟩, fun a h => owA h⟩
  · rcases slot j with ⟨hjl, d', y, sc, ey, ob, e⟩ | ⟨hjl, e, pk⟩ | ⟨hjl, hk', hp, d2, e1, e2⟩
    · refine ⟨y, ey, ?_⟩
      have ob2 : ObR K (zu k as σ r1 Z') H' y d' := by
        obtain ⟨a, o, ea, hz, hh, hc⟩ := ob
        refine ⟨a, o, ea, zuN a hz, hh, ?_⟩
        cases k with
        | true => exact scalOb_rp (fun a ys h => tups a ys h rfl) (sc rfl) hc
        | false => rw [zu_false]; exact hc
      rcases e with ⟨e, _⟩ | ⟨e, _⟩
      · rw [e] at hj; cases hj; exact ob2
      · rw [e] at hj; cases hj; exact ob2
    · rw [e] at hj
      obtain ⟨y, ey, q⟩ := S1.at_ j v hj hl
      refine ⟨y, ey, ?_⟩
      have ob : ∀ d, ow r1 j d → ObR K Z1 H1 y d → ObR K (zu k as σ r1 Z') H' y d := fun d hw q => by
        obtain ⟨a, o, ea, hz, hh, hc⟩ := q
        subst ea
        have h1 := (C.keep a o hh (other hjl hw ey)).same hc.nt
        refine ⟨a, o, rfl, ?_, h1, ObC.le le1 hc⟩
        by_cases pj : j ∈ peekSl as
        · cases k with
          | true =>
            unfold zu
            rw [if_pos ⟨rfl, j, pj, d, hw, ey⟩]
          | false =>
            obtain ⟨d3, e3⟩ := pk rfl pj
            rcases hw with hw | hw <;> (rw [e3] at hw; cases hw)
        · apply zuN
          have z1 : zc as σ r1 Z1 H1 a = none := by rw [zcN hw ey pj]; exact hz
          cases q2 : Z' a with
          | none => rfl
          | some u =>
            have := C.zn a z1 (by rw [q2]; intro z; cases z)
            rw [hh] at this; cases this
      cases v with
      | val d => exact Rp.le le1 d y q
      | own d => exact ob d (.inl hj) q
      | lent d => exact ob d (.inr hj) q
      | lck => exact absurd rfl hl
    · rw [e2] at hj
      cases hj
      obtain ⟨a, o, ea, hz, hh, hc⟩ := S1.own_ref (.inl e1)
      refine ⟨_, ea, ?_⟩
      subst hk'
      rw [zu_false]
      have pk : Pk as σ r1 a := ⟨j, hp, d2, .inl e1, ea⟩
      have e3 : zc as σ r1 Z1 H1 a = some o := by unfold zc; rw [if_pos pk]; exact hh
      exact ObC.rp hc (C.zm a o e3) fun b u q => C.zm b u (zle b u q)
  · obtain ⟨d1, w1⟩ := owr h1
    obtain ⟨d2, w2⟩ := owr h2
    exact S1.sep i j a d1 d2 w1 w2 e1 e2
  · refine (F1.keep a o e n).trans fun o' e' => C.keep a o' e' fun h => ?_
    rcases ownU a h with ⟨i, hi, d2, hw2, e2⟩ | ⟨_, q⟩
    · rcases F1.ow a ⟨i, d2, hw2, e2⟩ with q | q
      · exact n q
      · rw [e] at q; cases q
    · rcases q with q | q
      · rw [e] at q; cases q
      · exact n q
  · by_cases z1 : Z1 a = none
    · by_cases pk : Pk as σ r1 a
      · obtain ⟨i, _, d2, hw, e2⟩ := pk
        exact (F1.ow a ⟨i, d2, hw, e2⟩).symm
      · have n2 : Z' a ≠ none := fun q => n (zuN a q)
        have e3 : zc as σ r1 Z1 H1 a = none := by unfold zc; rw [if_neg pk]; exact z1
        have h1 := C.zn a e3 n2
        cases e0 : H a with
        | none => exact .inl rfl
        | some o =>
          by_cases c : Own r σ a
          · exact .inr c
          · exact absurd h1 (F1.keep a o e0 c).nn
    · exact F1.zn a e z1
  · obtain ⟨h1, h2⟩ := F1.lk i e
    refine ⟨?_, h2⟩
    rcases slot i with ⟨_, d', y, _, _, _, q⟩ | ⟨_, q, _⟩ | ⟨_, _, _, d2, q, _⟩
    · rcases q with ⟨_, d, q⟩ | ⟨_, d, q⟩ <;> (rw [h1] at q; cases q)
    · rw [q]; exact h1
    · rw [h1] at q; cases q
  · obtain ⟨⟨d1, h1⟩, h2⟩ := F1.lt i d e
    refine ⟨?_, h2⟩
    rcases slot i with ⟨_, d', y, _, _, _, q⟩ | ⟨_, q, _⟩ | ⟨_, _, _, d2, q, _⟩
    · rcases q with ⟨_, d, q⟩ | ⟨q, d, _⟩
      · rw [h1] at q; cases q
      · exact ⟨d', q⟩
    · exact ⟨d1, by rw [q]; exact h1⟩
    · rw [h1] at q; cases q

theorem endCall_cases {α : Type} {a : α} {k : Bool} {f : α → Rho → Out Vl} {o : Out Vl} (h : endCall as a k ls r1 f = o) (ho : o ≠ .stuck) :
    ∃ r2 r', backLents as ls r1 = some r2 ∧ (if k = true then r' = r2 else frzAll (peekSl as) r2 = some r') ∧ o = f a r' := by
  unfold endCall at h
  split at h
  · rename_i r2 e
    cases k with
    | true => rw [if_pos rfl] at h; exact ⟨r2, r2, e, by rw [if_pos rfl], h.symm⟩
    | false =>
      rw [if_neg Bool.false_ne_true] at h
      split at h
      · rename_i r3 e3
        exact ⟨r2, r3, e, by rw [if_neg Bool.false_ne_true]; exact e3, h.symm⟩
      · exact absurd h.symm ho
  · exact absurd h.symm ho

theorem Eo.bnd0 {α β : Type} {m : Mm α} {f : α → Mm β} {k : β → Rho → Hp → Hp → Prop} (h : Eo K R W Z σ H r (mBnd m f r) k) :
    Eo K R W Z σ H r (m r) fun a r1 Z1 H1 => Eo K R W Z σ H r (f a r1) k := by
  unfold mBnd at h
  cases e : m r with
  | ok a r1 => rw [e] at h; exact fun _ _ _ _ => h
  | exc ex r1 => rw [e] at h; exact h
  | stuck => rw [e] at h; exact h
theorem zu_new {k : Bool} {a : Addr} (h : Z' a = none) : zu k as σ r1 Z' a = none := by unfold zu; split <;> first | rfl | exact h
/-- what was handed back, where the slots' own containers are one's own again -/
theorem res_clean {v : Vl} {k : Bool} (S1 : SR K Z1 σ H1 r1) (C : CEnd K (zc as σ r1 Z1 H1) H1 xs us ls Z' H') (hk : k = true → clean v ls = true) (nr : NewR K H1 Z' H' x v) : NewR K H1 (zu k as σ r1 Z') H' x v := by
  cases k with
  | false => rw [zu_false]; exact nr
  | true =>
    have cl := hk rfl
    unfold clean at cl
    rw [Bool.and_eq_true] at cl
    have tups : ∀ a ys, Rd Z' a (.tup ys) → Rd (zu true as σ r1 Z') a (.tup ys) := fun a ys h => by
      have np : ¬ Pk as σ r1 a := fun p => by
        obtain ⟨z1, o, d, ho, hc⟩ := S1.pk p
        have e1 : zc as σ r1 Z1 H1 a = some o := by unfold zc; rw [if_pos p]; exact ho
        have e2 := C.zm a o e1
        rcases h with h | ⟨ob, h⟩
        · rw [e2] at h; cases h; unfold ObC at hc; split at hc <;> first | exact hc.elim | (rename_i q; cases q)
        · rw [e2] at h; cases h; unfold ObC at hc; split at hc <;> first | exact hc.elim | (rename_i q; cases q)
      have e : zu true as σ r1 Z' a = Z' a := by unfold zu; rw [if_neg]; rintro ⟨_, q⟩; exact np q
      rcases h with h | ⟨ob, h⟩
      · exact .inl (e.trans h)
      · exact .inr ⟨ob, e.trans h⟩
    cases v with
    | val d => exact scal_rp tups d x cl.1 nr
    | own d =>
      obtain ⟨⟨a, o, ea, hz, hh, hc⟩, nw⟩ := nr
      exact ⟨⟨a, o, ea, zu_new hz, hh, scalOb_rp tups cl.1 hc⟩, nw⟩
    | lent d => exact nr
    | lck => exact nr

/-- THE CALL -/
theorem call_to {F : List Vl → CRes} {Q : VK} (h : rdE K R W (mCall F as) σ H Q) : tArgs K R W as σ H fun vs H1 => spF K R as.length F vs H1 Q (WE W σ) := by
  obtain ⟨Z, r, S, h⟩ := h
  unfold mCall at h
  split at h
  · rename_i ok
    refine args_to as S ((Eo.bnd0 h).mono fun us r1 Z1 H1 S1 F1 k1 xs ha => ?_)
    obtain ⟨Sc, ia, _⟩ := callee_sr S1 ok ha
    refine ⟨_, us, (arg_get ha).1, Sc, ia, ?_⟩
    cases e : F us with
    | stuck => rw [e] at k1; exact k1.elim
    | ret v ls =>
      rw [e] at k1
      replace k1 : Eo K R W Z σ H r (endCall as v (clean v ls) ls r1 Out.ok) fun v r' Z' H' => ∀ x, TmpR K H r Z' σ H' r' x v → Q x H' := k1
      intro x Z' H' C nr
      have ns : endCall as v (clean v ls) ls r1 Out.ok ≠ .stuck := fun z => by rw [z] at k1; exact k1.elim
      obtain ⟨r2, r', hb, hr, q⟩ := endCall_cases rfl ns
      rw [q] at k1
      have cl : clean v ls = true → ls.all scalOb = true := fun h => by unfold clean at h; rw [Bool.and_eq_true] at h; exact h.2
      obtain ⟨S2, F2, O2⟩ := call_end S F1 S1 ok ha C hb cl hr
      have nr2 := res_clean (k := clean v ls) S1 C (fun h => h) nr
      refine k1 _ H' S2 F2 x ?_
      cases v with
      | val d => exact nr2
      | own d =>
        refine ⟨nr2.1, fun a ea => ?_⟩
        have na := nr2.2 a ea
        constructor
        · exact fun w => (S1.own_z (O2 a w)).2 na
        · cases e0 : H a with
          | none => exact .inl rfl
          | some o =>
            by_cases c : Own r σ a
            · exact .inr c
            · exact absurd na (F1.keep a o e0 c).nn
      | lent d => exact nr2
      | lck => exact nr2
    | exc ex ls =>
      rw [e] at k1
      replace k1 : Eo K R W Z σ H r (endCall as ex false ls r1 Out.exc) fun v r' Z' H' => ∀ x, TmpR K H r Z' σ H' r' x v → Q x H' := k1
      intro cls d Z' H' C hR
      have ns : endCall as ex false ls r1 (Out.exc (α := Vl)) ≠ .stuck := fun z => by rw [z] at k1; exact k1.elim
      obtain ⟨r2, r', hb, hr, q⟩ := endCall_cases rfl ns
      rw [q] at k1
      obtain ⟨S2, F2, O2⟩ := call_end (k := false) S F1 S1 ok ha C hb (fun h => by cases h) hr
      rw [zu_false] at S2 F2
      exact k1 cls d Z' H' S2 F2 hR
  · obtain ⟨⟩ := h
end
end Mi

set_option maxHeartbeats 1000000
namespace Mi
open PySem PySem.Spec PyProof.Rows L2

/-! ## statements -/
section
variable (K : PySem.W.Frag) (R : XR) (W : WX)
/-- a value handed back; σ0, H0, r0: at the start -/
def RetR (σ0 : L2.St) (H0 : Hp) (r0 : Rho) (Z : Hp) (σ : L2.St) (H : Hp) (r : Rho) (x : V) : Vl → Prop
  | .val d => Rp K Z x d
  | .own d => ObR K Z H x d ∧ ∀ a, x = .ref a → ¬ Own r σ a ∧ (H0 a = none ∨ Own r0 σ0 a)
  | _ => False
def EndF (σ0 : L2.St) (H0 : Hp) (r0 : Rho) (Z : Hp) (σ : L2.St) (H : Hp) (r : Rho) (D : Ends) : Fl → Prop
  | .nx => D.nx σ H
  | .brk => D.bk σ H
  | .cnt => D.ct σ H
  | .rt v => ∀ x, RetR K σ0 H0 r0 Z σ H r x v → D.rt x H
/-- an outcome at slots that may have changed -/
def Es {α : Type} (Z : Hp) (σ : L2.St) (H : Hp) (r : Rho) (o : Out α) (k : α → Rho → Hp → L2.St → Hp → Prop) : Prop := match o with
  | .ok a r' => ∀ σ' Z' H', SR K Z' σ' H' r' → Fr Z σ H r Z' σ' H' r' → k a r' Z' σ' H'
  | .exc e r' => ∀ cls d σ' Z' H', SR K Z' σ' H' r' → Fr Z σ H r Z' σ' H' r' → R Z' H' cls d e → W cls d σ' H'
  | .stuck => False
def rdS (m : Mm Fl) : TS := fun D σ H => ∃ Z r, SR K Z σ H r ∧ Es K R W Z σ H r (m r) fun f r' Z' σ' H' => EndF K σ H r Z' σ' H' r' D f
end
section
variable {K : PySem.W.Frag} {R : XR} {W : WX} {Z Z' Z'' H H' H'' : Hp} {σ σ' σ'' : L2.St} {r r' r'' : Rho} {x : V} {d : Da} {v : Vl} {D : Ends}
theorem Es.mono {α : Type} {o : Out α} {k k' : α → Rho → Hp → L2.St → Hp → Prop} (h : Es K R W Z σ H r o k) (f : ∀ a r' Z' σ' H', SR K Z' σ' H' r' → Fr Z σ H r Z' σ' H' r' → k a r' Z' σ' H' → k' a r' Z' σ' H') : Es K R W Z σ H r o k' := by
  cases o with
  | ok a r' => exact fun σ' Z' H' S F => f a r' Z' σ' H' S F (h σ' Z' H' S F)
  | exc e r' => exact h
  | stuck => exact h
theorem Es.start {α : Type} {o : Out α} {k : α → Rho → Hp → L2.St → Hp → Prop} (F : Fr Z σ H r Z' σ' H' r') (h : Es K R W Z σ H r o k) : Es K R W Z' σ' H' r' o k := by
  cases o with
  | ok a r2 => exact fun σ2 Z2 H2 S2 F2 => h σ2 Z2 H2 S2 (F.trans F2)
  | exc e r2 => exact fun cls d σ2 Z2 H2 S2 F2 q => h cls d σ2 Z2 H2 S2 (F.trans F2) q
  | stuck => exact h
/-- an expression first -/
theorem Es.bndE {α β : Type} {m : Mm α} {f : α → Mm β} {k : β → Rho → Hp → L2.St → Hp → Prop} (h : Es K R W Z σ H r (mBnd m f r) k) :
    Eo K R W Z σ H r (m r) fun a r1 Z1 H1 => Es K R W Z σ H r (f a r1) k := by
  unfold mBnd at h
  cases e : m r with
  | ok a r1 => rw [e] at h; exact fun _ _ _ _ => h
  | exc ex r1 => rw [e] at h; exact fun cls d Z1 H1 S1 F1 q => h cls d σ Z1 H1 S1 F1 q
  | stuck => rw [e] at h; exact h
/-- a statement first -/
theorem Es.bnd {α β : Type} {m : Mm α} {f : α → Mm β} {k : β → Rho → Hp → L2.St → Hp → Prop} {r0 : Rho} (h : Es K R W Z σ H r (mBnd m f r0) k) :
    Es K R W Z σ H r (m r0) fun a r1 Z1 σ1 H1 => Es K R W Z σ H r (f a r1) k := by
  unfold mBnd at h
  cases e : m r0 with
  | ok a r1 => rw [e] at h; exact fun _ _ _ _ _ => h
  | exc ex r1 => rw [e] at h; exact h
  | stuck => rw [e] at h; exact h
theorem RetR.back {σ0 : L2.St} {H0 : Hp} {r0 : Rho} {Z0 : Hp} (F : Fr Z0 σ0 H0 r0 Z' σ' H' r') {σ2 : L2.St} {Z2 H2 : Hp} {r2 : Rho} (h : RetR K σ' H' r' Z2 σ2 H2 r2 x v) : RetR K σ0 H0 r0 Z2 σ2 H2 r2 x v := by
  cases v with
  | own d =>
    refine ⟨h.1, fun a e => ⟨(h.2 a e).1, ?_⟩⟩
    rcases (h.2 a e).2 with q | q
    · cases e0 : H0 a with
      | none => exact .inl rfl
      | some o =>
        by_cases c : Own r0 σ0 a
        · exact .inr c
        · exact absurd q (F.keep a o e0 c).nn
    · exact (F.ow a q).symm
  | val d => exact h
  | lent d => exact h
  | lck => exact h
theorem EndF.back {σ0 : L2.St} {H0 : Hp} {r0 : Rho} {Z0 : Hp} (F : Fr Z0 σ0 H0 r0 Z' σ' H' r') {σ2 : L2.St} {Z2 H2 : Hp} {r2 : Rho} {f : Fl} (h : EndF K σ0 H0 r0 Z2 σ2 H2 r2 D f) : EndF K σ' H' r' Z2 σ2 H2 r2 D f := by
  cases f with
  | rt v => exact fun x hx => h x (RetR.back F hx)
  | nx => exact h
  | brk => exact h
  | cnt => exact h

section
variable {X : Cx} {st : Stmt} {sts : List Stmt} {a b c e : Expr} {pos p : Pos} {m m1 m2 : Mm Vl} {mc : Mm Bool} {s1 s2 : Mm Fl}
theorem PSs.to {X : Cx} {e : List Stmt} {t t' : TS} (h : PSs X e t) (f : ∀ D σ H, t' D σ H → t D σ H) : PSs X e t' :=
  ⟨fun pins s σ H D I q => h.run pins s σ H D I (f D σ H q)⟩
theorem pss_mStuck : PSs X sts (rdS X.K R W mStuck) := ⟨fun _ _ _ _ _ _ q => by obtain ⟨_, _, _, q⟩ := q; exact False.elim q⟩
theorem ps_mStuck : PS X st (rdS X.K R W mStuck) := ⟨fun _ _ _ _ _ _ q => by obtain ⟨_, _, _, q⟩ := q; exact False.elim q⟩
theorem pss_mNil : PSs X [] (rdS X.K R W (mRet .nx)) := PSs.to pss_nil fun D σ H q => by
  obtain ⟨Z, r, S, q⟩ := q
  exact q σ Z H S Fr.refl
theorem seq_to (q : rdS K R W (mSeq s1 s2) D σ H) : rdS K R W s1 { D with nx := rdS K R W s2 D } σ H := by
  obtain ⟨Z, r, S, q⟩ := q
  unfold mSeq at q
  refine ⟨Z, r, S, (Es.bnd q).mono fun f r1 Z1 σ1 H1 S1 F1 k => ?_⟩
  cases f with
  | nx => exact ⟨Z1, r1, S1, (Es.start F1 k).mono fun g r2 Z2 σ2 H2 S2 F2 k2 => EndF.back F1 k2⟩
  | brk => exact k σ1 Z1 H1 S1 F1
  | cnt => exact k σ1 Z1 H1 S1 F1
  | rt v => exact fun x hx => k σ1 Z1 H1 S1 F1 x hx
theorem pss_mCons (h : PS X st (rdS X.K R W s1)) (h2 : PSs X sts (rdS X.K R W s2)) : PSs X (st :: sts) (rdS X.K R W (mSeq s1 s2)) := PSs.to (pss_cons h h2) fun D σ H q => seq_to q
theorem ps_mPass : PS X (.Pass pos) (rdS X.K R W (mRet .nx)) := PS.to ps_pass fun D σ H q => by
  obtain ⟨Z, r, S, q⟩ := q
  exact q σ Z H S Fr.refl
theorem ps_mBreak : PS X (.Break pos) (rdS X.K R W (mRet .brk)) := PS.to ps_break fun D σ H q => by
  obtain ⟨Z, r, S, q⟩ := q
  exact q σ Z H S Fr.refl
theorem ps_mCont : PS X (.Continue pos) (rdS X.K R W (mRet .cnt)) := PS.to ps_continue fun D σ H q => by
  obtain ⟨Z, r, S, q⟩ := q
  exact q σ Z H S Fr.refl
theorem ps_mRetN : PS X (.Return none pos) (rdS X.K R W (mRet (.rt (.val .none)))) := PS.to ps_retN fun D σ H q => by
  obtain ⟨Z, r, S, q⟩ := q
  exact q σ Z H S Fr.refl .non .non
theorem ps_mRet (h : PE X e (rdE X.K R W m)) : PS X (.Return (some e) pos) (rdS X.K R W (mRt m)) := PS.to (ps_ret h) fun D σ H q => by
  obtain ⟨Z, r, S, q⟩ := q
  unfold mRt at q
  refine ⟨Z, r, S, (Es.bndE q).mono fun v r1 Z1 H1 S1 F1 k x hx => ?_⟩
  refine k σ Z1 H1 S1 F1 x ?_
  cases v <;> exact hx
/-- return name: its own container leaves with it -/
theorem ps_mMove {i : Nat} (h : PE X e (tVar i)) : PS X (.Return (some e) pos) (rdS X.K R W (mRt (mMove i))) := PS.to (ps_ret h) fun D σ H q => by
  obtain ⟨Z, r, S, q⟩ := q
  unfold mRt mBnd mMove at q
  cases e : gt r i with
  | none => rw [e] at q; exact q.elim
  | some v =>
    rw [e] at q
    cases v with
    | lent d => exact q.elim
    | lck => exact q.elim
    | val d =>
      obtain ⟨x, ex, rx⟩ := S.at_ i _ e (by intro z; cases z)
      exact ⟨x, ex, q σ Z H S Fr.refl x rx⟩
    | own d =>
      obtain ⟨x, ex, rx⟩ := S.at_ i _ e (by intro z; cases z)
      have ex0 := ex
      obtain ⟨a, o, ea, hz, hh, hc⟩ := S.own_ref (.inl e)
      rw [ex] at ea
      cases ea
      have q : Es _ R W Z σ H r (.ok (Fl.rt (.own d)) (r.set i none)) _ := q
      have back : ∀ {j u}, gt (r.set i none) j = some u → j ≠ i ∧ gt r j = some u := fun {j u} h => by
        rcases gt_set_cases h with ⟨_, w⟩ | w
        · cases w
        · exact w
      have owb : ∀ {j d'}, ow (r.set i none) j d' → j ≠ i ∧ ow r j d' := fun {j d'} h => by
        rcases h with h | h
        · obtain ⟨h1, h2⟩ := back h; exact ⟨h1, .inl h2⟩
        · obtain ⟨h1, h2⟩ := back h; exact ⟨h1, .inr h2⟩
      have S' : SR X.K Z σ H (r.set i none) := by
        refine ⟨S.sub, S.tb, by simp [S.len], fun j u hj hl => S.at_ j u (back hj).2 hl, fun j k b d1 d2 h1 h2 => S.sep j k b d1 d2 (owb h1).2 (owb h2).2⟩
      have F' : Fr Z σ H r Z σ H (r.set i none) := by
        refine ⟨fun _ _ q _ => .of q, fun _ _ q => q, fun _ q n => absurd q n, fun b ⟨j, d', h1, h2⟩ => .inl ⟨j, d', (owb h1).2, h2⟩, fun j hj => ?_, fun j d' hj => ?_⟩
        · have ne : j ≠ i := fun z => by subst z; rw [e] at hj; cases hj
          exact ⟨by rw [gt_set_ne ne]; exact hj, rfl⟩
        · have ne : j ≠ i := fun z => by subst z; rw [e] at hj; cases hj
          exact ⟨⟨d', by rw [gt_set_ne ne]; exact hj⟩, rfl⟩
      refine ⟨.ref a, ex0, q σ Z H S' F' (.ref a) ⟨⟨a, o, rfl, hz, hh, hc⟩, fun b eb => ?_⟩⟩
      cases eb
      refine ⟨fun ⟨j, d', h1, h2⟩ => ?_, .inr ⟨i, d, .inl e, ex0⟩⟩
      obtain ⟨ne, w⟩ := owb h1
      exact ne (S.sep j i a d' d w (.inl e) h2 ex0)
theorem ps_mIf (hc : PT X c (rdT X.K R W mc)) (ha : PSs X sts (rdS X.K R W s1)) {sts2 : List Stmt} (hb : PSs X sts2 (rdS X.K R W s2)) : PS X (.If c sts sts2 pos) (rdS X.K R W (mIf mc s1 s2)) :=
  PS.to (ps_if hc ha hb) fun D σ H q => by
    obtain ⟨Z, r, S, q⟩ := q
    unfold mIf at q
    refine ⟨Z, r, S, (Es.bndE q).mono fun k r1 Z1 H1 S1 F1 q => ?_⟩
    cases k with
    | true =>
      rw [if_pos rfl]
      exact ⟨Z1, r1, S1, (Es.start F1 q).mono fun f r2 Z2 σ2 H2 S2 F2 k2 => EndF.back F1 k2⟩
    | false =>
      rw [if_neg Bool.false_ne_true]
      exact ⟨Z1, r1, S1, (Es.start F1 q).mono fun f r2 Z2 σ2 H2 S2 F2 k2 => EndF.back F1 k2⟩
theorem ps_mDrop (h : PE X e (rdE X.K R W m)) (hs : swapsWith e none pos.line X.env = pure false) : PS X (.Expr e pos) (rdS X.K R W (mDrop m)) := PS.to (ps_expr (rdV_of h) hs) fun D σ H q => by
  obtain ⟨Z, r, S, q⟩ := q
  unfold mDrop at q
  exact ⟨Z, r, S, (Es.bndE q).mono fun d r1 Z1 H1 S1 F1 k x hx => k σ Z1 H1 S1 F1⟩

/-! ### a slot set -/
theorem setOk {i : Nat} {v : Vl} (h : mSet i v r ≠ .stuck) : mSet i v r = .ok () (r.set i (some v)) ∧ (∀ d, gt r i ≠ some (.lent d)) ∧ gt r i ≠ some .lck ∧ i < r.length := by
  unfold mSet at h ⊢
  unfold gt
  cases e : r[i]? with
  | none => rw [e] at h; exact absurd rfl h
  | some w =>
    rw [e] at h
    have hi := (List.getElem?_eq_some_iff.mp e).1
    cases w with
    | none => exact ⟨rfl, (fun d z => by cases z), (fun z => by cases z), hi⟩
    | some u =>
      cases u with
      | lent d => exact absurd rfl h
      | lck => exact absurd rfl h
      | val d => exact ⟨rfl, (fun d z => by cases z), (fun z => by cases z), hi⟩
      | own d => exact ⟨rfl, (fun d z => by cases z), (fun z => by cases z), hi⟩
theorem set_to {σ0 : L2.St} {Z0 H0 : Hp} {r0 : Rho} {i : Nat} (F : Fr Z0 σ0 H0 r0 Z σ H r) (S : SR K Z σ H r) (hi : i < r.length) (hx : RetR K σ0 H0 r0 Z σ H r x v) (n1 : ∀ d, gt r i ≠ some (.lent d)) (n2 : gt r i ≠ some .lck) :
    SR K Z (σ.set i (some x)) H (r.set i (some v)) ∧ Fr Z0 σ0 H0 r0 Z (σ.set i (some x)) H (r.set i (some v)) := by
  have hs : i < σ.length := by rw [← S.len]; exact hi
  have sEq : (σ.set i (some x))[i]? = some (some x) := List.getElem?_set_self hs
  have sNe : ∀ j, j ≠ i → (σ.set i (some x))[j]? = σ[j]? := fun j h => List.getElem?_set_ne (Ne.symm h)
  have new : ∀ {j d'}, ow (r.set i (some v)) j d' → (j = i ∧ (v = .own d')) ∨ (j ≠ i ∧ ow r j d') := fun {j d'} h => by
    rcases h with h | h
    · rcases gt_set_cases h with ⟨e, q⟩ | ⟨e, q⟩
      · exact .inl ⟨e, by cases q; rfl⟩
      · exact .inr ⟨e, .inl q⟩
    · rcases gt_set_cases h with ⟨e, q⟩ | ⟨e, q⟩
      · cases q; exact hx.elim
      · exact .inr ⟨e, .inr q⟩
  have ownN : ∀ {a}, Own (r.set i (some v)) (σ.set i (some x)) a → Own r σ a ∨ (x = .ref a ∧ ∃ d, v = .own d) := fun {a} ⟨j, d', h1, h2⟩ => by
    rcases new h1 with ⟨e, q⟩ | ⟨e, q⟩
    · subst e
      rw [sEq] at h2
      cases h2
      exact .inr ⟨rfl, d', q⟩
    · rw [sNe j e] at h2
      exact .inl ⟨j, d', q, h2⟩
  refine ⟨⟨S.sub, S.tb, by simp [S.len], fun j u hj hl => ?_, fun j k a d1 d2 h1 h2 e1 e2 => ?_⟩, ⟨F.keep, F.zm, F.zn, fun a h => ?_, fun j hj => ?_, fun j d' hj => ?_⟩⟩
  · rcases gt_set_cases hj with ⟨e, q⟩ | ⟨e, q⟩
    · subst e
      cases q
      refine ⟨x, sEq, ?_⟩
      cases v with
      | val d => exact hx
      | own d => exact hx.1
      | lent d => exact hx.elim
      | lck => exact hx.elim
    · obtain ⟨y, ey, qy⟩ := S.at_ j u q hl
      exact ⟨y, by rw [sNe j e]; exact ey, qy⟩
  · have apart : ∀ {j d'}, j ≠ i → ow r j d' → (σ.set i (some x))[j]? = some (some (.ref a)) → x = .ref a → (∃ d, v = .own d) → False := fun {j d'} hne hw e ea ⟨d, ev⟩ => by
      subst ev
      rw [sNe j hne] at e
      exact (hx.2 a ea).1 ⟨j, d', hw, e⟩
    rcases new h1 with ⟨ej, q1⟩ | ⟨ej, q1⟩
    · rcases new h2 with ⟨ek, q2⟩ | ⟨ek, q2⟩
      · rw [ej, ek]
      · subst ej
        rw [sEq] at e1
        cases e1
        exact (apart ek q2 e2 rfl ⟨_, q1⟩).elim
    · rcases new h2 with ⟨ek, q2⟩ | ⟨ek, q2⟩
      · subst ek
        rw [sEq] at e2
        cases e2
        exact (apart ej q1 e1 rfl ⟨_, q2⟩).elim
      · rw [sNe j ej] at e1
        rw [sNe k ek] at e2
        exact S.sep j k a d1 d2 q1 q2 e1 e2
  · rcases ownN h with q | ⟨e, d', q⟩
    · exact F.ow a q
    · subst q
      exact (hx.2 a e).2.symm
  · obtain ⟨h1, h2⟩ := F.lk j hj
    have ne : j ≠ i := fun z => by subst z; exact n2 h1
    exact ⟨by rw [gt_set_ne ne]; exact h1, by rw [sNe j ne]; exact h2⟩
  · obtain ⟨⟨d1, h1⟩, h2⟩ := F.lt j d' hj
    have ne : j ≠ i := fun z => by subst z; exact n1 d1 h1
    exact ⟨⟨d1, by rw [gt_set_ne ne]; exact h1⟩, by rw [sNe j ne]; exact h2⟩
theorem TmpR.ret {H0 : Hp} {r0 : Rho} (h : TmpR K H0 r0 Z σ H r x v) : RetR K σ H0 r0 Z σ H r x v := by cases v <;> exact h

/-- name = e -/
theorem ps_mAsg {i : Nat} {nm : Str} {p' : Pos} (hN : X.N.Nodup) (hi : X.N[i]? = some nm) (hx : Loc X.env.scope nm) (h : PE X e (rdE X.K R W m)) (hs : swapsWith e (some (.Name nm p')) pos.line X.env = pure false) (hf : X.fn nm = true ∨ X.env.scope.names.lookup nm = some .local) :
    PS X (.Assign [.Name nm p'] e pos) (rdS X.K R W (mAsg i m)) := PS.to (ps_set hN hi hx h hs hf) fun D σ H q => by
  obtain ⟨Z, r, S, q⟩ := q
  unfold mAsg at q
  refine ⟨Z, r, S, (Es.bndE q).mono fun v r1 Z1 H1 S1 F1 k x hx => ?_⟩
  exact asg_to F1 S1 k hx.ret
where
  asg_to {K : PySem.W.Frag} {R : XR} {W : WX} {σ0 σ : L2.St} {Z0 H0 Z1 H1 : Hp} {r0 r1 : Rho} {x : V} {v : Vl} {i : Nat} {D : Ends} (F1 : Fr Z0 σ0 H0 r0 Z1 σ H1 r1) (S1 : SR K Z1 σ H1 r1)
      (k : Es K R W Z0 σ0 H0 r0 (mBnd (mSet i v) (fun _ => mRet Fl.nx) r1) fun f r' Z' σ' H' => EndF K σ0 H0 r0 Z' σ' H' r' D f) (hx : RetR K σ0 H0 r0 Z1 σ H1 r1 x v) : D.nx (σ.set i (some x)) H1 := by
    have ns : mSet i v r1 ≠ .stuck := fun z => by unfold mBnd at k; rw [z] at k; exact k.elim
    obtain ⟨e1, n1, n2, hl⟩ := setOk ns
    unfold mBnd at k
    rw [e1] at k
    obtain ⟨S2, F2⟩ := set_to F1 S1 hl hx n1 n2
    exact k _ _ _ S2 F2
/-- name = [.. for ..] on one line -/
theorem ps_mAsgLc {i : Nat} {st : Stmt} {te : TE} (h : PS X st (tAsg te (gName i))) (ht : ∀ σ H Q, rdE X.K R W m σ H Q → te σ H Q) : PS X st (rdS X.K R W (mAsg i m)) := PS.to h fun D σ H q => by
  obtain ⟨Z, r, S, q⟩ := q
  unfold mAsg at q
  refine ht σ H _ ⟨Z, r, S, (Es.bndE q).mono fun v r1 Z1 H1 S1 F1 k x hx => ?_⟩
  exact ps_mAsg.asg_to F1 S1 k hx.ret

/-! ### several names at once -/
/-- values of one's own, one behind another, with what was there before -/
inductive VlsX (X : Cx) (R : XR) (W : WX) : List Expr → List (Mm Vl) → Prop
  | nil : VlsX X R W [] []
  | cons {e : Expr} {es : List Expr} {m : Mm Vl} {ms : List (Mm Vl)} : notStar e = true → PE X e (rdE X.K R W m) → VlsX X R W es ms → VlsX X R W (e :: es) (m :: ms)
def tVls (K : PySem.W.Frag) (R : XR) (W : WX) : List (Mm Vl) → TA
  | [] => tNil
  | m :: ms => tCons (rdE K R W m) (tVls K R W ms)
theorem VlsX.pa : ∀ {es : List Expr} {ms : List (Mm Vl)}, VlsX X R W es ms → PA X es (tVls X.K R W ms)
  | _, _, .nil => pa_nil
  | _, _, .cons hn h t => pa_cons h t.pa (starEach_cons hn _ _)
/-- temporaries apart from each other -/
def Ap (x : V) : List V → List Vl → Prop
  | y :: ys, .own _ :: us => (∀ a, x = .ref a → y ≠ .ref a) ∧ Ap x ys us
  | _ :: ys, _ :: us => Ap x ys us
  | _, _ => True
def TmpAll (K : PySem.W.Frag) (σ0 : L2.St) (H0 : Hp) (r0 : Rho) (Z : Hp) (σ : L2.St) (H : Hp) (r : Rho) : List V → List Vl → Prop
  | [], [] => True
  | x :: xs, v :: vs => RetR K σ0 H0 r0 Z σ H r x v ∧ (∀ d, v = .own d → Ap x xs vs) ∧ TmpAll K σ0 H0 r0 Z σ H r xs vs
  | _, _ => False
theorem TmpAll.back {σ0 : L2.St} {H0 : Hp} {r0 : Rho} {Z0 : Hp} (F : Fr Z0 σ0 H0 r0 Z' σ' H' r') {σ2 : L2.St} {Z2 H2 : Hp} {r2 : Rho} : ∀ {xs : List V} {vs : List Vl}, TmpAll K σ' H' r' Z2 σ2 H2 r2 xs vs → TmpAll K σ0 H0 r0 Z2 σ2 H2 r2 xs vs
  | [], [], _ => trivial
  | _ :: _, _ :: _, h => ⟨RetR.back F h.1, h.2.1, TmpAll.back F h.2.2⟩
theorem ap_of {H1 : Hp} {r1 : Rho} {a : Addr} {o : HO} (hh : H1 a = some o) (no : ¬ Own r1 σ a) {Z2 H2 : Hp} {r2 : Rho} : ∀ {xs : List V} {vs : List Vl}, TmpAll K σ H1 r1 Z2 σ H2 r2 xs vs → Ap (.ref a) xs vs
  | [], [], _ => trivial
  | y :: ys, .own d :: us, h => ⟨fun b e z => by
      cases e
      rcases (h.1.2 a z).2 with q | q
      · rw [hh] at q; cases q
      · exact no q, ap_of hh no h.2.2⟩
  | y :: ys, .val d :: us, h => ap_of (xs := ys) (vs := us) hh no h.2.2
  | y :: ys, .lent d :: us, h => ap_of (xs := ys) (vs := us) hh no h.2.2
  | y :: ys, .lck :: us, h => ap_of (xs := ys) (vs := us) hh no h.2.2
theorem vls_to : ∀ (ms : List (Mm Vl)) {Z : Hp} {H : Hp} {r : Rho} {k : List V → Hp → Prop}, SR K Z σ H r →
    Eo K R W Z σ H r (mVls ms r) (fun vs r' Z' H' => ∀ xs, TmpAll K σ H r Z' σ H' r' xs vs → k xs H') → tVls K R W ms σ H k
  | [], Z, H, r, k, S, h => h Z H S Fr.refl [] trivial
  | m :: ms, Z, H, r, k, S, h => by
    unfold mVls at h
    refine ⟨Z, r, S, (Eo.bnd h).mono fun v r1 Z1 H1 S1 F1 k1 x hx => ?_⟩
    refine vls_to ms S1 ((Eo.bnd k1).mono fun vs r2 Z2 H2 S2 F2 k2 xs ha => ?_)
    refine k2 Z2 H2 S2 Fr.refl (x :: xs) ⟨?_, fun d ev => ?_, TmpAll.back F1 ha⟩
    · cases v with
      | val d => exact Rp.le F2.zm d x hx
      | own d =>
        obtain ⟨ob, no⟩ := tmp_keep S1 F2 S2 hx.1 fun a e => (hx.2 a e).1
        exact ⟨ob, fun a e => ⟨no a e, (hx.2 a e).2⟩⟩
      | lent d => exact hx.elim
      | lck => exact hx.elim
    · subst ev
      obtain ⟨⟨a, o, ea, hz, hh, hc⟩, no⟩ := hx
      subst ea
      exact ap_of hh (no a rfl).1 ha
/-- slots one behind another -/
def setAll (σ : L2.St) : List Nat → List V → L2.St
  | i :: is, x :: xs => setAll (σ.set i (some x)) is xs
  | _, _ => σ
theorem sets_to {σ0 : L2.St} {Z0 H0 : Hp} {r0 : Rho} : ∀ {is : List Nat} {σ : L2.St} {r : Rho} {xs : List V} {vs : List Vl}, Fr Z0 σ0 H0 r0 Z σ H r → SR K Z σ H r → TmpAll K σ0 H0 r0 Z σ H r xs vs →
    Es K R W Z0 σ0 H0 r0 (mBnd (mSets is vs) (fun _ => mRet Fl.nx) r) (fun f r' Z' σ' H' => EndF K σ0 H0 r0 Z' σ' H' r' D f) → is.length = xs.length ∧ D.nx (setAll σ is xs) H
  | [], σ, r, xs, vs, F, S, t, k => by
    match xs, vs, t, k with
    | [], [], _, k => exact ⟨rfl, k σ Z H S F⟩
    | _ :: _, _ :: _, _, k => exact k.elim
  | i :: is, σ, r, xs, vs, F, S, t, k => by
    match xs, vs, t, k with
    | [], [], _, k => exact k.elim
    | x :: xs, v :: vs, ⟨hx, ap, t⟩, k =>
      have ns : mSet i v r ≠ .stuck := fun z => by unfold mBnd mSets mBnd at k; rw [z] at k; exact k.elim
      obtain ⟨e1, n1, n2, hl⟩ := setOk ns
      unfold mBnd mSets mBnd at k
      rw [e1] at k
      obtain ⟨S2, F2⟩ := set_to F S hl hx n1 n2
      have hs : i < σ.length := by rw [← S.len]; exact hl
      have t2 : ∀ {ys : List V} {us : List Vl}, (∀ d, v = .own d → Ap x ys us) → TmpAll K σ0 H0 r0 Z σ H r ys us → TmpAll K σ0 H0 r0 Z (σ.set i (some x)) H (r.set i (some v)) ys us := by
        intro ys
        induction ys with
        | nil => intro us _ t; cases us <;> first | trivial | exact t.elim
        | cons y ys ih =>
          intro us ap t
          cases us with
          | nil => exact t.elim
          | cons u us =>
            obtain ⟨hy, apy, t⟩ := t
            refine ⟨?_, apy, ih (fun d e => ?_) t⟩
            · cases u with
              | val d => exact hy
              | lent d => exact hy
              | lck => exact hy
              | own d =>
                refine ⟨hy.1, fun a ea => ⟨fun ⟨j, d', h1, h2⟩ => ?_, (hy.2 a ea).2⟩⟩
                by_cases c : j = i
                · subst c
                  rw [List.getElem?_set_self hs] at h2
                  cases h2
                  rcases h1 with h1 | h1
                  · rw [gt_set_eq hl] at h1
                    cases h1
                    exact (ap _ rfl).1 a rfl ea
                  · rw [gt_set_eq hl] at h1
                    cases h1
                    exact hx
                · rw [List.getElem?_set_ne (Ne.symm c)] at h2
                  refine (hy.2 a ea).1 ⟨j, d', ?_, h2⟩
                  unfold ow at h1
                  rw [gt_set_ne c] at h1
                  exact h1
            · have := ap d e
              cases u <;> first | exact this.2 | exact this
      obtain ⟨l, q⟩ := sets_to (is := is) (xs := xs) (vs := vs) F2 S2 (t2 ap t) k
      exact ⟨by simp [l], q⟩
theorem ps_mPar {is : List Nat} {ms : List (Mm Vl)} {st : Stmt} {es : List Expr} (hv : VlsX X R W es ms) {t : TS} (h : PS X st t) (ht : ∀ D σ H, tVls X.K R W ms σ H (fun xs H1 => is.length = xs.length ∧ D.nx (setAll σ is xs) H1) → t D σ H) :
    PS X st (rdS X.K R W (mPar is ms)) := PS.to h fun D σ H q => by
  obtain ⟨Z, r, S, q⟩ := q
  unfold mPar at q
  exact ht D σ H (vls_to ms S ((Es.bndE q).mono fun vs r1 Z1 H1 S1 F1 k xs t => sets_to F1 S1 t k))
end
end
end Mi

set_option maxHeartbeats 1000000
namespace Mi
open PySem PySem.Spec PyProof.Rows L2

section
variable {K : PySem.W.Frag} {R : XR} {W : WX} {Z Z' Z'' H H' H'' : Hp} {σ σ' σ'' : L2.St} {r r' r'' : Rho} {x : V} {d : Da} {v : Vl} {D : Ends}

/-! ## some slots set aside and brought back -/
theorem rest {L : Nat → Prop} {Z1 Z2 H1 H2 : Hp} {σ1 σL σ2 σ3 : L2.St} {r1 rL r2 r3 : Rho} (S1 : SR K Z1 σ1 H1 r1) (S2 : SR K Z2 σ2 H2 r2) (F : Fr Z1 σL H1 rL Z2 σ2 H2 r2)
    (l1 : ∀ j, L j → ∀ d, ¬ ow rL j d) (l2 : ∀ j, ¬ L j → gt rL j = gt r1 j ∧ σL[j]? = σ1[j]?) (l3 : ∀ j, L j → gt r3 j = gt r1 j ∧ σ3[j]? = σ1[j]?) (l4 : ∀ j, ¬ L j → gt r3 j = gt r2 j ∧ σ3[j]? = σ2[j]?)
    (len : r3.length = σ3.length) : SR K Z2 σ3 H2 r3 ∧ Fr Z1 σ1 H1 r1 Z2 σ3 H2 r3 := by
  have owL : ∀ {a}, Own rL σL a → ∃ j d, ¬ L j ∧ ow r1 j d ∧ σ1[j]? = some (some (.ref a)) := fun {a} ⟨j, d, h1, h2⟩ => by
    have nl : ¬ L j := fun h => l1 j h d h1
    obtain ⟨e1, e2⟩ := l2 j nl
    unfold ow at h1
    rw [e1] at h1
    rw [e2] at h2
    exact ⟨j, d, nl, h1, h2⟩
  have owL1 : ∀ {a}, Own rL σL a → Own r1 σ1 a := fun h => let ⟨j, d, _, h1, h2⟩ := owL h; ⟨j, d, h1, h2⟩
  -- a container set aside
  have aside : ∀ {j d a}, L j → ow r1 j d → σ1[j]? = some (some (.ref a)) → ¬ Own rL σL a := fun {j d a} hl hw e h => by
    obtain ⟨k, d', nk, hw', e'⟩ := owL h
    have := S1.sep j k a d d' hw hw' e e'
    subst this
    exact nk hl
  have asideZ : ∀ {j d a}, L j → ow r1 j d → σ1[j]? = some (some (.ref a)) → ∃ o, H1 a = some o ∧ H2 a = some o ∧ Z2 a = none ∧ ObC K Z2 o d := fun {j d a} hl hw e => by
    obtain ⟨b, o, e1, hz, hh, hc⟩ := S1.own_ref hw
    rw [e] at e1
    cases e1
    have n := aside hl hw e
    refine ⟨o, hh, (F.keep a o hh n).same hc.nt, ?_, ObC.le F.zm hc⟩
    cases q : Z2 a with
    | none => rfl
    | some u =>
      rcases F.zn a hz (by rw [q]; intro z; cases z) with w | w
      · rw [hh] at w; cases w
      · exact absurd w n
  have ow3 : ∀ {j d}, ow r3 j d → (L j ∧ ow r1 j d) ∨ (¬ L j ∧ ow r2 j d) := fun {j d} h => by
    by_cases hl : L j
    · unfold ow at h; rw [(l3 j hl).1] at h; exact .inl ⟨hl, h⟩
    · unfold ow at h; rw [(l4 j hl).1] at h; exact .inr ⟨hl, h⟩
  have own3 : ∀ {a}, Own r3 σ3 a → Own r1 σ1 a ∨ H1 a = none := fun {a} ⟨j, d, h1, h2⟩ => by
    rcases ow3 h1 with ⟨hl, hw⟩ | ⟨hl, hw⟩
    · rw [(l3 j hl).2] at h2; exact .inl ⟨j, d, hw, h2⟩
    · rw [(l4 j hl).2] at h2
      rcases F.ow a ⟨j, d, hw, h2⟩ with q | q
      · exact .inl (owL1 q)
      · exact .inr q
  refine ⟨⟨S2.sub, S2.tb, len, fun j u hj hl => ?_, fun i j a d d' h1 h2 e1 e2 => ?_⟩, ⟨fun a o e n => F.keep a o e fun h => n (owL1 h), F.zm, fun a e n => (F.zn a e n).imp id owL1, fun a h => own3 h, fun i e => ?_, fun i d e => ?_⟩⟩
  · by_cases hL : L j
    · obtain ⟨g1, g2⟩ := l3 j hL
      rw [g1] at hj
      obtain ⟨y, ey, q⟩ := S1.at_ j u hj hl
      refine ⟨y, by rw [g2]; exact ey, ?_⟩
      have ob : ∀ d, ow r1 j d → ObR K Z1 H1 y d → ObR K Z2 H2 y d := fun d hw q => by
        obtain ⟨a, o, ea, hz, hh, hc⟩ := q
        subst ea
        obtain ⟨o', h1, h2, h3, h4⟩ := asideZ hL hw ey
        exact ⟨a, o', rfl, h3, h2, h4⟩
      cases u with
      | val d => exact Rp.le F.zm d y q
      | own d => exact ob d (.inl hj) q
      | lent d => exact ob d (.inr hj) q
      | lck => exact absurd rfl hl
    · obtain ⟨g1, g2⟩ := l4 j hL
      rw [g1] at hj
      obtain ⟨y, ey, q⟩ := S2.at_ j u hj hl
      exact ⟨y, by rw [g2]; exact ey, q⟩
  · have mixed : ∀ {i j d d'}, L i → ow r1 i d → ¬ L j → ow r2 j d' → σ3[i]? = some (some (.ref a)) → σ3[j]? = some (some (.ref a)) → False := fun {i j d d'} hi hw hj hw' e1 e2 => by
      rw [(l3 i hi).2] at e1
      rw [(l4 j hj).2] at e2
      obtain ⟨o, h1, _, _, _⟩ := asideZ hi hw e1
      rcases F.ow a ⟨j, d', hw', e2⟩ with q | q
      · exact aside hi hw e1 q
      · rw [h1] at q; cases q
    rcases ow3 h1 with ⟨hi, wi⟩ | ⟨hi, wi⟩
    · rcases ow3 h2 with ⟨hj, wj⟩ | ⟨hj, wj⟩
      · rw [(l3 i hi).2] at e1
        rw [(l3 j hj).2] at e2
        exact S1.sep i j a d d' wi wj e1 e2
      · exact (mixed hi wi hj wj e1 e2).elim
    · rcases ow3 h2 with ⟨hj, wj⟩ | ⟨hj, wj⟩
      · exact (mixed hj wj hi wi e2 e1).elim
      · rw [(l4 i hi).2] at e1
        rw [(l4 j hj).2] at e2
        exact S2.sep i j a d d' wi wj e1 e2
  · by_cases hL : L i
    · obtain ⟨g1, g2⟩ := l3 i hL; exact ⟨by rw [g1]; exact e, g2⟩
    · obtain ⟨g1, g2⟩ := l4 i hL
      obtain ⟨m1, m2⟩ := l2 i hL
      obtain ⟨n1, n2⟩ := F.lk i (by rw [m1]; exact e)
      exact ⟨by rw [g1]; exact n1, by rw [g2, n2, m2]⟩
  · by_cases hL : L i
    · obtain ⟨g1, g2⟩ := l3 i hL; exact ⟨⟨d, by rw [g1]; exact e⟩, g2⟩
    · obtain ⟨g1, g2⟩ := l4 i hL
      obtain ⟨m1, m2⟩ := l2 i hL
      obtain ⟨⟨d', n1⟩, n2⟩ := F.lt i d (by rw [m1]; exact e)
      exact ⟨⟨d', by rw [g1]; exact n1⟩, by rw [g2, n2, m2]⟩

/-! ### locks -/
theorem locks_mem : ∀ {os : List Opd} {p : Nat × Vl}, p ∈ locks r os → gt r p.1 = some p.2 ∧ ∃ d, p.2 = .own d ∨ p.2 = .lent d
  | [], _, h => by cases h
  | .ex m :: os, p, h => locks_mem (os := os) h
  | .sl i :: os, p, h => by
    unfold locks at h
    split at h
    · rename_i d hd
      rcases List.mem_cons.mp h with e | h
      · subst e; exact ⟨hd, d, .inl rfl⟩
      · exact locks_mem h
    · rename_i d hd
      rcases List.mem_cons.mp h with e | h
      · subst e; exact ⟨hd, d, .inr rfl⟩
      · exact locks_mem h
    · exact locks_mem h
theorem lockAll_len : ∀ (ls : List (Nat × Vl)) (r : Rho), (lockAll r ls).length = r.length
  | [], _ => rfl
  | _ :: ls, r => by unfold lockAll; rw [lockAll_len ls]; simp
theorem unlockAll_len : ∀ (ls : List (Nat × Vl)) (r : Rho), (unlockAll r ls).length = r.length
  | [], _ => rfl
  | _ :: ls, r => by unfold unlockAll; rw [unlockAll_len ls]; simp
theorem lockAll_gt : ∀ (ls : List (Nat × Vl)) (r : Rho), (∀ p ∈ ls, p.1 < r.length) → ∀ j, ((∃ p ∈ ls, p.1 = j) → gt (lockAll r ls) j = some .lck) ∧ ((¬ ∃ p ∈ ls, p.1 = j) → gt (lockAll r ls) j = gt r j)
  | [], r, _ => fun j => ⟨(fun ⟨_, h, _⟩ => by cases h), fun _ => rfl⟩
  | (i, v) :: ls, r, hb => fun j => by
    have hi : i < r.length := hb (i, v) List.mem_cons_self
    obtain ⟨h1, h2⟩ := lockAll_gt ls (r.set i (some .lck)) (fun p hp => by simpa using hb p (List.mem_cons_of_mem _ hp)) j
    unfold lockAll
    refine ⟨fun ⟨p, hp, e⟩ => ?_, fun h => ?_⟩
    · by_cases c : ∃ p ∈ ls, p.1 = j
      · exact h1 c
      · rw [h2 c]
        rcases List.mem_cons.mp hp with e2 | hp
        · subst e2; rw [← e]; exact gt_set_eq hi _
        · exact absurd ⟨p, hp, e⟩ c
    · rw [h2 fun ⟨p, hp, e⟩ => h ⟨p, List.mem_cons_of_mem _ hp, e⟩]
      exact gt_set_ne (fun e => h ⟨(i, v), List.mem_cons_self, e.symm⟩) _
theorem unlockAll_gt (f : Nat → Option Vl) : ∀ (ls : List (Nat × Vl)) (r : Rho), (∀ p ∈ ls, p.1 < r.length ∧ f p.1 = some p.2) → ∀ j, ((∃ p ∈ ls, p.1 = j) → gt (unlockAll r ls) j = f j) ∧ ((¬ ∃ p ∈ ls, p.1 = j) → gt (unlockAll r ls) j = gt r j)
  | [], r, _ => fun j => ⟨(fun ⟨_, h, _⟩ => by cases h), fun _ => rfl⟩
  | (i, v) :: ls, r, hb => fun j => by
    have hi := hb (i, v) List.mem_cons_self
    obtain ⟨h1, h2⟩ := unlockAll_gt f ls (r.set i (some v)) (fun p hp => by simpa using hb p (List.mem_cons_of_mem _ hp)) j
    unfold unlockAll
    refine ⟨fun ⟨p, hp, e⟩ => ?_, fun h => ?_⟩
    · by_cases c : ∃ p ∈ ls, p.1 = j
      · exact h1 c
      · rw [h2 c]
        rcases List.mem_cons.mp hp with e2 | hp
        · subst e2; rw [← e]; rw [gt_set_eq hi.1]; exact hi.2.symm
        · exact absurd ⟨p, hp, e⟩ c
    · rw [h2 fun ⟨p, hp, e⟩ => h ⟨p, List.mem_cons_of_mem _ hp, e⟩]
      exact gt_set_ne (fun e => h ⟨(i, v), List.mem_cons_self, e.symm⟩) _
/-- the state with its walked containers locked -/
theorem lock_sr (S : SR K Z σ H r) (os : List Opd) : SR K Z σ H (lockAll r (locks r os)) ∧ ∀ j, ((∃ p ∈ locks r os, p.1 = j) → gt (lockAll r (locks r os)) j = some .lck) ∧ ((¬ ∃ p ∈ locks r os, p.1 = j) → gt (lockAll r (locks r os)) j = gt r j) := by
  have g := lockAll_gt (locks r os) r fun p hp => gt_lt (locks_mem hp).1
  refine ⟨⟨S.sub, S.tb, by rw [lockAll_len]; exact S.len, fun j u hj hl => ?_, fun i j a d d' h1 h2 => ?_⟩, g⟩
  · by_cases c : ∃ p ∈ locks r os, p.1 = j
    · rw [(g j).1 c] at hj; cases hj; exact absurd rfl hl
    · rw [(g j).2 c] at hj; exact S.at_ j u hj hl
  · have w : ∀ {j d}, ow (lockAll r (locks r os)) j d → ow r j d := fun {j d} h => by
      by_cases c : ∃ p ∈ locks r os, p.1 = j
      · unfold ow at h; rw [(g j).1 c] at h; rcases h with h | h <;> cases h
      · unfold ow at h; rw [(g j).2 c] at h; exact h
    exact S.sep i j a d d' (w h1) (w h2)
theorem unlock_sr {Z1 H1 Z2 H2 : Hp} {σ1 σ2 : L2.St} {r1 r2 : Rho} {os : List Opd} (S1 : SR K Z1 σ1 H1 r1) (S2 : SR K Z2 σ2 H2 r2) (F : Fr Z1 σ1 H1 (lockAll r1 (locks r1 os)) Z2 σ2 H2 r2) :
    SR K Z2 σ2 H2 (unlockAll r2 (locks r1 os)) ∧ Fr Z1 σ1 H1 r1 Z2 σ2 H2 (unlockAll r2 (locks r1 os)) := by
  have g := lockAll_gt (locks r1 os) r1 fun p hp => gt_lt (locks_mem hp).1
  have lk : ∀ p ∈ locks r1 os, gt r2 p.1 = some .lck ∧ σ2[p.1]? = σ1[p.1]? := fun p hp => F.lk p.1 ((g p.1).1 ⟨p, hp, rfl⟩)
  have u := unlockAll_gt (fun j => gt r1 j) (locks r1 os) r2 fun p hp => ⟨gt_lt (lk p hp).1, (locks_mem hp).1⟩
  refine rest (L := fun j => ∃ p ∈ locks r1 os, p.1 = j) S1 S2 F (fun j hj d h => ?_) (fun j hj => ⟨(g j).2 hj, rfl⟩) (fun j hj => ⟨(u j).1 hj, ?_⟩) (fun j hj => ⟨(u j).2 hj, rfl⟩) (by rw [unlockAll_len]; exact S2.len)
  · unfold ow at h; rw [(g j).1 hj] at h; rcases h with h | h <;> cases h
  · obtain ⟨p, hp, e⟩ := hj
    subst e
    exact (lk p hp).2

/-! ### what is walked -/
/-- what is frozen, or looked at through an operand, stays -/
def Kp (K : PySem.W.Frag) (Z H : Hp) (xs : List V) (ds : List Da) (H' : Hp) : Prop :=
  ∀ a o, H a = some o → (Z a = some o ∨ ∃ (p : Nat) (d : Da), xs[p]? = some (.ref a) ∧ ds[p]? = some d ∧ Z a = none ∧ ObC K Z o d) → H' a = some o
/-- f tells the items of what the iterable's reading by values is -/
def IterS (K : PySem.W.Frag) (f : List Da → Option (List Da)) (wi : List V → Hp → (It → Hp → Prop) → Prop) : Prop :=
  ∀ xs ds items Z H R, Le Z H → OpdAll K Z H xs ds → f ds = some items →
    (∀ J Y (G : Hp → Prop), Walk J items.length G Y → (∀ H', Kp K Z H xs ds H' → G H') →
      (∀ (i : Nat) d Z' H' x H'', items[i]? = some d → Le Z Z' → Le Z' H' → Y i H' x H'' → ∃ Z'', Ext Z' H' Z'' H'' ∧ Rp K Z'' x d) → R J H) → wi xs H R
/-- a list or a tuple -/
def itSeq : List Da → Option (List Da)
  | [.list ds] => some ds
  | [.tuple ds] => some ds
  | _ => none
def wiSeq (K : PySem.W.Frag) : List V → Hp → (It → Hp → Prop) → Prop := fun xs H R => ∃ a vs, xs = [.ref a] ∧ ((SqL K H a vs ∧ R (Itl K a) H) ∨ (SqT K H a vs ∧ R (Itt K a) H))
theorem lst_keep {xs : List V} {ds : List Da} {a : Addr} {vs : List V} {es : List Da} {p : Nat} (hz : Le Z H) (hx : xs[p]? = some (.ref a)) (hd : ds[p]? = some (.list es)) (h : OpdR K Z H (.ref a) (.list es)) (hr : Rd H a (.lst vs)) (k : Kp K Z H xs ds H') : Rd H' a (.lst vs) := by
  rcases h with h | ⟨b, o, e, h, c⟩
  · cases h with
    | lst hs ha =>
      rcases hs with hs | ⟨ob, hs⟩
      · have h1 := hz _ _ hs
        have h2 := k a _ h1 (.inl hs)
        rcases hr with hr | ⟨o2, hr⟩
        · rw [h1] at hr; cases hr; exact .inl h2
        · rw [h1] at hr; cases hr
      · have h1 := hz _ _ hs
        have h2 := k a _ h1 (.inl hs)
        rcases hr with hr | ⟨o2, hr⟩
        · rw [h1] at hr; cases hr
        · rw [h1] at hr; cases hr; exact .inr ⟨_, h2⟩
  · cases e
    by_cases hz0 : Z a = none
    · have h2 := k a o h (.inr ⟨p, _, hx, hd, hz0, c⟩)
      rcases hr with hr | ⟨o2, hr⟩
      · rw [h] at hr; cases hr; exact .inl h2
      · rw [h] at hr; cases hr; exact .inr ⟨_, h2⟩
    · cases q : Z a with
      | none => exact absurd q hz0
      | some u =>
        have h1 := hz _ _ q
        rw [h] at h1
        cases h1
        have h2 := k a _ h (.inl q)
        rcases hr with hr | ⟨o2, hr⟩
        · rw [h] at hr; cases hr; exact .inl h2
        · rw [h] at hr; cases hr; exact .inr ⟨_, h2⟩
theorem OpdR.tupK {ds : List Da} (h : OpdR K Z H x (.tuple ds)) : ∃ a vs, x = .ref a ∧ SqT K Z a vs ∧ RpAll K Z vs ds := by
  have ht := h.tupZ
  cases ht with
  | tup hs ha => exact ⟨_, _, rfl, hs, ha⟩
theorem tup_keep {xs : List V} {ds : List Da} {a : Addr} {vs : List V} (hz : Le Z H) (hr : SqT K Z a vs) (k : Kp K Z H xs ds H') : SqT K H' a vs := by
  rcases hr with (hr | ⟨o, hr⟩) | hr
  · exact .inl (.inl (k a _ (hz _ _ hr) (.inl hr)))
  · exact .inl (.inr ⟨o, k a _ (hz _ _ hr) (.inl hr)⟩)
  · exact .inr hr
theorem iterS_seq : IterS K itSeq (wiSeq K) := by
  intro xs ds items Z H R hz ha hf hR
  unfold itSeq at hf
  split at hf
  · cases hf
    obtain ⟨x, rfl, h1⟩ := all1 ha
    obtain ⟨a, vs, e, hs, hp⟩ := h1.lst hz
    subst e
    refine ⟨a, vs, rfl, .inl ⟨.inl hs, ?_⟩⟩
    refine hR (Itl K a) (YAt vs) (fun H => SqL K H a vs) (by rw [← hp.length]; exact walk_list) (fun H' k => .inl (lst_keep (p := 0) hz rfl rfl h1 hs k)) fun i d Z' H' x H'' hd hz' hs' hy => ?_
    obtain ⟨e, hv⟩ := hy
    subst e
    obtain ⟨d', e1, e2⟩ := hp.getx hv
    rw [hd] at e1
    cases e1
    exact ⟨Z', Ext.refl hs', Rp.le hz' _ _ e2⟩
  · cases hf
    obtain ⟨x, rfl, h1⟩ := all1 ha
    obtain ⟨a, vs, e, hs, hp⟩ := h1.tupK
    subst e
    refine ⟨a, vs, rfl, .inr ⟨SqT.le hz hs, ?_⟩⟩
    refine hR (Itt K a) (YAt vs) (fun H => SqT K H a vs) (by rw [← hp.length]; exact walk_tup) (fun H' k => tup_keep hz hs k) fun i d Z' H' x H'' hd hz' hs' hy => ?_
    obtain ⟨e, hv⟩ := hy
    subst e
    obtain ⟨d', e1, e2⟩ := hp.getx hv
    rw [hd] at e1
    cases e1
    exact ⟨Z', Ext.refl hs', Rp.le hz' _ _ e2⟩
  · cases hf
end
end Mi

set_option maxHeartbeats 1000000
namespace Mi
open PySem PySem.Spec PyProof.Rows L2

section
variable {K : PySem.W.Frag} {R : XR} {W : WX} {Z Z' Z'' H H' H'' : Hp} {σ σ' σ'' : L2.St} {r r' r'' : Rho} {x : V} {d : Da} {v : Vl} {D : Ends}
variable {X : Cx} {a b c e tg : Expr} {es : List Expr} {os : List Opd} {o : Opd} {pos p : Pos} {m : Mm Vl}

/-! ## iterables -/
theorem PI.to {X : Cx} {tg e : Expr} {t t' : TI} (h : PI X tg e t) (f : ∀ σ H R, t' σ H R → t σ H R) : PI X tg e t' :=
  ⟨fun pins s σ H R I q => h.run pins s σ H R I (f σ H R q)⟩
/-- a list, a tuple or a text -/
def itAny : List Da → Option (List Da)
  | [.list ds] => some ds
  | [.tuple ds] => some ds
  | [.str s] => some (s.cps.toList.map fun c => .str ⟨#[c]⟩)
  | _ => none
def wiAny (K : PySem.W.Frag) : List V → Hp → (It → Hp → Prop) → Prop := fun xs H R =>
  wiSeq K xs H R ∨ ∃ z, xs = [.str z] ∧ R (Its z) H
theorem iterS_any : IterS K itAny (wiAny K) := by
  intro xs ds items Z H R hz ha hf hR
  unfold itAny at hf
  split at hf
  · cases hf
    exact .inl (iterS_seq xs _ _ Z H R hz ha rfl hR)
  · cases hf
    exact .inl (iterS_seq xs _ _ Z H R hz ha rfl hR)
  · rename_i s
    cases hf
    obtain ⟨x, rfl, h1⟩ := all1 ha
    refine .inr ⟨s, by rw [h1.str], ?_⟩
    refine hR (Its s) _ (fun _ => True) (by simpa using (walk_str (z := s))) (fun _ _ => trivial) fun i d Z' H' x H'' hd hz' hs' hy => ?_
    obtain ⟨e, c, hc, ev⟩ := hy
    subst e ev
    rw [List.getElem?_map] at hd
    rw [← Array.getElem?_toList] at hc
    rw [hc] at hd
    cases hd
    exact ⟨Z', Ext.refl hs', .str _⟩
  · cases hf
theorem pi_anyU (h : OpdX X X.K R W e o) : PI X tg e (fun σ H R' => tOpd X.K R W o σ H fun x H1 => wiAny X.K [x] H1 R') := by
  refine ⟨fun pins s σ H R' I q => ?_⟩
  refine thn (h.pe.run pins s σ H _ I q) fun v s1 hv => ?_
  obtain ⟨x, H1, I1, r1, q1⟩ := hv
  rcases q1 with ⟨a, vs, e1, q1⟩ | ⟨z, e1, q1⟩
  · cases e1
    cases r1
    have fp : ∀ b ∈ [s1.heap.objs.size], FpOk X pins H1 b := fun b hb => by
      have e : b = s1.heap.objs.size := by simpa using hb
      subst e
      exact I1.fpOk (Nat.le_refl _) (I1.hok.fresh (Nat.le_refl _))
    rcases q1 with ⟨hq, q1⟩ | ⟨hq, q1⟩
    · obtain ⟨its, _, pl, _⟩ := I1.list hq
      exact wpAny_pyIter_list pl.isList ⟨_, [s1.heap.objs.size], _, _, H1, rfl, I1.kept (t' := s1.toks) fun b o e => Heap.get?_push_of_some _ e, turn_list a _, ⟨_, Heap.get?_push_size _ rfl, rfl, rfl⟩, fp, q1⟩
    · obtain ⟨its, _, pl, _⟩ := I1.tuple hq
      exact wpAny_pyIter_tuple (show s1.heap.IsTuple a its.toArray from pl) ⟨_, [s1.heap.objs.size], _, _, H1, rfl, I1.kept (t' := s1.toks) fun b o e => Heap.get?_push_of_some _ e, turn_tuple a _, ⟨_, Heap.get?_push_size _ rfl, rfl, rfl⟩, fp, q1⟩
  · cases e1
    obtain ⟨t, rfl⟩ := r1
    cases hasc : z.cps.all (· < 128)
    · exact wpAny_pyIter_wide hasc (pi_one (tk := s1.toks) I1 _ (turn_str _ z t "str_iterator" (.inr rfl)) ⟨_, Heap.get?_push_size _ rfl, rfl, rfl⟩ q1)
    · exact wpAny_pyIter_ascii hasc (pi_one (tk := s1.toks) I1 _ (turn_str _ z t "str_ascii_iterator" (.inl rfl)) ⟨_, Heap.get?_push_size _ rfl, rfl, rfl⟩ q1)
/-- ranges -/
def rgIn (i : Int) : Bool := decide (-(2 ^ 62) ≤ i) && decide (i < 2 ^ 62)
def rgD (lo : Int) (n : Nat) : List Da := (List.range n).map fun i => .int (lo + (i : Nat))
def rgDn (hi : Int) (n : Nat) : List Da := (List.range n).map fun i => .int (hi + (i : Nat) * (-1))
def rgDc (lo c : Int) (n : Nat) : List Da := (List.range n).map fun i => .int (lo + (i : Nat) * c)
theorem rgDc_len (lo c : Int) (n : Nat) : (rgDc lo c n).length = n := by simp [rgDc]
theorem rgD_len (lo : Int) (n : Nat) : (rgD lo n).length = n := by simp [rgD]
def itRange : List Da → Option (List Da)
  | [.int j] => if rgIn j then some (rgD 0 j.toNat) else none
  | [.int i, .int j] => if rgIn i && rgIn j then some (rgD i (j - i).toNat) else none
  | [.int i, .int j, .int c] => if rgIn i && rgIn j && decide (c ≠ 0) && decide (c.natAbs < 1073741824) && Builtin.Range.small i j c then some (rgDc i c (Builtin.Range.rangeSize i j c).toNat) else none
  | _ => none
def wiRange : List V → Hp → (It → Hp → Prop) → Prop := fun xs H R =>
  (∃ j : Int, xs = [.int j] ∧ -(2 ^ 62) ≤ j ∧ j < 2 ^ 62 ∧ R (Itr 0 j.toNat) H) ∨
  (∃ i j : Int, xs = [.int i, .int j] ∧ (-(2 ^ 62) ≤ i ∧ i < 2 ^ 62 ∧ -(2 ^ 62) ≤ j ∧ j < 2 ^ 62) ∧ R (Itr i (j - i).toNat) H) ∨
  ∃ (i j c : Int) (n : Nat), xs = [.int i, .int j, .int c] ∧ RgC i j c n ∧ R (Itc i c n) H
theorem rgD_get {lo : Int} {n i : Nat} {d : Da} (h : (rgD lo n)[i]? = some d) : d = .int (lo + (i : Nat)) := by
  unfold rgD at h
  rw [List.getElem?_map] at h
  by_cases hi : i < n
  · rw [List.getElem?_range hi] at h; cases h; rfl
  · rw [List.getElem?_eq_none (by simpa using hi)] at h; cases h
theorem rgDc_get {lo c : Int} {n i : Nat} {d : Da} (h : (rgDc lo c n)[i]? = some d) : d = .int (lo + (i : Nat) * c) := by
  unfold rgDc at h
  rw [List.getElem?_map] at h
  by_cases hi : i < n
  · rw [List.getElem?_range hi] at h; cases h; rfl
  · rw [List.getElem?_eq_none (by simpa using hi)] at h; cases h
theorem rangeSize_nn (i j c : Int) : 0 ≤ Builtin.Range.rangeSize i j c := by
  unfold Builtin.Range.rangeSize
  split
  · split
    · have : 0 ≤ (j - i - 1) / c := Int.ediv_nonneg (by omega) (by omega)
      omega
    · omega
  · split
    · have : 0 ≤ (i - j - 1) / (-c) := Int.ediv_nonneg (by omega) (by omega)
      omega
    · omega
theorem iterS_range : IterS K itRange wiRange := by
  intro xs ds items Z H R hz ha hf hR
  unfold itRange at hf
  split at hf
  · rename_i j
    split at hf
    · rename_i hc
      unfold rgIn at hc
      simp only [Bool.and_eq_true, decide_eq_true_eq] at hc
      cases hf
      obtain ⟨x, rfl, h1⟩ := all1 ha
      refine .inl ⟨j, by rw [h1.int], hc.1, hc.2, ?_⟩
      refine hR _ _ (fun _ => True) (by rw [rgD_len]; exact walk_range) (fun _ _ => trivial) fun i d Z' H' x H'' hd hz' hs' hy => ?_
      obtain ⟨e, ev⟩ := hy
      subst e ev
      rw [rgD_get hd]
      exact ⟨Z', Ext.refl hs', .int _⟩
    · cases hf
  · rename_i i j
    split at hf
    · rename_i hc
      unfold rgIn at hc
      simp only [Bool.and_eq_true, decide_eq_true_eq] at hc
      cases hf
      obtain ⟨x, y, rfl, h1, h2⟩ := all2 ha
      refine .inr (.inl ⟨i, j, by rw [h1.int, h2.int], ⟨hc.1.1, hc.1.2, hc.2.1, hc.2.2⟩, ?_⟩)
      refine hR _ _ (fun _ => True) (by rw [rgD_len]; exact walk_range) (fun _ _ => trivial) fun i d Z' H' x H'' hd hz' hs' hy => ?_
      obtain ⟨e, ev⟩ := hy
      subst e ev
      rw [rgD_get hd]
      exact ⟨Z', Ext.refl hs', .int _⟩
    · cases hf
  · rename_i i j c
    split at hf
    · rename_i hc
      simp only [Bool.and_eq_true, decide_eq_true_eq] at hc
      cases hf
      obtain ⟨x, y, z, rfl, h1, h2, h3⟩ := all3 ha
      refine .inr (.inr ⟨i, j, c, (Builtin.Range.rangeSize i j c).toNat, by rw [h1.int, h2.int, h3.int], ⟨hc.1.1.2, hc.1.2, hc.2, by have := rangeSize_nn i j c; omega⟩, ?_⟩)
      refine hR _ _ (fun _ => True) (by rw [rgDc_len]; exact walk_rangeC) (fun _ _ => trivial) fun i d Z' H' x H'' hd hz' hs' hy => ?_
      obtain ⟨e, ev⟩ := hy
      subst e ev
      rw [rgDc_get hd]
      exact ⟨Z', Ext.refl hs', .int _⟩
    · cases hf
  · cases hf
/-- pairs -/
def prD2 : List Da → List Da → List Da
  | a :: as, b :: bs => .tuple [a, b] :: prD2 as bs
  | _, _ => []
theorem prD2_len : ∀ (as bs : List Da), (prD2 as bs).length = min as.length bs.length
  | [], bs => by simp [prD2]
  | _ :: _, [] => by simp [prD2]
  | a :: as, b :: bs => by simp [prD2, prD2_len as bs]
theorem prD2_get : ∀ {as bs : List Da} {i : Nat} {d : Da}, (prD2 as bs)[i]? = some d → ∃ a b, as[i]? = some a ∧ bs[i]? = some b ∧ d = .tuple [a, b]
  | [], bs, i, d, h => by simp [prD2] at h
  | _ :: _, [], i, d, h => by simp [prD2] at h
  | a :: as, b :: bs, 0, d, h => by simp [prD2] at h; exact ⟨a, b, by simp, by simp, h.symm⟩
  | a :: as, b :: bs, i + 1, d, h => by
    simp only [prD2, List.getElem?_cons_succ] at h ⊢
    exact prD2_get h
def enD (k : Nat) : List Da → List Da
  | [] => []
  | d :: ds => .tuple [.int (k : Nat), d] :: enD (k + 1) ds
theorem enD_len : ∀ (ds : List Da) (k : Nat), (enD k ds).length = ds.length
  | [], _ => rfl
  | _ :: ds, k => by simp [enD, enD_len ds]
theorem enD_get : ∀ {ds : List Da} {k i : Nat} {d : Da}, (enD k ds)[i]? = some d → ∃ a, ds[i]? = some a ∧ d = .tuple [.int ((k + i : Nat) : Int), a]
  | [], k, i, d, h => by simp [enD] at h
  | a :: ds, k, 0, d, h => by simp [enD] at h; exact ⟨a, by simp, h.symm⟩
  | a :: ds, k, i + 1, d, h => by
    simp only [enD, List.getElem?_cons_succ] at h ⊢
    obtain ⟨b, e1, e2⟩ := enD_get h
    exact ⟨b, e1, by rw [e2]; congr 3; omega⟩
/-- a new pair -/
theorem pair_ext {T : Addr} {x y : V} {a b : Da} (hs : Le Z H) (hT : H T = none) (r1 : Rp K Z x a) (r2 : Rp K Z y b) : ∃ Z'', Ext Z H Z'' (upd H T (.tup [x, y])) ∧ Rp K Z'' (.ref T) (.tuple [a, b]) := by
  have E := Ext.frz (o := .tup [x, y]) hs hT
  exact ⟨_, E, .tup (.inl (.inl upd_same)) (.cons (Rp.le E.zm _ _ r1) (.cons (Rp.le E.zm _ _ r2) .nil))⟩
def itZip : List Da → Option (List Da)
  | [.list as, .list bs] => some (prD2 as bs)
  | [.tuple as, .tuple bs] => some (prD2 as bs)
  | _ => none
def wiZip (K : PySem.W.Frag) : List V → Hp → (It → Hp → Prop) → Prop := fun vs H R => ∃ a b xs ys, vs = [.ref a, .ref b] ∧ ((SqL K H a xs ∧ SqL K H b ys ∧ R (Itz K a b) H) ∨ (SqT K H a xs ∧ SqT K H b ys ∧ R (RZ.ItzT K a b) H))
theorem walk_zipT {a b : Addr} {xs ys : List V} {n : Nat} (hn : n = min xs.length ys.length) : Walk (RZ.ItzT K a b) n (fun H => SqT K H a xs ∧ SqT K H b ys) (YPair (fun i => xs[i]?) (fun i => ys[i]?)) := by
  subst hn
  refine ⟨fun i _ hi q => ?_, fun _ q => ⟨xs, ys, q.1, q.2, by omega⟩, fun i H v H' _ q y => ?_⟩
  · have h1 : i < xs.length := by omega
    have h2 : i < ys.length := by omega
    exact ⟨xs, ys, xs[i], ys[i], q.1, q.2, by simp [h1], by simp [h2]⟩
  · obtain ⟨T, x, z, h1, h2, h3, h4, h5⟩ := y
    exact ⟨T, x, z, h1, h2, h3, h4 xs q.1, h5 ys q.2⟩
theorem iterS_zip : IterS K itZip (wiZip K) := by
  intro xs ds items Z H R hz ha hf hR
  unfold itZip at hf
  split at hf
  · cases hf
    obtain ⟨x, y, rfl, h1, h2⟩ := all2 ha
    obtain ⟨p, vs, e, hs, hp⟩ := h1.lst hz
    obtain ⟨p2, vs2, e2, hs2, hp2⟩ := h2.lst hz
    subst e e2
    refine ⟨p, p2, vs, vs2, rfl, .inl ⟨.inl hs, .inl hs2, ?_⟩⟩
    refine hR _ _ (fun H => SqL K H p vs ∧ SqL K H p2 vs2) (walk_zip (by rw [prD2_len, hp.length, hp2.length])) (fun H' k => ⟨.inl (lst_keep (p := 0) hz rfl rfl h1 hs k), .inl (lst_keep (p := 1) hz rfl rfl h2 hs2 k)⟩) fun i d Z' H' x H'' hd hz' hs' hy => ?_
    obtain ⟨T, u, w, e1, hT, e2, e3, e4⟩ := hy
    subst e1 e2
    obtain ⟨da, db, a1, a2, rfl⟩ := prD2_get hd
    obtain ⟨d1, b1, b2⟩ := hp.getx e3
    obtain ⟨d2, c1, c2⟩ := hp2.getx e4
    rw [a1] at b1; rw [a2] at c1
    cases b1; cases c1
    exact pair_ext hs' hT (Rp.le hz' _ _ b2) (Rp.le hz' _ _ c2)
  · cases hf
    obtain ⟨x, y, rfl, h1, h2⟩ := all2 ha
    obtain ⟨p, vs, e, hs, hp⟩ := h1.tupK
    obtain ⟨p2, vs2, e2, hs2, hp2⟩ := h2.tupK
    subst e e2
    refine ⟨p, p2, vs, vs2, rfl, .inr ⟨SqT.le hz hs, SqT.le hz hs2, ?_⟩⟩
    refine hR _ _ (fun H => SqT K H p vs ∧ SqT K H p2 vs2) (walk_zipT (by rw [prD2_len, hp.length, hp2.length])) (fun H' k => ⟨tup_keep hz hs k, tup_keep hz hs2 k⟩) fun i d Z' H' x H'' hd hz' hs' hy => ?_
    obtain ⟨T, u, w, e1, hT, e2, e3, e4⟩ := hy
    subst e1 e2
    obtain ⟨da, db, a1, a2, rfl⟩ := prD2_get hd
    obtain ⟨d1, b1, b2⟩ := hp.getx e3
    obtain ⟨d2, c1, c2⟩ := hp2.getx e4
    rw [a1] at b1; rw [a2] at c1
    cases b1; cases c1
    exact pair_ext hs' hT (Rp.le hz' _ _ b2) (Rp.le hz' _ _ c2)
  · cases hf
def itEnum : List Da → Option (List Da)
  | [.list as] => some (enD 0 as)
  | [.tuple as] => some (enD 0 as)
  | _ => none
def wiEnum (K : PySem.W.Frag) : List V → Hp → (It → Hp → Prop) → Prop := fun vs H R => ∃ a xs, vs = [.ref a] ∧ ((SqL K H a xs ∧ R (Ite K a) H) ∨ (SqT K H a xs ∧ R (PySem.MiZ.IteT K a) H))
theorem walk_enumT {a : Addr} {xs : List V} : Walk (PySem.MiZ.IteT K a) xs.length (fun H => SqT K H a xs) (YPair (fun i => some (.int (i : Nat))) (fun i => xs[i]?)) := by
  refine ⟨fun i _ hi q => ⟨xs, xs[i], q, by simp [hi]⟩, fun _ q => ⟨xs, q, rfl⟩, fun i H v H' _ q y => ?_⟩
  obtain ⟨T, x, h1, h2, h3, h4⟩ := y
  exact ⟨T, .int (i : Nat), x, h1, h2, h3, rfl, h4 xs q⟩
theorem iterS_enum : IterS K itEnum (wiEnum K) := by
  intro xs ds items Z H R hz ha hf hR
  unfold itEnum at hf
  split at hf
  · cases hf
    obtain ⟨x, rfl, h1⟩ := all1 ha
    obtain ⟨p, vs, e, hs, hp⟩ := h1.lst hz
    subst e
    refine ⟨p, vs, rfl, .inl ⟨.inl hs, ?_⟩⟩
    refine hR _ _ (fun H => SqL K H p vs) (by rw [enD_len, ← hp.length]; exact walk_enum) (fun H' k => .inl (lst_keep (p := 0) hz rfl rfl h1 hs k)) fun i d Z' H' x H'' hd hz' hs' hy => ?_
    obtain ⟨T, u, w, e1, hT, e2, e3, e4⟩ := hy
    subst e1 e2
    obtain ⟨da, a1, rfl⟩ := enD_get hd
    obtain ⟨d1, b1, b2⟩ := hp.getx e4
    rw [a1] at b1
    cases b1
    cases e3
    exact pair_ext hs' hT (by rw [Nat.zero_add]; exact .int _) (Rp.le hz' _ _ b2)
  · cases hf
    obtain ⟨x, rfl, h1⟩ := all1 ha
    obtain ⟨p, vs, e, hs, hp⟩ := h1.tupK
    subst e
    refine ⟨p, vs, rfl, .inr ⟨SqT.le hz hs, ?_⟩⟩
    refine hR _ _ (fun H => SqT K H p vs) (by rw [enD_len, ← hp.length]; exact walk_enumT) (fun H' k => tup_keep hz hs k) fun i d Z' H' x H'' hd hz' hs' hy => ?_
    obtain ⟨T, u, w, e1, hT, e2, e3, e4⟩ := hy
    subst e1 e2
    obtain ⟨da, a1, rfl⟩ := enD_get hd
    obtain ⟨d1, b1, b2⟩ := hp.getx e4
    rw [a1] at b1
    cases b1
    cases e3
    exact pair_ext hs' hT (by rw [Nat.zero_add]; exact .int _) (Rp.le hz' _ _ b2)
  · cases hf

/-- an iterable told by operands -/
def IterX (X : Cx) (K : PySem.W.Frag) (R : XR) (W : WX) (tg iter : Expr) (f : List Da → Option (List Da)) (os : List Opd) : Prop :=
  ∃ wi, IterS K f wi ∧ PI X tg iter (fun σ H R' => tOpds K R W os σ H fun xs H1 => wi xs H1 R')
theorem iterX_any (h : OpdX X X.K R W e o) : IterX X X.K R W tg e itAny [o] := ⟨_, iterS_any, PI.to (pi_anyU h) fun σ H R' q => opd1 q fun _ _ h => h⟩
theorem iterX_range1 (hg : Gl X "range") (hm : X.mg "range" = none) (h : OpX X R W [a] os) : IterX X X.K R W tg (.Call (.Name "range" p) [a] [] pos) itRange os := by
  have hn := h.plain
  rw [List.all_cons, Bool.and_eq_true] at hn
  have hl : ∃ o, os = [o] := by cases h with | cons _ _ t => cases t; exact ⟨_, rfl⟩
  obtain ⟨o, rfl⟩ := hl
  refine ⟨_, iterS_range, PI.to (pi_range1 hg hm h.pa (starEach_cons hn.1 _ _)) fun σ H R' q => ?_⟩
  refine tOpd_mono (o := o) (opd1 q fun x H h => h) fun x H1 q => ?_
  rcases q with ⟨j, e, q⟩ | ⟨i, j, e, q⟩ | ⟨i, j, c, n, e, q⟩
  · exact ⟨j, e, q⟩
  · cases e
  · cases e
theorem iterX_range2 (hg : Gl X "range") (hm : X.mg "range" = none) (h : OpX X R W [a, b] os) : IterX X X.K R W tg (.Call (.Name "range" p) [a, b] [] pos) itRange os := by
  have hn := h.plain
  rw [List.all_cons, Bool.and_eq_true, List.all_cons, Bool.and_eq_true] at hn
  have hl : ∃ o o2, os = [o, o2] := by cases h with | cons _ _ t => cases t with | cons _ _ t => cases t; exact ⟨_, _, rfl⟩
  obtain ⟨o, o2, rfl⟩ := hl
  refine ⟨_, iterS_range, PI.to (pi_range2 hg hm h.pa (by rw [starEach_cons hn.1, starEach_cons hn.2.1]; rfl) (starEach_cons hn.2.1 _ _)) fun σ H R' q => ?_⟩
  refine opd2 q fun x y H1 q => ?_
  rcases q with ⟨j, e, q⟩ | ⟨i, j, e, q⟩ | ⟨i, j, c, n, e, q⟩
  · cases e
  · exact ⟨i, j, e, q⟩
  · cases e
theorem iterX_range3 (hg : Gl X "range") (hm : X.mg "range" = none) (h : OpX X R W [a, b, c] os) : IterX X X.K R W tg (.Call (.Name "range" p) [a, b, c] [] pos) itRange os := by
  have hn := h.plain
  rw [List.all_cons, Bool.and_eq_true] at hn
  have hl : ∃ o o2 o3, os = [o, o2, o3] := by cases h with | cons _ _ t => cases t with | cons _ _ t => cases t with | cons _ _ t => cases t; exact ⟨_, _, _, rfl⟩
  obtain ⟨o, o2, o3, rfl⟩ := hl
  refine ⟨_, iterS_range, PI.to (pi_range3 hg hm h.pa (starEach_cons hn.1 _ _) (starEach_plain hn.2 _ _)) fun σ H R' q => ?_⟩
  refine opd3 q fun x y z H1 q => ?_
  rcases q with ⟨j, e, q⟩ | ⟨i, j, e, q⟩ | ⟨i, j, c, n, e, q⟩
  · cases e
  · cases e
  · exact ⟨i, j, c, n, e, q⟩
theorem iterX_zip {elts : List Expr} {kk : Nat} {tpos : Pos} (hg : Gl X "zip") (hm : X.mg "zip" = none) (h : OpX X R W [a, b] os) : IterX X X.K R W (.Tuple elts kk tpos) (.Call (.Name "zip" p) [a, b] [] pos) itZip os := by
  have hn := h.plain
  rw [List.all_cons, Bool.and_eq_true] at hn
  have hl : ∃ o o2, os = [o, o2] := by cases h with | cons _ _ t => cases t with | cons _ _ t => cases t; exact ⟨_, _, rfl⟩
  obtain ⟨o, o2, rfl⟩ := hl
  exact ⟨_, iterS_zip, PI.to (RZ.pi_zipA hg hm h.pa (starEach_cons hn.1 _ _) (starEach_plain hn.2 _ _)) fun σ H R' q => opd2 q fun x y H1 q => q⟩
theorem iterX_enum {elts : List Expr} {kk : Nat} {tpos : Pos} (hg : Gl X "enumerate") (hm : X.mg "enumerate" = none) (h : OpX X R W [a] os) : IterX X X.K R W (.Tuple elts kk tpos) (.Call (.Name "enumerate" p) [a] [] pos) itEnum os := by
  have hn := h.plain
  rw [List.all_cons, Bool.and_eq_true] at hn
  have hl : ∃ o, os = [o] := by cases h with | cons _ _ t => cases t; exact ⟨_, rfl⟩
  obtain ⟨o, rfl⟩ := hl
  exact ⟨_, iterS_enum, PI.to (PySem.MiZ.pi_enumA hg hm h.pa (starEach_cons hn.1 _ _)) fun σ H R' q => opd1 q fun x H1 q => q⟩
end
end Mi

set_option maxHeartbeats 1000000
namespace Mi
open PySem PySem.Spec PyProof.Rows L2
section
variable {X : Cx} {R : XR} {W : WX} {Z Z' H H' : Hp} {σ : L2.St} {r r' : Rho} {x : V} {d : Da} {v : Vl} {K : PySem.W.Frag}
variable {a b c e c4 : Expr} {es : List Expr} {oa ob oc o od : Opd} {os : List Opd} {f g h : List Da → Option Vl} {t t' t'' : R2} {pos p p2 pos2 : Pos} {m m1 m2 : Mm Vl} {mc mc2 mc3 : Mm Bool} {tg : Expr}

/-! ### a if c else b, as a test -/
theorem pt_mIf (hc : PT X c (rdT X.K R W mc)) (ha : PT X a (rdT X.K R W mc2)) (hb : PT X b (rdT X.K R W mc3)) : PT X (.IfExp c a b pos) (rdT X.K R W (mIf mc mc2 mc3)) := by
  refine ⟨fun pins s σ H Q I q => ?_⟩
  obtain ⟨Z, r, S, q⟩ := q
  show wpAny (model X.prog X.w) X.A (do if ← isTrue c X.env (eval c X.env) then isTrue a X.env (eval a X.env) else isTrue b X.env (eval b X.env)) _ _ _
  unfold mIf at q
  refine wpAny_bind (wpAny_mono (hc.run pins s σ H (fun k H1 => ∃ Z1 r1, SR X.K Z1 σ H1 r1 ∧ Eo X.K R W Z1 σ H1 r1 ((match k with
    | true => mc2
    | false => mc3) r1) (fun k _ _ H' => Q k H')) I ⟨Z, r, S, (Eo.bnd q).mono fun k r1 Z1 H1 S1 F1 k1 => ⟨Z1, r1, S1, ?_⟩⟩) (fun k s1 h1 => ?_) fun _ _ h => h)
  · cases k <;> exact k1
  · obtain ⟨H1, I1, Z1, r1, S1, q1⟩ := h1
    cases k with
    | true => exact ha.run pins s1 σ H1 Q I1 ⟨Z1, r1, S1, q1⟩
    | false => exact hb.run pins s1 σ H1 Q I1 ⟨Z1, r1, S1, q1⟩

/-! ### a op b op c op d -/
def tChain3 (r r' r'' : R2) (ta tb tc td : TE) : TE := fun σ H Q => ta σ H fun x H1 => tb σ H1 fun y H2 => r x y H2 fun z H3 => ∃ k, z = .bl k ∧
  (if k = true then tc σ H3 fun w' H4 => r' y w' H4 fun z' H5 => ∃ k', z' = .bl k' ∧ (if k' = true then td σ H5 fun u' H6 => r'' w' u' H6 Q else Q (.bl false) H5) else Q (.bl false) H3)
theorem pe_chain3 {op op' op'' : CmpOp} {r r' r'' : R2} {ta tb tc td : TE} (ho : OpR X (compareOp op) r) (ho' : OpR X (compareOp op') r') (ho'' : OpR X (compareOp op'') r'') (ha : PE X a ta) (hb : PE X b tb) (hc : PE X c tc) (hd : PE X c4 td)
    (hm : lastMarks [op, op', op''] [b, c, c4] = false) : PE X (.Compare a [op, op', op''] [b, c, c4] pos) (tChain3 r r' r'' ta tb tc td) := by
  refine ⟨fun pins s σ H Q I h => ?_⟩
  refine Compare_chain (thn (ha.run pins s σ H _ I h) fun v s1 ⟨x, H1, I1, r1, q1⟩ => chain_link (thn (hb.run pins s1 σ H1 _ I1 q1) fun u s2 ⟨y, H2, I2, r2, q2⟩ =>
    thn (ho pins s2 σ H2 x y v u _ I2 r1 r2 q2) fun d s3 ⟨z, H3, I3, r3, k, e, q3⟩ => ?_)) hm
  subst e
  cases r3
  refine wpAny_truthy_bool ?_
  cases k with
  | false => exact ite_ff ⟨.bl false, H3, I3, rfl, q3⟩
  | true =>
    refine ite_tt (chain_link (thn (hc.run pins s3 σ H3 _ I3 q3) fun w' s4 ⟨z', H4, I4, r4, q4⟩ => thn (ho' pins s4 σ H4 y z' u w' _ I4 r2 r4 q4) fun d5 s5 ⟨z5, H5, I5, r5, k5, e5, q5⟩ => ?_))
    subst e5
    cases r5
    refine wpAny_truthy_bool ?_
    cases k5 with
    | false => exact ite_ff ⟨.bl false, H5, I5, rfl, q5⟩
    | true => exact ite_tt (chain_last (thn (hd.run pins s5 σ H5 _ I5 q5) fun w6 s6 ⟨z6, H6, I6, r6, q6⟩ => ho'' pins s6 σ H6 z' z6 w' w6 Q I6 r4 r6 q6))
theorem pt_chain3 {op op' op'' : CmpOp} {r r' r'' : R2} {ta tb tc td : TE} (ho : OpR X (compareOp op) r) (ho' : OpR X (compareOp op') r') (ho'' : OpR X (compareOp op'') r'') (ha : PE X a ta) (hb : PE X b tb) (hc : PE X c tc) (hd : PE X c4 td)
    (hm : lastMarks [op, op', op''] [b, c, c4] = false) : PT X (.Compare a [op, op', op''] [b, c, c4] pos) (tTest (tChain3 r r' r'' ta tb tc td)) := by
  refine ⟨fun pins s σ H Q I h => ?_⟩
  refine isTrue_chain (thn (ha.run pins s σ H _ I h) fun v s1 ⟨x, H1, I1, r1, q1⟩ => test_link (thn (hb.run pins s1 σ H1 _ I1 q1) fun u s2 ⟨y, H2, I2, r2, q2⟩ =>
    thn (ho pins s2 σ H2 x y v u _ I2 r1 r2 q2) fun d s3 ⟨z, H3, I3, r3, k, e, q3⟩ => ?_)) hm
  subst e
  cases r3
  refine wpAny_truthy_bool ?_
  cases k with
  | false =>
    obtain ⟨k', e', q'⟩ := q3
    cases e'
    exact ite_ff ⟨H3, I3, q'⟩
  | true =>
    refine ite_tt (test_link (thn (hc.run pins s3 σ H3 _ I3 q3) fun w' s4 ⟨z', H4, I4, r4, q4⟩ => thn (ho' pins s4 σ H4 y z' u w' _ I4 r2 r4 q4) fun d5 s5 ⟨z5, H5, I5, r5, k5, e5, q5⟩ => ?_))
    subst e5
    cases r5
    refine wpAny_truthy_bool ?_
    cases k5 with
    | false =>
      obtain ⟨k', e', q'⟩ := q5
      cases e'
      exact ite_ff ⟨H5, I5, q'⟩
    | true =>
      refine ite_tt (test_last (thn (hd.run pins s5 σ H5 _ I5 q5) fun w6 s6 ⟨z6, H6, I6, r6, q6⟩ => thn (ho'' pins s6 σ H6 z' z6 w' w6 _ I6 r4 r6 q6) fun d7 s7 ⟨z7, H7, I7, r7, k7, e7, q7⟩ => ?_))
      subst e7
      cases r7
      exact wpAny_truthy_bool ⟨H7, I7, q7⟩
def mCh2 (f g : List Da → Option Vl) (j : Int) (oc od : Opd) : Mm Vl := mBnd (mOps [oc]) fun es => match es with
  | [.int k] => mBnd (mOpt (f [.int j, .int k])) fun v => match v with
    | .val (.bool true) => mBnd (mOps [od]) fun us => match us with
      | [z] => mOpt (g [.int k, z])
      | _ => mStuck
    | .val (.bool false) => mRet (.val (.bool false))
    | _ => mStuck
  | _ => mStuck
def mChain3 (f g h : List Da → Option Vl) (oa ob oc od : Opd) : Mm Vl := mBnd (mOps [oa, ob]) fun ds => match ds with
  | [x, .int j] => mBnd (mOpt (f [x, .int j])) fun v => match v with
    | .val (.bool true) => mCh2 g h j oc od
    | .val (.bool false) => mRet (.val (.bool false))
    | _ => mStuck
  | _ => mStuck
theorem chain3_to {Q : VK} (cf : CmpOk f t) (cg : CmpOk g t') (ch : CmpOk h t'') (bg : ∀ x y v, h [x, y] = some v → ∃ k, v = .val (.bool k)) (q : rdE X.K R W (mChain3 f g h oa ob oc od) σ H Q) :
    tChain3 t t' t'' (tOpd X.K R W oa) (tOpd X.K R W ob) (tOpd X.K R W oc) (tOpd X.K R W od) σ H Q := by
  obtain ⟨Z, r, S, q⟩ := q
  unfold mChain3 at q
  have hh := opds [oa, ob] (k := fun xs H2 => match xs with
    | [x, y] => t x y H2 fun z H3 => ∃ k, z = .bl k ∧ (if k = true then tOpd X.K R W oc σ H3 fun w' H4 => t' y w' H4 fun z' H5 => ∃ k', z' = .bl k' ∧ (if k' = true then tOpd X.K R W od σ H5 fun u' H6 => t'' w' u' H6 Q else Q (.bl false) H5) else Q (.bl false) H3)
    | _ => False) S ((Eo.bnd q).mono fun ds r1 Z1 H1 S1 F1 k1 xs ha => ?_)
  · exact opd2 hh fun x y H2 h2 => h2
  · match ds, k1, ha with
    | [x, .int j], k1, ha =>
      obtain ⟨vx, vy, rfl, h1, h2⟩ := all2 ha
      obtain ⟨v, hv, k2⟩ := Eo.opt S1 (Eo.bnd k1)
      match v, hv, k2 with
      | .val (.bool true), hv, k2 =>
        refine cf X.K vx vy _ _ Z1 H1 true _ S1.sub h1 h2 hv ⟨true, rfl, ?_⟩
        rw [if_pos rfl]
        unfold mCh2 at k2
        have k3 := Eo.bnd k2
        refine opd1 (opds [oc] (k := fun xs H2 => match xs with
          | [w] => t' vy w H2 fun z' H5 => ∃ k', z' = .bl k' ∧ (if k' = true then tOpd X.K R W od σ H5 fun u' H6 => t'' w u' H6 Q else Q (.bl false) H5)
          | _ => False) S1 (k3.mono fun es r2 Z2 H2 S2 F2 k4 ys hb => ?_)) fun w H2 h => h
        match es, k4, hb with
        | [.int i], k4, hb =>
          obtain ⟨vz, rfl, h3⟩ := all1 hb
          obtain ⟨v2, hv2, k5⟩ := Eo.opt S2 (Eo.bnd k4)
          have ey := h2.int
          subst ey
          match v2, hv2, k5 with
          | .val (.bool true), hv2, k5 =>
            refine cg X.K _ _ (.int j) (.int i) Z2 H2 true _ S2.sub (.inl (.int j)) h3 hv2 ⟨true, rfl, ?_⟩
            rw [if_pos rfl]
            have k6 := Eo.bnd k5
            refine opd1 (opds [od] (k := fun xs H2 => match xs with
              | [w] => t'' vz w H2 Q
              | _ => False) S2 (k6.mono fun us r3 Z3 H3 S3 F3 k7 ys hb2 => ?_)) fun w H2 h => h
            match us, k7, hb2 with
            | [z], k7, hb2 =>
              obtain ⟨vu, rfl, h4⟩ := all1 hb2
              obtain ⟨u, hu, k8⟩ := Eo.opt S3 k7
              obtain ⟨k, rfl⟩ := bg _ _ _ hu
              have ez := h3.int
              subst ez
              exact ch X.K _ _ (.int i) z Z3 H3 k Q S3.sub (.inl (.int i)) h4 hu (k8 (.bl k) (.bl k))
            | [], k7, _ => exact k7.elim
            | _ :: _ :: _, k7, _ => exact k7.elim
          | .val (.bool false), hv2, k5 =>
            refine cg X.K _ _ (.int j) (.int i) Z2 H2 false _ S2.sub (.inl (.int j)) h3 hv2 ⟨false, rfl, ?_⟩
            rw [if_neg Bool.false_ne_true]
            exact k5 Z2 H2 S2 Fr.refl (.bl false) (.bl false)
          | .val .none, _, k2 => exact k2.elim
          | .val (.int _), _, k2 => exact k2.elim
          | .val (.str _), _, k2 => exact k2.elim
          | .val (.list _), _, k2 => exact k2.elim
          | .val (.tuple _), _, k2 => exact k2.elim
          | .val (.dict _), _, k2 => exact k2.elim
          | .own _, _, k2 => exact k2.elim
          | .lent _, _, k2 => exact k2.elim
          | .lck, _, k2 => exact k2.elim
        | [], k4, _ => exact k4.elim
        | [.none], k4, _ => exact k4.elim
        | [.bool _], k4, _ => exact k4.elim
        | [.str _], k4, _ => exact k4.elim
        | [.list _], k4, _ => exact k4.elim
        | [.tuple _], k4, _ => exact k4.elim
        | [.dict _], k4, _ => exact k4.elim
        | d1 :: _ :: _, k4, _ => cases d1 <;> exact k4.elim
      | .val (.bool false), hv, k2 =>
        refine cf X.K vx vy _ _ Z1 H1 false _ S1.sub h1 h2 hv ⟨false, rfl, ?_⟩
        rw [if_neg Bool.false_ne_true]
        exact k2 Z1 H1 S1 Fr.refl (.bl false) (.bl false)
      | .val .none, _, k2 => exact k2.elim
      | .val (.int _), _, k2 => exact k2.elim
      | .val (.str _), _, k2 => exact k2.elim
      | .val (.list _), _, k2 => exact k2.elim
      | .val (.tuple _), _, k2 => exact k2.elim
      | .val (.dict _), _, k2 => exact k2.elim
      | .own _, _, k2 => exact k2.elim
      | .lent _, _, k2 => exact k2.elim
      | .lck, _, k2 => exact k2.elim
    | [], k1, _ => exact k1.elim
    | [_], k1, _ => exact k1.elim
    | [_, .none], k1, _ => exact k1.elim
    | [_, .bool _], k1, _ => exact k1.elim
    | [_, .str _], k1, _ => exact k1.elim
    | [_, .list _], k1, _ => exact k1.elim
    | [_, .tuple _], k1, _ => exact k1.elim
    | [_, .dict _], k1, _ => exact k1.elim
    | _ :: d2 :: _ :: _, k1, _ => cases d2 <;> exact k1.elim
theorem pe_mChain3 {op op' op'' : CmpOp} (ho : OpR X (compareOp op) t) (ho' : OpR X (compareOp op') t') (ho'' : OpR X (compareOp op'') t'') (cf : CmpOk f t) (cg : CmpOk g t') (ch : CmpOk h t'') (bg : ∀ x y v, h [x, y] = some v → ∃ k, v = .val (.bool k))
    (ha : OpdX X X.K R W a oa) (hb : OpdX X X.K R W b ob) (hc : OpdX X X.K R W c oc) (hd : OpdX X X.K R W c4 od) (hm : lastMarks [op, op', op''] [b, c, c4] = false) :
    PE X (.Compare a [op, op', op''] [b, c, c4] pos) (rdE X.K R W (mChain3 f g h oa ob oc od)) ∧ PT X (.Compare a [op, op', op''] [b, c, c4] pos) (rdT X.K R W (mTest (mChain3 f g h oa ob oc od))) := by
  refine ⟨PE.to (pe_chain3 ho ho' ho'' ha.pe hb.pe hc.pe hd.pe hm) fun σ H Q q => chain3_to cf cg ch bg q, PT.to (pt_chain3 ho ho' ho'' ha.pe hb.pe hc.pe hd.pe hm) fun σ H Q q => ?_⟩
  obtain ⟨Z, r, S, hq⟩ := q
  have q2 : rdE X.K R W (mChain3 f g h oa ob oc od) σ H fun x H' => ∃ k, x = .bl k ∧ Q k H' := by
    refine ⟨Z, r, S, (Eo.fz (Eo.bnd hq)).mono fun v r' Z' H' S' F' q x tx => ?_⟩
    obtain ⟨d, Z2, S2, F2, rx, q2⟩ := q x tx
    obtain ⟨k, hk, q3⟩ := Eo.opt S2 q2
    have e := truth_bool hk
    subst e
    cases rx
    exact ⟨k, rfl, q3⟩
  exact chain3_to cf cg ch bg q2

/-! ### zip(range(n), list) -/
def itZipR : List Da → Option (List Da)
  | [.int n, .list bs] => if rgIn n && decide (0 ≤ n) then some (prD2 (rgD 0 n.toNat) bs) else none
  | _ => none
def wiZipR (K : PySem.W.Frag) : List V → Hp → (It → Hp → Prop) → Prop := fun vs H R => ∃ (n : Int) (b : Addr) (ys : List V), vs = [.int n, .ref b] ∧ 0 ≤ n ∧ n < 2 ^ 62 ∧ SqL K H b ys ∧ R (PySem.MiZ.ItzR K n.toNat b) H
theorem walk_zipR {b : Addr} {ys : List V} {n m : Nat} (hm : m = min n ys.length) : Walk (PySem.MiZ.ItzR K n b) m (fun H => SqL K H b ys) (YPair (fun i => some (.int (i : Nat))) (fun i => ys[i]?)) := by
  subst hm
  refine ⟨fun i _ hi q => ?_, fun _ q => ⟨ys, q, by omega, by omega, by omega⟩, fun i H v H' _ q y => ?_⟩
  · have h2 : i < ys.length := by omega
    exact ⟨ys, ys[i], by omega, q, by simp [h2]⟩
  · obtain ⟨T, z, h1, h2, h3, h5⟩ := y
    exact ⟨T, .int (i : Nat), z, h1, h2, h3, rfl, h5 ys q⟩
theorem iterS_zipR : IterS K itZipR (wiZipR K) := by
  intro xs ds items Z H R hz ha hf hR
  unfold itZipR at hf
  split at hf
  · rename_i n bs
    split at hf
    · rename_i hc
      unfold rgIn at hc
      simp only [Bool.and_eq_true, decide_eq_true_eq] at hc
      cases hf
      obtain ⟨x, y, rfl, h1, h2⟩ := all2 ha
      obtain ⟨p2, vs2, e2, hs2, hp2⟩ := h2.lst hz
      have e1 := h1.int
      subst e1 e2
      refine ⟨n, p2, vs2, rfl, hc.2, by omega, .inl hs2, ?_⟩
      refine hR _ _ (fun H => SqL K H p2 vs2) (walk_zipR (by rw [prD2_len, rgD_len, hp2.length])) (fun H' k => .inl (lst_keep (p := 1) hz rfl rfl h2 hs2 k)) fun i d Z' H' x H'' hd hz' hs' hy => ?_
      obtain ⟨T, u, w, e1, hT, e2, e3, e4⟩ := hy
      subst e1 e2
      obtain ⟨da, db, a1, a2, rfl⟩ := prD2_get hd
      have := rgD_get a1
      subst this
      obtain ⟨d2, c1, c2⟩ := hp2.getx e4
      rw [a2] at c1
      cases c1
      cases e3
      exact pair_ext hs' hT (by rw [Int.zero_add]; exact .int _) (Rp.le hz' _ _ c2)
    · cases hf
  · cases hf
theorem iterX_zipR {elts : List Expr} {kk : Nat} {tpos : Pos} (hg : Gl X "zip") (hm : X.mg "zip" = none) (hgr : Gl X "range") (hmr : X.mg "range" = none) (ha : PE X a (rdE X.K R W m)) (hb : OpdX X X.K R W b ob) (na : notStar a = true) (nb : notStar b = true) :
    IterX X X.K R W (.Tuple elts kk tpos) (.Call (.Name "zip" p) [.Call (.Name "range" p2) [a] [] pos2, b] [] pos) itZipR [.ex (mInt m), ob] :=
  ⟨_, iterS_zipR, PI.to (PySem.MiZ.pi_zipR hg hm hgr hmr (OpdX.pe (o := .ex (mInt m)) (pe_mInt ha)) hb.pe (starEach_cons na _ _) (starEach_cons nb _ _) (starEach_plain (by simp [nb]) _ _)) fun σ H R' q => by
    have q2 : tOpd X.K R W (.ex (mInt m)) σ H fun x H1 => tOpd X.K R W ob σ H1 fun y H2 => wiZipR X.K [x, y] H2 R' := opd2 q fun x y H1 q => q
    refine tOpd_mono (tOpd_int q2) fun x H1 ⟨i, ex, h2⟩ => ⟨i, ex, tOpd_mono h2 fun y H2 h3 => ?_⟩
    subst ex
    obtain ⟨n, b', ys, e, n0, n1, hq, hr⟩ := h3
    cases e
    exact ⟨n0, n1, b', ys, rfl, hq, hr⟩⟩

/-! ### list(range(n)) -/
def opLRange : List Da → Option Vl
  | [.int n] => if decide (n ≤ 16777216) && decide (-(2 ^ 62) ≤ n) then some (.own (.list (rgD 0 n.toNat))) else none
  | _ => none
theorem rgV_all (n : Int) (Z : Hp) : RpAll K Z (rgV 0 n) (rgD 0 n.toNat) := by
  have gen : ∀ l : List Nat, RpAll K Z (l.map fun i => V.int (0 + (i : Nat))) (l.map fun i => PyData.int (0 + (i : Nat))) := fun l => by
    induction l with
    | nil => exact .nil
    | cons k l ih => exact .cons (.int _) ih
  have e : (n - 0).toNat = n.toNat := by omega
  unfold rgV rgD
  rw [e]
  exact gen _
theorem opS_lrange : OpS K opLRange (fun xs H Q => ∃ n : Int, xs = [.int n] ∧ RgOk 0 n ∧ ∀ q, H q = none → Q (.ref q) (upd H q (.lst (rgV 0 n)))) := by
  intro xs ds v Z H Q hz ha hf hq
  unfold opLRange at hf
  split at hf
  · rename_i n
    split at hf
    · rename_i hc
      simp only [Bool.and_eq_true, decide_eq_true_eq] at hc
      cases hf
      obtain ⟨x, rfl, h1⟩ := all1 ha
      refine ⟨n, by rw [h1.int], ⟨by omega, by omega, by omega, by omega, by omega⟩, give_list hz hq (rgV_all n Z)⟩
    · cases hf
  · cases hf
theorem pe_mLRange (hc : X.calm = true) (hg : Gl X "list") (hm : X.mg "list" = none) (hgr : Gl X "range") (hmr : X.mg "range" = none) (ha : OpdX X X.K R W a oa) (na : notStar a = true) :
    PE X (.Call (.Name "list" p) [.Call (.Name "range" p2) [a] [] pos2] [] pos) (rdE X.K R W (mOp opLRange [oa])) :=
  PE.to (pe_listRg hc hg hm (prg_1 hgr hmr ha.pe (starEach_cons na _ _)) rfl) fun σ H Q q => by
    have h := opd1 (mOp_to opS_lrange q) fun x H h => h
    refine tOpd_mono h fun x H1 ⟨n, e, ok, k⟩ => ?_
    cases e
    exact ⟨n, rfl, ok, k⟩
end
end Mi

set_option maxHeartbeats 1000000
namespace Mi
open PySem PySem.Spec PyProof.Rows L2

section
variable {K : PySem.W.Frag} {R : XR} {W : WX} {Z Z' Z'' H H' H'' : Hp} {σ σ' σ'' : L2.St} {r r' r'' : Rho} {x : V} {d : Da} {v : Vl} {D : Ends}
variable {X : Cx} {a b c e tg itr : Expr} {es : List Expr} {os : List Opd} {o : Opd} {pos p : Pos} {m : Mm Vl} {mc : Mm Bool} {sb : Mm Fl} {body : List Stmt}

/-! ## targets -/
/-- a tuple or a list of that length -/
def gSqU (K : PySem.W.Frag) (n : Nat) (t : TGs) : TG := fun v σ H Q => gTup K n t v σ H Q ∨ gUnl K n t v σ H Q
theorem pg_sqU {X : Cx} {pos : Pos} {es : List Expr} {k : Nat} {t : TGs} {n : Nat} (hc : X.calm = true) (h : PGs X es t)
    (hn : (assignEach es X.env).length = n) (hst : (assignEach es X.env).findIdx? (·.1) = none) : PG X (.Tuple es k pos) (gSqU X.K n t) :=
  ⟨fun pins s σ H v u Q I r hw => hw.elim (fun q => (pg_tup hc h hn hst).run pins s σ H v u Q I r q) fun q => (pg_unl hc h hn hst).run pins s σ H v u Q I r q⟩
mutual
def gTg (K : PySem.W.Frag) : Tg → TG
  | .nm i => gName i
  | .tp ts => gSqU K ts.length (gTgs K ts)
def gTgs (K : PySem.W.Frag) : List Tg → TGs
  | [] => gNil
  | t :: ts => gCons (gTg K t) (gTgs K ts)
end
mutual
theorem tg_to {σ0 : L2.St} {Z0 H0 : Hp} {r0 : Rho} : ∀ (t : Tg) {d : Da} {x : V} {σ : L2.St} {r r' : Rho}, Fr Z0 σ0 H0 r0 Z σ H r → SR K Z σ H r → Rp K Z x d → mTg t d r = .ok () r' →
    ∃ σ', SR K Z σ' H r' ∧ Fr Z0 σ0 H0 r0 Z σ' H r' ∧ ∀ Q : L2.St → Hp → Prop, Q σ' H → gTg K t x σ H Q
  | .nm i, d, x, σ, r, r', F, S, hx, e => by
    have e' : mSet i (.val d) r = .ok () r' := e
    have ns : mSet i (.val d) r ≠ .stuck := by rw [e']; intro z; cases z
    obtain ⟨e1, n1, n2, hl⟩ := setOk ns
    rw [e1] at e'
    cases e'
    obtain ⟨S2, F2⟩ := set_to (v := .val d) (x := x) F S hl hx n1 n2
    exact ⟨_, S2, F2, fun Q q => q⟩
  | .tp ts, .tuple ds, x, σ, r, r', F, S, hx, e => by
    cases hx with
    | tup hs ha =>
      obtain ⟨σ', S2, F2, hl, q⟩ := tgs_to ts F S ha (show mTgs ts ds r = .ok () r' from e)
      exact ⟨σ', S2, F2, fun Q hq => .inl ⟨_, _, rfl, SqT.le S.sub hs, by rw [ha.length]; exact hl, q Q hq⟩⟩
  | .tp ts, .none, x, σ, r, r', F, S, hx, e => by cases e
  | .tp ts, .bool _, x, σ, r, r', F, S, hx, e => by cases e
  | .tp ts, .int _, x, σ, r, r', F, S, hx, e => by cases e
  | .tp ts, .str _, x, σ, r, r', F, S, hx, e => by cases e
  | .tp ts, .list ds, x, σ, r, r', F, S, hx, e => by
    cases hx with
    | lst hs ha =>
      obtain ⟨σ', S2, F2, hl, q⟩ := tgs_to ts F S ha (show mTgs ts ds r = .ok () r' from e)
      exact ⟨σ', S2, F2, fun Q hq => .inr ⟨_, _, rfl, .inl (Rd.le S.sub hs), by rw [ha.length]; exact hl, q Q hq⟩⟩
  | .tp ts, .dict _, x, σ, r, r', F, S, hx, e => by cases e
theorem tgs_to {σ0 : L2.St} {Z0 H0 : Hp} {r0 : Rho} : ∀ (ts : List Tg) {ds : List Da} {xs : List V} {σ : L2.St} {r r' : Rho}, Fr Z0 σ0 H0 r0 Z σ H r → SR K Z σ H r → RpAll K Z xs ds → mTgs ts ds r = .ok () r' →
    ∃ σ', SR K Z σ' H r' ∧ Fr Z0 σ0 H0 r0 Z σ' H r' ∧ ds.length = ts.length ∧ ∀ Q : L2.St → Hp → Prop, Q σ' H → gTgs K ts xs σ H Q
  | [], [], xs, σ, r, r', F, S, hx, e => by
    cases e
    cases hx
    exact ⟨σ, S, F, rfl, fun Q q => ⟨rfl, q⟩⟩
  | [], _ :: _, xs, σ, r, r', F, S, hx, e => by cases e
  | _ :: _, [], xs, σ, r, r', F, S, hx, e => by cases e
  | t :: ts, d :: ds, xs, σ, r, r', F, S, hx, e => by
    cases hx with
    | cons h1 h2 =>
      rename_i x xs
      have e' : mBnd (mTg t d) (fun _ => mTgs ts ds) r = .ok () r' := e
      unfold mBnd at e'
      cases e1 : mTg t d r with
      | stuck => rw [e1] at e'; cases e'
      | exc ex r1 => rw [e1] at e'; cases e'
      | ok u r1 =>
        rw [e1] at e'
        obtain ⟨σ1, S1, F1, q1⟩ := tg_to t F S h1 e1
        obtain ⟨σ2, S2, F2, hl, q2⟩ := tgs_to ts F1 S1 h2 e'
        exact ⟨σ2, S2, F2, by simp [hl], fun Q q => ⟨x, xs, rfl, q1 _ (q2 Q q)⟩⟩
end

mutual
theorem mTg_exc : ∀ (t : Tg) (d : Da) (r : Rho) (ex : Ex) (r' : Rho), mTg t d r ≠ .exc ex r'
  | .nm i, d, r, ex, r' => by
    show mSet i (.val d) r ≠ _
    unfold mSet
    split <;> (intro z; cases z)
  | .tp ts, .tuple ds, r, ex, r' => mTgs_exc ts ds r ex r'
  | .tp _, .none, _, _, _ => by intro z; cases z
  | .tp _, .bool _, _, _, _ => by intro z; cases z
  | .tp _, .int _, _, _, _ => by intro z; cases z
  | .tp _, .str _, _, _, _ => by intro z; cases z
  | .tp ts, .list ds, r, ex, r' => mTgs_exc ts ds r ex r'
  | .tp _, .dict _, _, _, _ => by intro z; cases z
theorem mTgs_exc : ∀ (ts : List Tg) (ds : List Da) (r : Rho) (ex : Ex) (r' : Rho), mTgs ts ds r ≠ .exc ex r'
  | [], [], _, _, _ => by intro z; cases z
  | [], _ :: _, _, _, _ => by intro z; cases z
  | _ :: _, [], _, _, _ => by intro z; cases z
  | t :: ts, d :: ds, r, ex, r' => by
    show mBnd (mTg t d) (fun _ => mTgs ts ds) r ≠ _
    unfold mBnd
    cases e : mTg t d r with
    | stuck => intro z; cases z
    | exc e2 r2 => exact absurd e (mTg_exc t d r e2 r2)
    | ok u r2 => exact mTgs_exc ts ds r2 ex r'
end
/-! ## loops -/
theorem iterN_ok {β : Type} {step : Rho → Rho ⊕ Out β} {r : Rho} (h : iter step r ≠ .stuck) : ∃ n, iterN step n r = some (iter step r) := iter_ends h
theorem ps_mWhile (hp : PassesOwn (model X.prog X.w) X.A X.env X.xe) (hc : PT X c (rdT X.K R W mc)) (hb : PSs X body (rdS X.K R W sb)) : PS X (.While c body [] pos) (rdS X.K R W (mWhile mc sb)) :=
  PS.to (ps_while hp hc hb) fun D σ H q => by
    obtain ⟨Z, r, S, q⟩ := q
    unfold mWhile at q
    have ns : iter (whStep mc sb) r ≠ .stuck := fun z => by rw [z] at q; exact q
    obtain ⟨n, hn⟩ := iter_ends ns
    generalize hgo : iter (whStep mc sb) r = o at q hn
    refine ⟨fun m σ' H' => ∃ Z' r', SR X.K Z' σ' H' r' ∧ Fr Z σ H r Z' σ' H' r' ∧ iterN (whStep mc sb) m r' = some o, ⟨n, Z, r, S, Fr.refl, hn⟩, fun m σ' H' w => ?_⟩
    obtain ⟨Z', r', S', F', hm⟩ := w
    cases m with
    | zero => cases hm
    | succ m =>
      unfold iterN whStep at hm
      refine ⟨Z', r', S', ?_⟩
      cases ec : mc r' with
      | stuck => rw [ec] at hm; cases hm; exact q
      | exc ex r1 => rw [ec] at hm; cases hm; exact fun cls d Z1 H1 S1 F1 hR => q cls d σ' Z1 H1 S1 (F'.trans F1) hR
      | ok k r1 =>
        rw [ec] at hm
        intro Z1 H1 S1 F1
        cases k with
        | false =>
          rw [if_neg Bool.false_ne_true]
          cases hm
          exact q σ' Z1 H1 S1 (F'.trans F1)
        | true =>
          rw [if_pos rfl]
          refine ⟨fun σ2 H2 => ∃ Z2 r2, SR X.K Z2 σ2 H2 r2 ∧ Fr Z σ H r Z2 σ2 H2 r2 ∧ iterN (whStep mc sb) m r2 = some o, fun σ2 H2 h2 => ⟨m, Nat.lt_succ_self _, h2⟩, Z1, r1, S1, ?_⟩
          cases eb : sb r1 with
          | stuck => simp only [eb] at hm; cases hm; exact q
          | exc ex r2 => simp only [eb] at hm; cases hm; exact fun cls d σ2 Z2 H2 S2 F2 hR => q cls d σ2 Z2 H2 S2 ((F'.trans F1).trans F2) hR
          | ok fl r2 =>
            simp only [eb] at hm
            intro σ2 Z2 H2 S2 F2
            cases fl with
            | nx => exact ⟨Z2, r2, S2, (F'.trans F1).trans F2, hm⟩
            | cnt => exact ⟨Z2, r2, S2, (F'.trans F1).trans F2, hm⟩
            | brk => cases hm; exact q σ2 Z2 H2 S2 ((F'.trans F1).trans F2)
            | rt v => cases hm; exact fun x hx => q σ2 Z2 H2 S2 ((F'.trans F1).trans F2) x (RetR.back (F'.trans F1) hx)

def notSet : Expr → Bool
  | .Set _ _ _ => false
  | _ => true
theorem folded_not {e : Expr} (h : notSet e = true) (env : Env) (x : Value) : foldedSetIterable e env x = pure x := by
  cases e <;> first | rfl | (simp [notSet] at h)
/-- behind a loop's end the locks are opened -/
theorem unlock_end {Z1 H1 : Hp} {r1 : Rho} {out : Out Fl} (S1 : SR K Z1 σ H1 r1) (F1 : Fr Z σ H r Z1 σ H1 r1) (q : Es K R W Z σ H r (out.mapR fun r2 => unlockAll r2 (locks r1 os)) fun f r' Z' σ' H' => EndF K σ H r Z' σ' H' r' D f) :
    Es K R W Z1 σ H1 (lockAll r1 (locks r1 os)) out fun f r' Z' σ' H' => EndF K σ H1 (lockAll r1 (locks r1 os)) Z' σ' H' r' D f := by
  cases out with
  | stuck => exact q
  | exc ex r2 =>
    intro cls d σ2 Z2 H2 S2 F2 hR
    obtain ⟨S3, F3⟩ := unlock_sr S1 S2 F2
    exact q cls d σ2 Z2 H2 S3 (F1.trans F3) hR
  | ok f r2 =>
    intro σ2 Z2 H2 S2 F2
    obtain ⟨S3, F3⟩ := unlock_sr S1 S2 F2
    have k := q σ2 Z2 H2 S3 (F1.trans F3)
    cases f with
    | nx => exact k
    | brk => exact k
    | cnt => exact k
    | rt v =>
      intro x hx
      refine k x (RetR.back F1 ?_)
      cases v with
      | val d => exact hx
      | lent d => exact hx
      | lck => exact hx
      | own d =>
        refine ⟨hx.1, fun a ea => ?_⟩
        obtain ⟨n, w⟩ := hx.2 a ea
        have g := (lock_sr S1 os).2
        have w' : H1 a = none ∨ Own r1 σ a := by
          rcases w with w | ⟨j, d', h1, h2⟩
          · exact .inl w
          · refine .inr ⟨j, d', ?_, h2⟩
            by_cases c : ∃ p ∈ locks r1 os, p.1 = j
            · unfold ow at h1; rw [(g j).1 c] at h1; rcases h1 with h1 | h1 <;> cases h1
            · unfold ow at h1; rw [(g j).2 c] at h1; exact h1
        refine ⟨fun ho => ?_, w'⟩
        -- an owner at the end: a locked slot, or one of the body's end
        obtain ⟨j, d', h1, h2⟩ := ho
        have lk : ∀ p ∈ locks r1 os, gt r2 p.1 = some .lck ∧ σ2[p.1]? = σ[p.1]? := fun p hp => F2.lk p.1 ((g p.1).1 ⟨p, hp, rfl⟩)
        have u := unlockAll_gt (fun j => gt r1 j) (locks r1 os) r2 fun p hp => ⟨gt_lt (lk p hp).1, (locks_mem hp).1⟩
        by_cases c : ∃ p ∈ locks r1 os, p.1 = j
        · have hw : ow r1 j d' := by unfold ow at h1 ⊢; rw [(u j).1 c] at h1; exact h1
          have hs : σ[j]? = some (some (.ref a)) := by
            obtain ⟨p, hp, e⟩ := c
            subst e
            rw [← (lk p hp).2]; exact h2
          have hl := (S1.own_z ⟨j, d', hw, hs⟩).2
          rcases w with w | ⟨i, d2, i1, i2⟩
          · exact hl w
          · by_cases ci : ∃ p ∈ locks r1 os, p.1 = i
            · unfold ow at i1; rw [(g i).1 ci] at i1; rcases i1 with i1 | i1 <;> cases i1
            · unfold ow at i1
              rw [(g i).2 ci] at i1
              have := S1.sep i j a d2 d' i1 hw i2 hs
              subst this
              exact ci c
        · refine n ⟨j, d', ?_, h2⟩
          unfold ow at h1 ⊢
          rw [(u j).2 c] at h1
          exact h1
/-! ### what is walked, by operands -/
def OpdP (K : PySem.W.Frag) (Z : Hp) (σ : L2.St) (r : Rho) : List Opd → List V → List Da → Prop
  | [], [], [] => True
  | .sl i :: os, x :: xs, d :: ds => (peek r i = some d ∧ σ[i]? = some (some x)) ∧ OpdP K Z σ r os xs ds
  | .ex _ :: os, x :: xs, d :: ds => Rp K Z x d ∧ OpdP K Z σ r os xs ds
  | _, _, _ => False
theorem OpdP.all (S : SR K Z σ H r) : ∀ {os : List Opd} {xs : List V} {ds : List Da}, OpdP K Z σ r os xs ds → OpdAll K Z H xs ds
  | [], [], [], _ => trivial
  | .sl i :: os, x :: xs, d :: ds, h => by
    obtain ⟨⟨h1, h2⟩, h3⟩ := h
    obtain ⟨y, ey, hy⟩ := S.peek h1
    rw [h2] at ey
    cases ey
    exact ⟨hy, OpdP.all S h3⟩
  | .ex _ :: os, x :: xs, d :: ds, h => ⟨.inl h.1, OpdP.all S h.2⟩
/-- a container looked at through an operand, not frozen: a locked slot's -/
theorem OpdP.lock (S : SR K Z σ H r) : ∀ {os : List Opd} {xs : List V} {ds : List Da}, OpdP K Z σ r os xs ds → ∀ (p : Nat) (d : Da) (a : Addr) (o : HO), xs[p]? = some (.ref a) → ds[p]? = some d → Z a = none → ObC K Z o d →
    ∃ q ∈ locks r os, σ[q.1]? = some (some (.ref a))
  | [], [], [], _ => fun p d a o h => by simp at h
  | .sl i :: os, x :: xs, d0 :: ds, h => fun p d a o hx hd hz hc => by
    obtain ⟨⟨h1, h2⟩, h3⟩ := h
    cases p with
    | succ p =>
      obtain ⟨q, hq, e⟩ := OpdP.lock S h3 p d a o (by simpa using hx) (by simpa using hd) hz hc
      refine ⟨q, ?_, e⟩
      unfold locks
      split <;> first | exact List.mem_cons_of_mem _ hq | exact hq
    | zero =>
      simp only [List.getElem?_cons_zero, Option.some.injEq] at hx hd
      subst hx hd
      rcases peek_gt h1 with hv | hw
      · exfalso
        obtain ⟨y, ey, ry⟩ := S.at_ i _ hv (by intro z; cases z)
        rw [h2] at ey
        cases ey
        exact no_frz hz hc ry
      · unfold locks
        rcases hw with hw | hw
        · rw [hw]; exact ⟨_, List.mem_cons_self, h2⟩
        · rw [hw]; exact ⟨_, List.mem_cons_self, h2⟩
  | .ex _ :: os, x :: xs, d0 :: ds, h => fun p d a o hx hd hz hc => by
    cases p with
    | succ p => exact OpdP.lock (os := os) S h.2 p d a o (by simpa using hx) (by simpa using hd) hz hc
    | zero =>
      simp only [List.getElem?_cons_zero, Option.some.injEq] at hx hd
      subst hx hd
      exact (no_frz hz hc h.1).elim
where
  no_frz {Z : Hp} {a : Addr} {o : HO} {d : Da} (hz : Z a = none) (hc : ObC K Z o d) (h : Rp K Z (.ref a) d) : False := by
    unfold ObC at hc
    split at hc
    · cases h with | lst hs _ => rcases hs with hs | ⟨_, hs⟩ <;> (rw [hz] at hs; cases hs)
    · cases h with
      | dk hs _ => rcases hs with hs | ⟨_, hs⟩ <;> (rw [hz] at hs; cases hs)
      | fn y => exact no_fn hc
    · exact hc
theorem opdsP : ∀ (os : List Opd) {Z : Hp} {H : Hp} {r : Rho} {k : List V → Hp → Prop}, SR K Z σ H r →
    Eo K R W Z σ H r (mOps os r) (fun ds r' Z' H' => ∀ xs, OpdP K Z' σ r' os xs ds → k xs H') → tOpds K R W os σ H k
  | [], Z, H, r, k, S, h => h Z H S Fr.refl [] trivial
  | .sl i :: os, Z, H, r, k, S, h => by
    unfold mOps at h
    have h1 := Eo.bnd h
    have np : mPeek i r ≠ .stuck := fun z => by rw [z] at h1; exact h1
    obtain ⟨d0, e0, e1⟩ := mPeek_ok np
    rw [e1] at h1
    have h2 := Eo.bnd (h1 Z H S Fr.refl)
    obtain ⟨x, ex, _⟩ := S.peek e0
    refine ⟨x, ex, opdsP os S (h2.mono fun ds r' Z' H' S' F' k1 xs ha => ?_)⟩
    have k2 := Eo.bnd k1
    have np' : mPeek i r' ≠ .stuck := fun z => by rw [z] at k2; exact k2
    obtain ⟨d, e, e'⟩ := mPeek_ok np'
    rw [e'] at k2
    exact k2 Z' H' S' Fr.refl Z' H' S' Fr.refl (x :: xs) ⟨⟨e, ex⟩, ha⟩
  | .ex m :: os, Z, H, r, k, S, h => by
    unfold mOps at h
    refine ⟨Z, r, S, (Eo.bnd h).mono fun d r1 Z1 H1 S1 F1 k1 x hx => ?_⟩
    refine opdsP os S1 ((Eo.bnd k1).mono fun ds r2 Z2 H2 S2 F2 k2 xs ha => ?_)
    exact k2 Z2 H2 S2 Fr.refl (x :: xs) ⟨Rp.le F2.zm d x hx, ha⟩
/-- what stays while it is walked -/
def Hold (Z1 : Hp) (σ : L2.St) (H1 : Hp) (r1 : Rho) (os : List Opd) (H' : Hp) : Prop :=
  ∀ a o, H1 a = some o → (Z1 a = some o ∨ ∃ p ∈ locks r1 os, σ[p.1]? = some (some (.ref a))) → H' a = some o
theorem hold_of {Z1 H1 : Hp} {r1 : Rho} (S1 : SR K Z1 σ H1 r1) (S' : SR K Z' σ' H' r') (F : Fr Z1 σ H1 (lockAll r1 (locks r1 os)) Z' σ' H' r') : Hold Z1 σ H1 r1 os H' := fun a o e h => by
  rcases h with h | ⟨p, hp, hs⟩
  · exact S'.sub a o (F.zm a o h)
  · have nt : ∀ ps, o ≠ .tbl ps := by
      obtain ⟨g1, d', g2⟩ := locks_mem hp
      have hw : ow r1 p.1 d' := by
        unfold ow
        rcases g2 with g2 | g2
        · rw [g1, g2]; exact .inl rfl
        · rw [g1, g2]; exact .inr rfl
      obtain ⟨b, o', e1, _, hh, hc⟩ := S1.own_ref hw
      rw [hs] at e1
      cases e1
      rw [e] at hh
      cases hh
      exact hc.nt
    refine (F.keep a o e fun ⟨j, d, h1, h2⟩ => ?_).same nt
    have g := (lock_sr S1 os).2
    obtain ⟨g1, d', g2⟩ := locks_mem hp
    have hw : ow r1 p.1 d' := by
      unfold ow
      rcases g2 with g2 | g2
      · rw [g1, g2]; exact .inl rfl
      · rw [g1, g2]; exact .inr rfl
    by_cases c : ∃ q ∈ locks r1 os, q.1 = j
    · unfold ow at h1; rw [(g j).1 c] at h1; rcases h1 with h1 | h1 <;> cases h1
    · unfold ow at h1
      rw [(g j).2 c] at h1
      have := S1.sep j p.1 a d d' h1 hw h2 hs
      exact c ⟨p, hp, this.symm⟩
theorem over_to {α : Type} {f : List Da → Option (List Da)} {wi : List V → Hp → (It → Hp → Prop) → Prop} {R' : It → Hp → Prop} {bd : List Da → Mm α} {kx : Ex → Rho → Prop} {kk : Out α → Prop} (hs : IterS K f wi) (S : SR K Z σ H r)
    (h : Eo K R W Z σ H r (mOps os r) fun ds r1 Z1 H1 => ∃ items, f ds = some items ∧ ∀ J Y (G : Hp → Prop), Walk J items.length G Y → (∀ H', Hold Z1 σ H1 r1 os H' → G H') →
      (∀ (i : Nat) d Z' H' x H'', items[i]? = some d → Le Z1 Z' → Le Z' H' → Y i H' x H'' → ∃ Z'', Ext Z' H' Z'' H'' ∧ Rp K Z'' x d) → R' J H1) :
    tOpds K R W os σ H fun xs H1 => wi xs H1 R' :=
  opdsP os S (h.mono fun ds r1 Z1 H1 S1 F1 k xs hp => by
    obtain ⟨items, hf, k⟩ := k
    refine hs xs ds items Z1 H1 R' S1.sub (hp.all S1) hf fun J Y G w hG hY => k J Y G w (fun H' hh => hG H' fun a o e q => hh a o e ?_) hY
    rcases q with q | ⟨p, d, e1, e2, e3, e4⟩
    · exact .inl q
    · exact .inr (hp.lock S1 p d a o e1 e2 e3 e4))

theorem drop_cons {α : Type} {l : List α} {i : Nat} (h : i < l.length) : l.drop i = l[i] :: l.drop (i + 1) := List.drop_eq_getElem_cons h
theorem mOver_cases {α : Type} {f : List Da → Option (List Da)} {bd : List Da → Mm α} : mOver f os bd r = match mOps os r with
  | .ok ds r1 => match f ds with
    | some items => (bd items (lockAll r1 (locks r1 os))).mapR fun r2 => unlockAll r2 (locks r1 os)
    | none => .stuck
  | .exc e r1 => .exc e r1
  | .stuck => .stuck := rfl
theorem ps_mFor {f : List Da → Option (List Da)} {t : Tg} (hp : PassesOwn (model X.prog X.w) X.A X.env X.xe) (hc : X.calm = true) (hi : IterX X X.K R W tg itr f os) (hg : PG X tg (gTg X.K t)) (hb : PSs X body (rdS X.K R W sb)) (hs : notSet itr = true) :
    PS X (.For tg itr body [] pos) (rdS X.K R W (mFor t f os sb)) := by
  obtain ⟨wi, hw, hpi⟩ := hi
  refine PS.to (ps_for hp hc hpi hg hb (folded_not hs _)) fun D σ H q => ?_
  obtain ⟨Z, r, S, q⟩ := q
  unfold mFor at q
  rw [mOver_cases] at q
  refine over_to (bd := forL t sb) (kx := fun _ _ => True) (kk := fun _ => True) hw S ?_
  cases eo : mOps os r with
  | stuck => rw [eo] at q; exact q
  | exc ex r1 => rw [eo] at q; exact fun cls d Z1 H1 S1 F1 hR => q cls d σ Z1 H1 S1 F1 hR
  | ok ds r1 =>
    rw [eo] at q
    intro Z1 H1 S1 F1
    cases ef : f ds with
    | none => simp only [ef] at q; exact q.elim
    | some items =>
      simp only [ef] at q
      refine ⟨items, rfl, fun J Y G w hG hY => ?_⟩
      have q1 := unlock_end S1 F1 q
      obtain ⟨SL, _⟩ := lock_sr S1 os
      refine for_it w (fun i σ' H' => ∃ Z' r', SR X.K Z' σ' H' r' ∧ Fr Z1 σ H1 (lockAll r1 (locks r1 os)) Z' σ' H' r' ∧ Es X.K R W Z1 σ H1 (lockAll r1 (locks r1 os)) (forL t sb (items.drop i) r') fun f r2 Z2 σ2 H2 => EndF X.K σ H1 (lockAll r1 (locks r1 os)) Z2 σ2 H2 r2 D f)
        ⟨Z1, _, SL, Fr.refl, by rw [List.drop_zero]; exact q1⟩ (fun i σ' H' _ ⟨Z', r', S', F', _⟩ => hG H' (hold_of S1 S' F')) ?_ ?_
      · intro i x σ' H' H'' hi ⟨Z', r', S', F', k⟩ hy
        obtain ⟨Z'', E, rx⟩ := hY i _ Z' H' x H'' (List.getElem?_eq_getElem hi) F'.zm S'.sub hy
        rw [drop_cons hi] at k
        have k' : Es X.K R W Z1 σ H1 (lockAll r1 (locks r1 os)) (mBnd (mTg t items[i]) (fun _ => mBnd sb fun f => match f with
          | .nx => forL t sb (items.drop (i + 1))
          | .cnt => forL t sb (items.drop (i + 1))
          | .brk => mRet .nx
          | .rt v => mRet (.rt v)) r') _ := k
        replace k' := Es.bnd k'
        cases et : mTg t items[i] r' with
        | stuck => rw [et] at k'; exact k'.elim
        | exc ex r2 => exact absurd et (mTg_exc _ _ _ _ _)
        | ok u r2 =>
          rw [et] at k'
          obtain ⟨σ2, S2, F2, hq⟩ := tg_to t (F'.trans E.fr) (E.sr S') rx et
          refine hq _ ⟨Z'', r2, S2, ?_⟩
          refine (Es.start F2 (Es.bnd (k' σ2 Z'' H'' S2 F2))).mono fun fl r3 Z3 σ3 H3 S3 F3 k3 => ?_
          cases fl with
          | nx => exact ⟨Z3, r3, S3, F2.trans F3, k3⟩
          | cnt => exact ⟨Z3, r3, S3, F2.trans F3, k3⟩
          | brk => exact k3 σ3 Z3 H3 S3 (F2.trans F3)
          | rt v => exact fun x hx => k3 σ3 Z3 H3 S3 (F2.trans F3) x (RetR.back F2 hx)
      · intro σ' H' ⟨Z', r', S', F', k⟩
        rw [List.drop_length] at k
        exact k σ' Z' H' S' F'
end
end Mi

set_option maxHeartbeats 1000000
namespace Mi
open PySem PySem.Spec PyProof.Rows L2

section
variable {K : PySem.W.Frag} {R : XR} {W : WX} {Z Z' Z'' H H' H'' : Hp} {σ σ' σ'' : L2.St} {r r' r'' : Rho} {x : V} {d : Da} {v : Vl} {D : Ends}
variable {X : Cx} {a b c e tg itr elt : Expr} {es ifs : List Expr} {os : List Opd} {o : Opd} {pos p : Pos} {m : Mm Vl} {mc : Mm Bool}

/-! ## comprehensions -/
abbrev WF : WX := fun _ _ _ _ => False
theorem hide_len : ∀ (is : List Nat) (r : Rho), (hide r is).length = r.length
  | [], _ => rfl
  | _ :: is, r => by unfold hide; rw [List.length_set, hide_len is]
theorem unhide_len (r0 : Rho) : ∀ (is : List Nat) (r : Rho), (unhide r0 r is).length = r.length
  | [], _ => rfl
  | _ :: is, r => by unfold unhide; rw [List.length_set, unhide_len r0 is]
theorem hide_gt : ∀ (is : List Nat) (r : Rho) (j : Nat), (j ∈ is → gt (hide r is) j = none) ∧ (j ∉ is → gt (hide r is) j = gt r j)
  | [], r, j => ⟨(fun h => by cases h), fun _ => rfl⟩
  | i :: is, r, j => by
    obtain ⟨h1, h2⟩ := hide_gt is r j
    unfold hide
    by_cases c : j = i
    · subst c
      refine ⟨fun _ => ?_, fun h => absurd List.mem_cons_self h⟩
      by_cases hl : j < (hide r is).length
      · exact gt_set_eq hl _
      · unfold gt; rw [List.getElem?_eq_none (by simpa using hl)]; rfl
    · rw [gt_set_ne c]
      exact ⟨fun h => h1 ((List.mem_cons.mp h).resolve_left c), fun h => h2 fun q => h (List.mem_cons_of_mem _ q)⟩
theorem unhide_gt (r0 : Rho) : ∀ (is : List Nat) (r : Rho) (j : Nat), r0.length = r.length → (j ∈ is → gt (unhide r0 r is) j = gt r0 j) ∧ (j ∉ is → gt (unhide r0 r is) j = gt r j)
  | [], r, j, _ => ⟨(fun h => by cases h), fun _ => rfl⟩
  | i :: is, r, j, hl => by
    obtain ⟨h1, h2⟩ := unhide_gt r0 is r j hl
    unfold unhide
    by_cases c : j = i
    · subst c
      refine ⟨fun _ => ?_, fun h => absurd List.mem_cons_self h⟩
      by_cases hb : j < (unhide r0 r is).length
      · exact gt_set_eq hb _
      · have n1 : gt r0 j = none := by
          rw [unhide_len] at hb
          unfold gt; rw [List.getElem?_eq_none (by omega)]; rfl
        rw [n1]
        unfold gt; rw [List.getElem?_eq_none (by simpa using hb)]; rfl
    · rw [gt_set_ne c]
      exact ⟨fun h => h1 ((List.mem_cons.mp h).resolve_left c), fun h => h2 fun q => h (List.mem_cons_of_mem _ q)⟩
theorem wipe_get : ∀ (vs : List Nat) (σ : L2.St) (j : Nat), j ∉ vs → (wipe σ vs)[j]? = σ[j]?
  | [], _, _, _ => rfl
  | v :: vs, σ, j, h => by
    unfold wipe
    rw [List.getElem?_set_ne (fun e => h (by rw [e]; exact List.mem_cons_self))]
    exact wipe_get vs σ j fun q => h (List.mem_cons_of_mem _ q)
theorem hide_sr (S : SR K Z σ H r) (own : List Nat) : SR K Z (wipe σ own) H (hide r own) := by
  have back : ∀ {j u}, gt (hide r own) j = some u → j ∉ own ∧ gt r j = some u := fun {j u} h => by
    obtain ⟨h1, h2⟩ := hide_gt own r j
    by_cases c : j ∈ own
    · rw [h1 c] at h; cases h
    · rw [h2 c] at h; exact ⟨c, h⟩
  have backo : ∀ {j d}, ow (hide r own) j d → j ∉ own ∧ ow r j d := fun {j d} h => by
    rcases h with h | h
    · obtain ⟨a, b⟩ := back h; exact ⟨a, .inl b⟩
    · obtain ⟨a, b⟩ := back h; exact ⟨a, .inr b⟩
  refine ⟨S.sub, S.tb, by rw [hide_len, wipe_length]; exact S.len, fun j u hj hl => ?_, fun i j a d d' h1 h2 e1 e2 => ?_⟩
  · obtain ⟨n, hj⟩ := back hj
    obtain ⟨y, ey, q⟩ := S.at_ j u hj hl
    exact ⟨y, by rw [wipe_get own σ j n]; exact ey, q⟩
  · obtain ⟨n1, w1⟩ := backo h1
    obtain ⟨n2, w2⟩ := backo h2
    rw [wipe_get own σ i n1] at e1
    rw [wipe_get own σ j n2] at e2
    exact S.sep i j a d d' w1 w2 e1 e2
/-- behind a block -/
theorem unhide_sr {Z1 H1 Z2 H2 : Hp} {σ1 σ2 : L2.St} {r1 r2 : Rho} {own : List Nat} (S1 : SR K Z1 σ1 H1 r1) (S2 : SR K Z2 σ2 H2 r2) (F : Fr Z1 (wipe σ1 own) H1 (hide r1 own) Z2 σ2 H2 r2) (hw : wipe σ2 own = wipe σ1 own) :
    SR K Z2 σ1 H2 (unhide r1 r2 own) ∧ Fr Z1 σ1 H1 r1 Z2 σ1 H2 (unhide r1 r2 own) := by
  have sl : σ2.length = σ1.length := by have := congrArg List.length hw; rw [wipe_length, wipe_length] at this; exact this
  have rl : r1.length = r2.length := by rw [S1.len, S2.len, sl]
  have g := fun j => unhide_gt r1 own r2 j rl
  refine rest (L := fun j => j ∈ own) S1 S2 F (fun j hj d h => ?_) (fun j hj => ⟨(hide_gt own r1 j).2 hj, wipe_get own σ1 j hj⟩) (fun j hj => ⟨(g j).1 hj, rfl⟩) (fun j hj => ⟨(g j).2 hj, ?_⟩) (by rw [unhide_len, ← rl]; exact S1.len)
  · unfold ow at h; rw [(hide_gt own r1 j).1 hj] at h; rcases h with h | h <;> cases h
  · rw [← wipe_get own σ1 j hj, ← wipe_get own σ2 j hj, hw]
/-- a tracked object that nobody holds is changed -/
theorem SR.updFree (S : SR K Z σ H r) {a : Addr} {u : HO} (hz : Z a = none) (hh : H a = none ∨ ∃ xs, H a = some (.lst xs)) (no : ¬ Own r σ a) : SR K Z σ (upd H a u) r := by
  refine ⟨fun b w e => ?_, (by
    rcases hh with hh | ⟨xs, hh⟩
    · exact S.tb.le (le_upd hh) fun b e n => absurd e n
    · exact S.tb.upd hh (fun _ q => by cases q) (fun _ q => by cases q)), S.len, fun i v h hl => ?_, S.sep⟩
  · rw [upd_ne (fun q => by subst q; rw [hz] at e; cases e)]; exact S.sub b w e
  · obtain ⟨x, e1, q⟩ := S.at_ i v h hl
    refine ⟨x, e1, ?_⟩
    have ob : ∀ d, ow r i d → ObR K Z H x d → ObR K Z (upd H a u) x d := fun d hw q => ObR.le (fun _ _ e => e) q fun b eb => by
      subst eb
      obtain ⟨b', o', e1', hz', _, _⟩ := S.own_ref hw
      rw [e1] at e1'; cases e1'
      exact ⟨upd_ne fun z => no (by subst z; exact ⟨i, d, hw, e1⟩), hz'⟩
    cases v with
    | val d => exact q
    | own d => exact ob d (.inl h) q
    | lent d => exact ob d (.inr h) q
    | lck => exact absurd rfl hl
theorem Fr.updNew {Z1 H1 : Hp} {σ1 : L2.St} {r1 : Rho} (F : Fr Z1 σ1 H1 r1 Z σ H r) {a : Addr} {u : HO} (hn : H1 a = none) : Fr Z1 σ1 H1 r1 Z σ (upd H a u) r :=
  ⟨fun b o e n => by rw [upd_ne (ne_of_none e hn)]; exact F.keep b o e n, F.zm, F.zn, F.ow, F.lk, F.lt⟩
/-- target slots are the block's -/
def tgIn (own : List Nat) : Tg → Bool
  | .nm i => own.contains i
  | .tp ts => tgsIn own ts
where tgsIn (own : List Nat) : List Tg → Bool
  | [] => true
  | t :: ts => tgIn own t && tgsIn own ts
theorem wipe_set : ∀ (vs : List Nat) (σ : L2.St) (i : Nat) (x : Option V), i ∈ vs → wipe (σ.set i x) vs = wipe σ vs
  | [], _, _, _, h => by cases h
  | v :: vs, σ, i, x, h => by
    unfold wipe
    by_cases c : i ∈ vs
    · rw [wipe_set vs σ i x c]
    · have e : i = v := (List.mem_cons.mp h).resolve_right c
      subst e
      have comm : ∀ (vs : List Nat) (σ : L2.St), i ∉ vs → wipe (σ.set i x) vs = (wipe σ vs).set i x := by
        intro vs
        induction vs with
        | nil => intro σ _; rfl
        | cons w vs ih =>
          intro σ hn
          unfold wipe
          rw [ih σ fun q => hn (List.mem_cons_of_mem _ q), List.set_comm _ _ (fun e => hn (by rw [e]; exact List.mem_cons_self))]
      rw [comm vs σ c, List.set_set]
mutual
theorem tg_wipe {σ0 : L2.St} {Z0 H0 : Hp} {r0 : Rho} {own : List Nat} : ∀ (t : Tg) {d : Da} {x : V} {σ : L2.St} {r r' : Rho}, tgIn own t = true → Fr Z0 σ0 H0 r0 Z σ H r → SR K Z σ H r → Rp K Z x d → mTg t d r = .ok () r' →
    ∃ σ', SR K Z σ' H r' ∧ Fr Z0 σ0 H0 r0 Z σ' H r' ∧ wipe σ' own = wipe σ own ∧ ∀ Q : L2.St → Hp → Prop, Q σ' H → gTg K t x σ H Q
  | .nm i, d, x, σ, r, r', hi, F, S, hx, e => by
    have e' : mSet i (.val d) r = .ok () r' := e
    have ns : mSet i (.val d) r ≠ .stuck := by rw [e']; intro z; cases z
    obtain ⟨e1, n1, n2, hl⟩ := setOk ns
    rw [e1] at e'
    cases e'
    obtain ⟨S2, F2⟩ := set_to (v := .val d) (x := x) F S hl hx n1 n2
    exact ⟨_, S2, F2, wipe_set own σ i _ (by simpa [tgIn] using hi), fun Q q => q⟩
  | .tp ts, .tuple ds, x, σ, r, r', hi, F, S, hx, e => by
    cases hx with
    | tup hs ha =>
      obtain ⟨σ', S2, F2, hl, hw, q⟩ := tgs_wipe ts (by simpa [tgIn] using hi) F S ha (show mTgs ts ds r = .ok () r' from e)
      exact ⟨σ', S2, F2, hw, fun Q hq => .inl ⟨_, _, rfl, SqT.le S.sub hs, by rw [ha.length]; exact hl, q Q hq⟩⟩
  | .tp ts, .none, x, σ, r, r', _, F, S, hx, e => by cases e
  | .tp ts, .bool _, x, σ, r, r', _, F, S, hx, e => by cases e
  | .tp ts, .int _, x, σ, r, r', _, F, S, hx, e => by cases e
  | .tp ts, .str _, x, σ, r, r', _, F, S, hx, e => by cases e
  | .tp ts, .list ds, x, σ, r, r', hi, F, S, hx, e => by
    cases hx with
    | lst hs ha =>
      obtain ⟨σ', S2, F2, hl, hw, q⟩ := tgs_wipe ts (by simpa [tgIn] using hi) F S ha (show mTgs ts ds r = .ok () r' from e)
      exact ⟨σ', S2, F2, hw, fun Q hq => .inr ⟨_, _, rfl, .inl (Rd.le S.sub hs), by rw [ha.length]; exact hl, q Q hq⟩⟩
  | .tp ts, .dict _, x, σ, r, r', _, F, S, hx, e => by cases e
theorem tgs_wipe {σ0 : L2.St} {Z0 H0 : Hp} {r0 : Rho} {own : List Nat} : ∀ (ts : List Tg) {ds : List Da} {xs : List V} {σ : L2.St} {r r' : Rho}, tgIn.tgsIn own ts = true → Fr Z0 σ0 H0 r0 Z σ H r → SR K Z σ H r → RpAll K Z xs ds → mTgs ts ds r = .ok () r' →
    ∃ σ', SR K Z σ' H r' ∧ Fr Z0 σ0 H0 r0 Z σ' H r' ∧ ds.length = ts.length ∧ wipe σ' own = wipe σ own ∧ ∀ Q : L2.St → Hp → Prop, Q σ' H → gTgs K ts xs σ H Q
  | [], [], xs, σ, r, r', _, F, S, hx, e => by
    cases e
    cases hx
    exact ⟨σ, S, F, rfl, rfl, fun Q q => ⟨rfl, q⟩⟩
  | [], _ :: _, xs, σ, r, r', _, F, S, hx, e => by cases e
  | _ :: _, [], xs, σ, r, r', _, F, S, hx, e => by cases e
  | t :: ts, d :: ds, xs, σ, r, r', hi, F, S, hx, e => by
    rw [tgIn.tgsIn, Bool.and_eq_true] at hi
    cases hx with
    | cons h1 h2 =>
      rename_i x xs
      have e' : mBnd (mTg t d) (fun _ => mTgs ts ds) r = .ok () r' := e
      unfold mBnd at e'
      cases e1 : mTg t d r with
      | stuck => rw [e1] at e'; cases e'
      | exc ex r1 => rw [e1] at e'; cases e'
      | ok u r1 =>
        rw [e1] at e'
        obtain ⟨σ1, S1, F1, w1, q1⟩ := tg_wipe t hi.1 F S h1 e1
        obtain ⟨σ2, S2, F2, hl, w2, q2⟩ := tgs_wipe ts hi.2 F1 S1 h2 e'
        exact ⟨σ2, S2, F2, by simp [hl], w2.trans w1, fun Q q => ⟨x, xs, rfl, q1 _ (q2 Q q)⟩⟩
end
/-- behind the walk of a comprehension the locks are opened -/
theorem unlock_endE {Z1 H1 : Hp} {r1 : Rho} {α : Type} {out : Out α} {k : α → Rho → Hp → Hp → Prop} (S1 : SR K Z1 σ H1 r1) (F1 : Fr Z σ H r Z1 σ H1 r1) (q : Eo K R W Z σ H r (out.mapR fun r2 => unlockAll r2 (locks r1 os)) k) :
    Eo K R W Z1 σ H1 (lockAll r1 (locks r1 os)) out fun f r2 Z2 H2 => SR K Z2 σ H2 (unlockAll r2 (locks r1 os)) ∧ Fr Z1 σ H1 r1 Z2 σ H2 (unlockAll r2 (locks r1 os)) ∧ k f (unlockAll r2 (locks r1 os)) Z2 H2 := by
  cases out with
  | stuck => exact q
  | exc ex r2 =>
    intro cls d Z2 H2 S2 F2 hR
    obtain ⟨S3, F3⟩ := unlock_sr S1 S2 F2
    exact q cls d Z2 H2 S3 (F1.trans F3) hR
  | ok f r2 =>
    intro Z2 H2 S2 F2
    obtain ⟨S3, F3⟩ := unlock_sr S1 S2 F2
    exact ⟨S3, F3, q Z2 H2 S3 (F1.trans F3)⟩
theorem Eo.bndG {α β : Type} {m : Mm α} {f : α → Mm β} {k : β → Rho → Hp → Hp → Prop} {r0 : Rho} (h : Eo K R W Z σ H r (mBnd m f r0) k) (hs : m r0 ≠ .stuck) (he : ∀ ex r1, m r0 ≠ .exc ex r1) : ∃ a r1, m r0 = .ok a r1 ∧ Eo K R W Z σ H r (f a r1) k := by
  unfold mBnd at h
  cases e : m r0 with
  | ok a r1 => rw [e] at h; exact ⟨a, r1, rfl, h⟩
  | exc ex r1 => exact absurd e (he ex r1)
  | stuck => exact absurd e hs
theorem own_unlocked {Z1 H1 : Hp} {r1 : Rho} {Dd : Addr} (S1 : SR K Z1 σ H1 r1) (S' : SR K Z' σ H' r') (F : Fr Z1 σ H1 (lockAll r1 (locks r1 os)) Z' σ H' r') (hD : H1 Dd = none) (nD : ¬ Own r' σ Dd) : ¬ Own (unlockAll r' (locks r1 os)) σ Dd := fun ⟨j, d, h, e⟩ => by
  have g := lockAll_gt (locks r1 os) r1 fun p hp => gt_lt (locks_mem hp).1
  have lk : ∀ p ∈ locks r1 os, gt r' p.1 = some .lck ∧ σ[p.1]? = σ[p.1]? := fun p hp => F.lk p.1 ((g p.1).1 ⟨p, hp, rfl⟩)
  have u := unlockAll_gt (fun j => gt r1 j) (locks r1 os) r' fun p hp => ⟨gt_lt (lk p hp).1, (locks_mem hp).1⟩
  by_cases c : ∃ p ∈ locks r1 os, p.1 = j
  · have e1 := (u j).1 c
    have : ow r1 j d := by unfold ow at h ⊢; rw [e1] at h; exact h
    exact (S1.own_z ⟨j, d, this, e⟩).2 hD
  · have e1 := (u j).2 c
    have : ow r' j d := by unfold ow at h ⊢; rw [e1] at h; exact h
    exact nD ⟨j, d, this, e⟩
theorem lc_to {f : List Da → Option (List Da)} {t : Tg} {own : List Nat} {wi : List V → Hp → (It → Hp → Prop) → Prop} {Q : VK} (hw : IterS K f wi) (ht : tgIn own t = true) (q : rdE K R W (mLc own t f os mc m) σ H Q) :
    tLc (fun σ H R' => tOpds K R W os σ H fun xs H1 => wi xs H1 R') (gTg K t) (rdT K R WF mc) (rdV K R WF m) own σ H Q := by
  obtain ⟨Z, r, S, q⟩ := q
  unfold mLc at q
  rw [mOver_cases] at q
  refine over_to (bd := fun _ => (mStuck : Mm Unit)) (kx := fun _ _ => True) (kk := fun _ => True) hw S ?_
  cases eo : mOps os r with
  | stuck => rw [eo] at q; exact q
  | exc ex r1 => rw [eo] at q; exact fun cls d Z1 H1 S1 F1 hR => q cls d Z1 H1 S1 F1 hR
  | ok ds r1 =>
    rw [eo] at q
    intro Z1 H1 S1 F1
    cases ef : f ds with
    | none => simp only [ef] at q; exact q.elim
    | some items =>
      simp only [ef] at q
      refine ⟨items, rfl, fun J Y G w hG hY Dd hD => ?_⟩
      have q1 := unlock_endE S1 F1 q
      obtain ⟨SL, _⟩ := lock_sr S1 os
      have zD : Z1 Dd = none := by
        cases e : Z1 Dd with
        | none => rfl
        | some u => rw [S1.sub Dd u e] at hD; cases hD
      have noL : ∀ {a}, Own (lockAll r1 (locks r1 os)) σ a → H1 a ≠ none := fun h => (SL.own_z h).2
      refine lc_it w (fun i H' => ∃ Z' r' vs acc, SR K Z' σ H' r' ∧ Fr Z1 σ H1 (lockAll r1 (locks r1 os)) Z' σ H' r' ∧ H' Dd = some (.lst vs) ∧ Z' Dd = none ∧ ¬ Own r' σ Dd ∧ RpAll K Z' vs acc ∧
          Eo K R W Z1 σ H1 (lockAll r1 (locks r1 os)) (mBnd (lcL own t mc m acc (items.drop i)) (fun ds => mRet (.own (.list ds))) r') fun f r2 Z2 H2 => SR K Z2 σ H2 (unlockAll r2 (locks r1 os)) ∧ Fr Z1 σ H1 r1 Z2 σ H2 (unlockAll r2 (locks r1 os)) ∧
            ∀ x, TmpR K H r Z2 σ H2 (unlockAll r2 (locks r1 os)) x f → Q x H2) ?_ ?_ ?_ ?_
      · refine ⟨Z1, _, [], [], SL.updFree zD (.inl hD) fun h => noL h hD, Fr.refl.updNew hD, upd_same, zD, fun h => noL h hD, .nil, by rw [List.drop_zero]; exact q1⟩
      · intro i H' _ ⟨Z', r', vs, acc, S', F', _⟩
        exact hG H' (hold_of S1 S' F')
      · intro i x H' H'' hi ⟨Z', r', vs, acc, S', F', hDd, hZD, nD, ra, k⟩ hy
        obtain ⟨Z'', E, rx⟩ := hY i _ Z' H' x H'' (List.getElem?_eq_getElem hi) F'.zm S'.sub hy
        rw [drop_cons hi] at k
        have SE := E.sr S'
        have FE : Fr Z1 σ H1 (lockAll r1 (locks r1 os)) Z'' σ H'' r' := F'.trans E.fr
        -- the turn, by its steps
        let kk : Vl → Rho → Hp → Hp → Prop := fun f r2 Z2 H2 => SR K Z2 σ H2 (unlockAll r2 (locks r1 os)) ∧ Fr Z1 σ H1 r1 Z2 σ H2 (unlockAll r2 (locks r1 os)) ∧
            ∀ x, TmpR K H r Z2 σ H2 (unlockAll r2 (locks r1 os)) x f → Q x H2
        have k1 : Eo K R W Z1 σ H1 (lockAll r1 (locks r1 os)) (mBnd (mBnd (mNx (mHide own (lcT t mc m items[i]))) fun o => match o with
          | some x => if acc.length < 16777216 then lcL own t mc m (acc ++ [x]) (items.drop (i + 1)) else mStuck
          | none => lcL own t mc m acc (items.drop (i + 1))) (fun ds => mRet (Vl.own (.list ds))) r') kk := k
        have turn : ∃ o r4, lcT t mc m items[i] (hide r' own) = .ok o r4 := by
          cases e : lcT t mc m items[i] (hide r' own) with
          | ok o r4 => exact ⟨o, r4, rfl⟩
          | stuck => simp only [mBnd, mNx, mHide, e, Out.mapR] at k1; exact k1.elim
          | exc ex r4 => simp only [mBnd, mNx, mHide, e, Out.mapR] at k1; exact k1.elim
        obtain ⟨ot, r4, e4⟩ := turn
        have k2 : Eo K R W Z1 σ H1 (lockAll r1 (locks r1 os)) (mBnd (match ot with
          | some x => if acc.length < 16777216 then lcL own t mc m (acc ++ [x]) (items.drop (i + 1)) else mStuck
          | none => lcL own t mc m acc (items.drop (i + 1))) (fun ds => mRet (Vl.own (.list ds))) (unhide r' r4 own)) kk := by
          simp only [mBnd, mNx, mHide, e4, Out.mapR] at k1
          exact k1
        unfold lcT mBnd at e4
        cases et : mTg t items[i] (hide r' own) with
        | stuck => rw [et] at e4; cases e4
        | exc ex r2 => exact absurd et (mTg_exc _ _ _ _ _)
        | ok u r2 =>
          rw [et] at e4
          obtain ⟨σ2, S2, F2, w2, hq⟩ := tg_wipe t ht Fr.refl (hide_sr SE own) rx et
          refine hq _ ⟨by rw [w2]; exact wipe_wipe own σ, ⟨Z'', r2, S2, ?_⟩⟩
          cases ec : mc r2 with
          | stuck => simp only [ec] at e4; cases e4
          | exc ex r3 => simp only [ec] at e4; cases e4
          | ok kb r3 =>
            simp only [ec] at e4
            intro Z3 H3 S3 F3
            cases kb with
            | false =>
              rw [if_neg Bool.false_ne_true]
              simp only [mRet] at e4
              cases e4
              obtain ⟨S5, F5⟩ := unhide_sr SE S3 (F2.trans F3) (by rw [w2]; exact wipe_wipe own σ)
              have FD : H3 Dd = some (.lst vs) ∧ Z3 Dd = none ∧ ¬ Own (unhide r' r4 own) σ Dd := by
                have h1 := E.hk _ _ hDd
                have z1 : Z'' Dd = none := by
                  cases q : Z'' Dd with
                  | none => rfl
                  | some u => have := E.zn Dd hZD (by rw [q]; intro z; cases z); rw [hDd] at this; cases this
                refine ⟨F5.keep _ _ h1 nD, ?_, fun h => ?_⟩
                · cases q : Z3 Dd with
                  | none => rfl
                  | some u =>
                    rcases F5.zn Dd z1 (by rw [q]; intro z; cases z) with w | w
                    · rw [h1] at w; cases w
                    · exact absurd w nD
                · rcases F5.ow Dd h with w | w
                  · exact nD w
                  · rw [h1] at w; cases w
              exact ⟨Z3, _, vs, acc, S5, FE.trans F5, FD.1, FD.2.1, FD.2.2, RpAll.le (fun b u q => F5.zm b u (E.zm b u q)) _ _ ra, k2⟩
            | true =>
              rw [if_pos rfl]
              refine ⟨Z3, r3, S3, ?_⟩
              cases ee : mFz m r3 with
              | stuck => simp only [ee] at e4; cases e4
              | exc ex r5 => simp only [ee] at e4; cases e4
              | ok y r5 =>
                simp only [ee, mRet] at e4
                cases e4
                intro Z4 H4 S4 F4 yv ry
                obtain ⟨S5, F5⟩ := unhide_sr SE S4 ((F2.trans F3).trans F4) (by rw [w2]; exact wipe_wipe own σ)
                have h1 := E.hk _ _ hDd
                have z1 : Z'' Dd = none := by
                  cases q : Z'' Dd with
                  | none => rfl
                  | some u => have := E.zn Dd hZD (by rw [q]; intro z; cases z); rw [hDd] at this; cases this
                have hD4 := F5.keep _ _ h1 nD
                have hZ4 : Z4 Dd = none := by
                  cases q : Z4 Dd with
                  | none => rfl
                  | some u =>
                    rcases F5.zn Dd z1 (by rw [q]; intro z; cases z) with w | w
                    · rw [h1] at w; cases w
                    · exact absurd w nD
                have nD4 : ¬ Own (unhide r' r4 own) σ Dd := fun h => by
                  rcases F5.ow Dd h with w | w
                  · exact nD w
                  · rw [h1] at w; cases w
                have lenA : acc.length < 16777216 := by
                  by_cases c : acc.length < 16777216
                  · exact c
                  · simp only [if_neg c] at k2; exact k2.elim
                simp only [if_pos lenA] at k2
                have ra4 : RpAll K Z4 vs acc := RpAll.le (fun b u q => F5.zm b u (E.zm b u q)) _ _ ra
                refine ⟨vs, hD4, (by rw [szL, ra4.length]; exact lenA), Z4, _, vs ++ [yv], acc ++ [y], S5.updFree hZ4 (.inr ⟨_, hD4⟩) nD4, (FE.trans F5).updNew hD, upd_same, hZ4, nD4, ra4.append (.cons ry .nil), k2⟩
      · intro H' ⟨Z', r', vs, acc, S', F', hDd, hZD, nD, ra, k⟩
        rw [List.drop_length] at k
        obtain ⟨S2, F2, k2⟩ := k Z' H' S' F'
        refine k2 (.ref Dd) ⟨⟨Dd, _, rfl, hZD, hDd, ra⟩, fun a ea => ?_⟩
        cases ea
        refine ⟨fun h => ?_, ?_⟩
        · exact own_unlocked S1 S' F' hD nD h
        · cases e0 : H Dd with
          | none => exact .inl rfl
          | some o =>
            by_cases c : Own r σ Dd
            · exact .inr c
            · exact absurd hD (F1.keep Dd o e0 c).nn
where
  wipe_wipe (own : List Nat) (σ : L2.St) : wipe (wipe σ own) own = wipe σ own := by
    have : ∀ (vs us : List Nat) (σ : L2.St), (∀ v ∈ vs, v ∈ us) → wipe (wipe σ vs) us = wipe σ us := by
      intro vs
      induction vs with
      | nil => intro us σ _; rfl
      | cons v vs ih =>
        intro us σ h
        show wipe ((wipe σ vs).set v none) us = _
        rw [wipe_set us _ v none (h v List.mem_cons_self)]
        exact ih us σ fun w hw => h w (List.mem_cons_of_mem _ hw)
    exact this own own σ fun _ h => h
end
end Mi

set_option maxHeartbeats 1000000
namespace Mi
open PySem PySem.Spec PyProof.Rows L2

/-! ## a slot's own container is changed -/
def mMod (j : Nat) (g : Da → Option (Da × Da)) : Mm Vl := fun r => match gt r j with
  | some (.own d) => match g d with
    | some (v, d') => .ok (.val v) (r.set j (some (.own d')))
    | none => .stuck
  | some (.lent d) => match g d with
    | some (v, d') => .ok (.val v) (r.set j (some (.lent d')))
    | none => .stuck
  | _ => .stuck
def putD : List Da → Da → Da → Option (Da × Da)
  | [.int k], d, .list xs => (ixN xs.length k).map fun i => (.none, .list (xs.set i d))
  | [k], d, .dict ds => match kOf k with
    | some kk => if ds.length < 16777216 then some (.none, .dict (putKd ds kk d)) else none
    | none => none
  | _, _, _ => none
def mPut (j : Nat) (oi : Opd) (m : Mm Vl) : Mm Fl := mBnd (mFz m) fun d => mBnd (mPeek j) fun _ => mBnd (mOps [oi]) fun ds => mBnd (mMod j (putD ds d)) fun _ => mRet .nx
def isLst : Da → Bool
  | .list _ => true
  | _ => false
def appD (d : Da) : Da → Option (Da × Da)
  | .list xs => if xs.length < 16777216 then some (.none, .list (xs ++ [d])) else none
  | _ => none
/-- x.append(e) -/
def mApp (j : Nat) (m : Mm Vl) : Mm Vl := mBnd (mPeek j) fun c => if isLst c then mBnd (mFz m) fun d => mMod j (appD d) else mStuck
/-- x.m(..), what is handed in is looked at only -/
def mMeth (j : Nat) (os : List Opd) (g : List Da → Da → Option (Da × Da)) : Mm Vl := mBnd (mPeek j) fun c => if isLst c then mBnd (mOps os) fun ds => mMod j (g ds) else mStuck
def popD : List Da → Da → Option (Da × Da)
  | [], .list xs => (xs[xs.length - 1]?).map fun d => (d, .list xs.dropLast)
  | [.int i], .list xs => if -(2 ^ 63) ≤ i ∧ i < 2 ^ 63 then (seqIndex? i xs.length).bind fun k => (xs[k]?).map fun d => (d, .list (xs.eraseIdx k)) else none
  | _, _ => none
def extD : List Da → Da → Option (Da × Da)
  | [.list ys], .list xs => if xs.length + ys.length ≤ 16777216 then some (.none, .list (xs ++ ys)) else none
  | _, _ => none
def clearD : List Da → Da → Option (Da × Da)
  | [], .list _ => some (.none, .list [])
  | _, _ => none

section
variable {K : PySem.W.Frag} {R : XR} {W : WX} {Z Z' Z'' H H' H'' : Hp} {σ σ' σ'' : L2.St} {r r' r'' : Rho} {x : V} {d d' : Da} {v : Vl} {D : Ends}
variable {X : Cx} {a b c e tg : Expr} {es : List Expr} {os : List Opd} {o oi : Opd} {pos p : Pos} {m : Mm Vl} {mc : Mm Bool}
theorem mod_sr (S : SR K Z σ H r) {j : Nat} {a : Addr} {o' : HO} {v' : Vl} (h : (gt r j = some (.own d) ∧ v' = .own d') ∨ (gt r j = some (.lent d) ∧ v' = .lent d')) (e : σ[j]? = some (some (.ref a))) (hz : Z a = none) (hc : ObC K Z o' d') :
    SR K Z σ (upd H a o') (r.set j (some v')) ∧ Fr Z σ H r Z σ (upd H a o') (r.set j (some v')) := by
  have hj : ow r j d := by rcases h with h | h; exact .inl h.1; exact .inr h.1
  have hl : j < r.length := by rcases h with h | h <;> exact gt_lt h.1
  have hv : v' = .own d' ∨ v' = .lent d' := by rcases h with h | h; exact .inl h.2; exact .inr h.2
  have back : ∀ {i d1}, ow (r.set j (some v')) i d1 → ∃ d2, ow r i d2 := fun {i d1} h1 => by
    by_cases c : i = j
    · subst c; exact ⟨d, hj⟩
    · unfold ow at h1; rw [gt_set_ne c] at h1; exact ⟨d1, h1⟩
  refine ⟨⟨fun b u eb => ?_, (by obtain ⟨b, o, e1, _, hh, h0⟩ := S.own_ref hj; rw [e] at e1; cases e1; exact S.tb.upd hh h0.nt h0.ne), by rw [List.length_set]; exact S.len, fun i u hu hlk => ?_, fun i k b d1 d2 h1 h2 e1 e2 => ?_⟩, ⟨fun b u eb nb => ?_, fun _ _ q => q, fun b q n => absurd q n, fun b hb => ?_, fun i hi => ?_, fun i d1 hi => ?_⟩⟩
  · rw [upd_ne (fun q => by subst q; rw [hz] at eb; cases eb)]; exact S.sub b u eb
  · by_cases c : i = j
    · subst c
      rw [gt_set_eq hl] at hu
      cases hu
      refine ⟨_, e, ?_⟩
      have ob : ObR K Z (upd H a o') (.ref a) d' := ⟨a, o', rfl, hz, upd_same, hc⟩
      rcases hv with z | z <;> (subst z; exact ob)
    · rw [gt_set_ne c] at hu
      obtain ⟨x, ex, q⟩ := S.at_ i u hu hlk
      refine ⟨x, ex, ?_⟩
      have ob : ∀ d1, ow r i d1 → ObR K Z H x d1 → ObR K Z (upd H a o') x d1 := fun d1 hw q => ObR.le (fun _ _ q => q) q fun b eb => by
        subst eb
        have ne : b ≠ a := fun z => c (S.sep i j a d1 d hw hj (by rw [← z]; exact ex) e)
        obtain ⟨b', o1, e1, hz', _, _⟩ := S.own_ref hw
        rw [ex] at e1; cases e1
        exact ⟨upd_ne ne, hz'⟩
      cases u with
      | val d1 => exact q
      | own d1 => exact ob d1 (.inl hu) q
      | lent d1 => exact ob d1 (.inr hu) q
      | lck => exact absurd rfl hlk
  · obtain ⟨d3, h3⟩ := back h1
    obtain ⟨d4, h4⟩ := back h2
    exact S.sep i k b d3 d4 h3 h4 e1 e2
  · rw [upd_ne (fun q => by subst q; exact nb ⟨j, d, hj, e⟩)]; exact .of eb
  · obtain ⟨i, d1, h1, e1⟩ := hb
    obtain ⟨d2, h2⟩ := back h1
    exact .inl ⟨i, d2, h2, e1⟩
  · have ne : i ≠ j := fun z => by subst z; rcases h with h | h <;> (rw [h.1] at hi; cases hi)
    exact ⟨by rw [gt_set_ne ne]; exact hi, rfl⟩
  · by_cases c : i = j
    · subst c
      rcases h with h | h
      · rw [h.1] at hi; cases hi
      · exact ⟨⟨d', by rw [gt_set_eq hl, h.2]⟩, rfl⟩
    · exact ⟨⟨d1, by rw [gt_set_ne c]; exact hi⟩, rfl⟩
theorem mod_ok (S : SR K Z σ H r) {j : Nat} {g : Da → Option (Da × Da)} (ns : mMod j g r ≠ .stuck) : ∃ d v d' a o r', g d = some (v, d') ∧ σ[j]? = some (some (.ref a)) ∧ Z a = none ∧ H a = some o ∧ ObC K Z o d ∧
    mMod j g r = .ok (.val v) r' ∧ ∀ o', ObC K Z o' d' → SR K Z σ (upd H a o') r' ∧ Fr Z σ H r Z σ (upd H a o') r' := by
  unfold mMod at ns ⊢
  cases e : gt r j with
  | none => rw [e] at ns; exact absurd rfl ns
  | some u =>
    rw [e] at ns
    cases u with
    | val _ => exact absurd rfl ns
    | lck => exact absurd rfl ns
    | own d =>
      dsimp only at ns ⊢
      cases eg : g d with
      | none => rw [eg] at ns; exact absurd rfl ns
      | some q =>
        obtain ⟨v, d'⟩ := q
        obtain ⟨a, o, e1, hz, hh, hc⟩ := S.own_ref (.inl e)
        exact ⟨d, v, d', a, o, _, eg, e1, hz, hh, hc, rfl, fun o' h => mod_sr S (.inl ⟨e, rfl⟩) e1 hz h⟩
    | lent d =>
      dsimp only at ns ⊢
      cases eg : g d with
      | none => rw [eg] at ns; exact absurd rfl ns
      | some q =>
        obtain ⟨v, d'⟩ := q
        obtain ⟨a, o, e1, hz, hh, hc⟩ := S.own_ref (.inr e)
        exact ⟨d, v, d', a, o, _, eg, e1, hz, hh, hc, rfl, fun o' h => mod_sr S (.inr ⟨e, rfl⟩) e1 hz h⟩
theorem mod_list {o : HO} {xs : List Da} (hc : ObC K Z o (.list xs)) : ∃ vs, o = .lst vs ∧ RpAll K Z vs xs := by
  unfold ObC at hc
  split at hc
  · rename_i e; cases e; exact ⟨_, rfl, hc⟩
  · rename_i e; cases e
  · exact hc.elim
theorem RpAll.set : ∀ {ds : List Da} {xs : List V} (i : Nat) {x : V} {d : Da}, RpAll K Z xs ds → Rp K Z x d → RpAll K Z (xs.set i x) (ds.set i d)
  | [], _, _, _, _, q, _ => by cases q; exact .nil
  | _ :: _, _, 0, _, _, q, h => by
    cases q with
    | cons h1 h2 => exact .cons h h2
  | _ :: _, _, i + 1, _, _, q, h => by
    cases q with
    | cons h1 h2 => exact .cons h1 (RpAll.set i h2 h)
theorem RpAll.erase : ∀ {ds : List Da} {xs : List V} (i : Nat), RpAll K Z xs ds → RpAll K Z (xs.eraseIdx i) (ds.eraseIdx i)
  | [], _, _, q => by cases q; exact .nil
  | _ :: _, _, 0, q => by
    cases q with
    | cons h1 h2 => exact h2
  | _ :: _, _, i + 1, q => by
    cases q with
    | cons h1 h2 => exact .cons h1 (RpAll.erase i h2)
theorem RpAll.dropLast : ∀ {ds : List Da} {xs : List V}, RpAll K Z xs ds → RpAll K Z xs.dropLast ds.dropLast
  | [], _, q => by cases q; exact .nil
  | [_], _, q => by
    cases q with
    | cons h1 h2 => cases h2; exact .nil
  | _ :: _ :: _, _, q => by
    cases q with
    | cons h1 h2 => cases h2 with
      | cons h3 h4 => exact .cons h1 (RpAll.dropLast (.cons h3 h4))

/-- name[i] = e -/
def rSetU : V → V → V → Hp → (Hp → Prop) → Prop := fun o i v H Q => rSetL o i v H Q ∨ rSetD o i v H Q
theorem set_U (hu : X.A.units + 1 < cLine) : PSet X rSetU := fun pins s σ H o i v ov iv u Q I ro ri rv h => by
  rcases h with h | h
  · exact set_list pins s σ H o i v ov iv u Q I ro ri rv h
  · exact set_dict hu pins s σ H o i v ov iv u Q I ro ri rv h
theorem mod_dict {o : HO} {ds : List (Da × Da)} (hc : ObC K Z o (.dict ds)) : ∃ kvs, o = .dK kvs ∧ RpKv K Z kvs ds := by
  unfold ObC at hc
  split at hc
  · rename_i e; cases e
  · rename_i e; cases e; exact ⟨_, rfl, hc⟩
  · exact hc.elim
theorem ps_mPut (hu : X.A.units + 1 < cLine) {j : Nat} {ob ix : Expr} {p' : Pos} (hn : PE X ob (tVar j)) (hi : OpdX X X.K R W ix oi) (h : PE X e (rdE X.K R W m)) (hs : swapsWithSole [.Subscript ob ix p'] e pos.line X.env = pure false) (hw : swappedStores [.Subscript ob ix p'] e X.env = pure none)
    (ha : ∀ v, assign (.Subscript ob ix p') X.env v = (do
      let ov ← holding [v] (eval ob X.env)
      let iv ← holding [v, ov] (eval ix X.env)
      standAt p'
      holding [v, ov, iv] (setItem ov iv v)
      release [v, ov, iv] [])) : PS X (.Assign [.Subscript ob ix p'] e pos) (rdS X.K R W (mPut j oi m)) :=
  PS.to (ps_asg (rdV_of h) (pg_sub hn hi.pe (set_U hu) ha) hs hw) fun D σ H q => by
    obtain ⟨Z, r, S, q⟩ := q
    unfold mPut at q
    refine ⟨Z, r, S, (Es.bndE q).mono fun d r1 Z1 H1 S1 F1 k x hx => ?_⟩
    have np : mPeek j r1 ≠ .stuck := fun z => by unfold mBnd at k; rw [z] at k; exact k.elim
    obtain ⟨d0, e0, e1⟩ := mPeek_ok np
    obtain ⟨y, ey, _⟩ := S1.peek e0
    refine ⟨y, ey, ?_⟩
    have k1 : Es X.K R W Z1 σ H1 r1 (mBnd (mOps [oi]) (fun ds => mBnd (mMod j (putD ds d)) fun _ => mRet Fl.nx) r1) fun f r' Z' σ' H' => EndF X.K σ H r Z' σ' H' r' D f := by
      unfold mBnd at k
      rw [e1] at k
      exact Es.start F1 k
    refine opd1 (k := fun xs H => ∃ i, xs = [i] ∧ rSetU y i x H fun H3 => D.nx σ H3) (opds [oi] S1 ((Es.bndE k1).mono fun ds r2 Z2 H2 S2 F2 k2 xs hxs => ?_)) fun i H h => (by obtain ⟨i', e, h⟩ := h; cases e; exact h)
    have k3 := Es.start F2 k2
    have ns : mMod j (putD ds d) r2 ≠ .stuck := fun z => by unfold mBnd at k3; rw [z] at k3; exact k3.elim
    obtain ⟨c, v, d', a, o, r3, eg, ej, hz, hh, hc, em, up⟩ := mod_ok S2 ns
    rw [ey] at ej
    cases ej
    have k4 : Es X.K R W Z2 σ H2 r2 (mRet Fl.nx r3) fun f r' Z' σ' H' => EndF X.K σ H r Z' σ' H' r' D f := by
      unfold mBnd at k3; rw [em] at k3; exact k3
    unfold putD at eg
    split at eg
    · rename_i kk xs0
      cases eq : ixN xs0.length kk with
      | none => rw [eq] at eg; cases eg
      | some n =>
        rw [eq] at eg
        cases eg
        obtain ⟨vs, e3, ra⟩ := mod_list hc
        subst e3
        match xs, hxs with
        | [i], hxs =>
          have := OpdR.int hxs.1
          subst this
          obtain ⟨S5, F5⟩ := up (.lst (vs.set n x)) (RpAll.set n ra (Rp.le F2.zm _ _ hx))
          exact ⟨_, rfl, .inl ⟨a, vs, kk, n, rfl, rfl, hh, by rw [ra.length]; exact eq, k4 _ _ _ S5 F5⟩⟩
    · rename_i kd ds0
      split at eg
      · rename_i kk hkk
        split at eg
        · rename_i hl
          cases eg
          obtain ⟨kvs, e3, ra⟩ := mod_dict hc
          subst e3
          match xs, hxs with
          | [i], hxs =>
            have ek := kOf_rp hkk hxs.1
            subst ek
            obtain ⟨S5, F5⟩ := up (.dK (putK kvs kk x)) (RpKv.put ra (Rp.le F2.zm _ _ hx))
            exact ⟨_, rfl, .inr ⟨a, _, rfl, .inl ⟨kvs, kk, hh, rfl, by rw [ra.length]; exact hl, rfl⟩, k4 _ _ _ S5 F5⟩⟩
        · cases eg
      · cases eg
    · cases eg

/-! ### methods -/
theorem app_to {j : Nat} {Q : VK} (q : rdE K R W (mApp j m) σ H Q) : tBM K "list" rAppend (tVar j) (tCons (rdV K R W m) tNil) σ H Q := by
  obtain ⟨Z, r, S, q⟩ := q
  have np : mPeek j r ≠ .stuck := fun z => by unfold mApp mBnd at q; rw [z] at q; exact q.elim
  obtain ⟨d0, e0, e1⟩ := mPeek_ok np
  obtain ⟨y, ey, hy⟩ := S.peek e0
  have q1 : Eo K R W Z σ H r ((if isLst d0 = true then mBnd (mFz m) fun d => mMod j (appD d) else mStuck) r) fun v r' Z' H' => ∀ x, TmpR K H r Z' σ H' r' x v → Q x H' := by
    unfold mApp at q; unfold mBnd at q; rw [e1] at q; exact q
  have il : isLst d0 = true := by
    by_cases c : isLst d0 = true
    · exact c
    · rw [if_neg c] at q1; exact q1.elim
  rw [if_pos il] at q1
  refine ⟨y, ey, ?_, ?_⟩
  · cases d0 <;> first | cases il | skip
    obtain ⟨a, vs, e2, rd, _⟩ := OpdR.lst S.sub hy
    subst e2
    exact .inl ⟨rfl, vs, .inl rd⟩
  · refine ⟨Z, r, S, (Eo.bnd q1).mono fun d r1 Z1 H1 S1 F1 k x hx => ?_⟩
    have ns : mMod j (appD d) r1 ≠ .stuck := fun z => by rw [z] at k; exact k.elim
    obtain ⟨c, v, d', a, o, r3, eg, ej, hz, hh, hc, em, up⟩ := mod_ok S1 ns
    rw [ey] at ej
    cases ej
    rw [em] at k
    unfold appD at eg
    split at eg
    · rename_i xs
      by_cases hl : xs.length < 16777216
      · rw [if_pos hl] at eg
        cases eg
        obtain ⟨vs, e3, ra⟩ := mod_list hc
        subst e3
        obtain ⟨S5, F5⟩ := up (.lst (vs ++ [x])) (ra.append (.cons hx .nil))
        exact ⟨a, vs, x, rfl, rfl, hh, by rw [ra.length]; exact hl, k _ _ S5 F5 _ .non⟩
      · rw [if_neg hl] at eg; cases eg
    · cases eg
theorem pe_mApp {j : Nat} {ob : Expr} {apos cpos : Pos} (hn : PE X ob (tVar j)) (h : PE X e (rdE X.K R W m)) (hns : notStar e = true) (hb : attributeBase ob "append" X.env (eval ob X.env) = eval ob X.env) (hl : (apos.endLine == cpos.line) = true) :
    PE X (.Call (.Attribute ob "append" apos) [e] [] cpos) (rdE X.K R W (mApp j m)) :=
  PE.to (pe_bm PySem.F.plainAttrs_list PySem.F.slot_list_append PySem.F.type_list_append mt_append hn (pa_cons (rdV_of h) pa_nil (starEach_cons hns _ _)) hb (by rw [starEach_cons hns]; rfl) hl (starEach_cons hns _ _)) fun σ H Q q => app_to q
def MethOk (g : List Da → Da → Option (Da × Da)) (t : V → List V → Hp → VK → Prop) : Prop := ∀ (K : PySem.W.Frag) (a : Addr) (o : HO) (d v d' : Da) (xs : List V) (ds : List Da) (Z H : Hp) (Q : VK), Le Z H → H a = some o → ObC K Z o d → OpdAll K Z H xs ds → g ds d = some (v, d') →
  (∀ x o', Rp K Z x v → ObC K Z o' d' → Q x (upd H a o')) → t (.ref a) xs H Q
theorem meth_to {j : Nat} {Q : VK} {g : List Da → Da → Option (Da × Da)} {t : V → List V → Hp → VK → Prop} (hg : MethOk g t) (q : rdE K R W (mMeth j os g) σ H Q) : tBM K "list" t (tVar j) (tOpds K R W os) σ H Q := by
  obtain ⟨Z, r, S, q⟩ := q
  have np : mPeek j r ≠ .stuck := fun z => by unfold mMeth mBnd at q; rw [z] at q; exact q.elim
  obtain ⟨d0, e0, e1⟩ := mPeek_ok np
  obtain ⟨y, ey, hy⟩ := S.peek e0
  have q1 : Eo K R W Z σ H r ((if isLst d0 = true then mBnd (mOps os) fun ds => mMod j (g ds) else mStuck) r) fun v r' Z' H' => ∀ x, TmpR K H r Z' σ H' r' x v → Q x H' := by
    unfold mMeth at q; unfold mBnd at q; rw [e1] at q; exact q
  have il : isLst d0 = true := by
    by_cases c : isLst d0 = true
    · exact c
    · rw [if_neg c] at q1; exact q1.elim
  rw [if_pos il] at q1
  refine ⟨y, ey, ?_, ?_⟩
  · cases d0 <;> first | cases il | skip
    obtain ⟨a, vs, e2, rd, _⟩ := OpdR.lst S.sub hy
    subst e2
    exact .inl ⟨rfl, vs, .inl rd⟩
  · refine opds os S ((Eo.bnd q1).mono fun ds r1 Z1 H1 S1 F1 k xs hx => ?_)
    have ns : mMod j (g ds) r1 ≠ .stuck := fun z => by rw [z] at k; exact k.elim
    obtain ⟨c, v, d', a, o, r3, eg, ej, hz, hh, hc, em, up⟩ := mod_ok S1 ns
    rw [ey] at ej
    cases ej
    rw [em] at k
    refine hg K a o c v d' xs ds Z1 H1 Q S1.sub hh hc hx eg fun x o' hv ho => ?_
    obtain ⟨S5, F5⟩ := up o' ho
    exact k _ _ S5 F5 x hv
theorem pe_mMeth0 {j : Nat} {ob : Expr} {apos cpos : Pos} {name : Str} {id : String} {g : List Da → Da → Option (Da × Da)} {t : V → List V → Hp → VK → Prop} (hg : MethOk g t) (slot : Slot "list" name id) (hty : typeOf (.builtin id) = pure (.type "method_descriptor")) (hm : MtR X id t) (hn : PE X ob (tVar j)) (hb : attributeBase ob name X.env (eval ob X.env) = eval ob X.env) (hl : (apos.endLine == cpos.line) = true) :
    PE X (.Call (.Attribute ob name apos) [] [] cpos) (rdE X.K R W (mMeth j [] g)) :=
  PE.to (pe_bm0 PySem.F.plainAttrs_list slot hty hm hn hb hl) fun σ H Q q => meth_to (os := []) hg q
theorem pe_mMeth {j : Nat} {ob : Expr} {apos cpos : Pos} {name : Str} {id : String} {g : List Da → Da → Option (Da × Da)} {t : V → List V → Hp → VK → Prop} (hg : MethOk g t) (slot : Slot "list" name id) (hty : typeOf (.builtin id) = pure (.type "method_descriptor")) (hm : MtR X id t) (hn : PE X ob (tVar j)) (h : OpX X R W [e] os)
    (hb : attributeBase ob name X.env (eval ob X.env) = eval ob X.env) (hl : (apos.endLine == cpos.line) = true) :
    PE X (.Call (.Attribute ob name apos) [e] [] cpos) (rdE X.K R W (mMeth j os g)) := by
  have hns : notStar e = true := by have := h.plain; simpa using this
  exact PE.to (pe_bm PySem.F.plainAttrs_list slot hty hm hn h.pa hb (by rw [starEach_cons hns]; rfl) hl (starEach_cons hns _ _)) fun σ H Q q => meth_to hg q
theorem meth_pop : MethOk popD (fun x xs H Q => (xs = [] ∧ rPop x xs H Q) ∨ (xs ≠ [] ∧ rPopAt x xs H Q)) := by
  intro K a o d v d' xs ds Z H Q zh hh hc hx eg k
  unfold popD at eg
  split at eg
  · rename_i l
    match xs, hx with
    | [], _ =>
      obtain ⟨vs, e3, ra⟩ := mod_list hc
      subst e3
      cases el : l[l.length - 1]? with
      | none => rw [el] at eg; cases eg
      | some y =>
        rw [el] at eg
        cases eg
        obtain ⟨w, ew, hw⟩ := RpAll.get ra el
        exact .inl ⟨rfl, a, vs, w, rfl, rfl, hh, by rw [ra.length]; exact ew, k w _ hw (RpAll.dropLast ra)⟩
  · rename_i i l
    match xs, hx with
    | [x], hx =>
      have := OpdR.int hx.1
      subst this
      obtain ⟨vs, e3, ra⟩ := mod_list hc
      subst e3
      by_cases hb : -(2 ^ 63) ≤ i ∧ i < 2 ^ 63
      · rw [if_pos hb] at eg
        cases es : seqIndex? i l.length with
        | none => rw [es] at eg; cases eg
        | some n =>
          rw [es] at eg
          simp only [Option.bind_some] at eg
          cases el : l[n]? with
          | none => rw [el] at eg; cases eg
          | some y =>
            rw [el] at eg
            cases eg
            obtain ⟨w, ew, hw⟩ := RpAll.get ra el
            exact .inr ⟨by simp, a, vs, i, n, w, rfl, rfl, hh, hb.1, hb.2, by rw [ra.length]; exact es, ew, k w _ hw (RpAll.erase n ra)⟩
      · rw [if_neg hb] at eg; cases eg
  · cases eg
theorem mt_popU : MtR X "list.pop" (fun x xs H Q => (xs = [] ∧ rPop x xs H Q) ∨ (xs ≠ [] ∧ rPopAt x xs H Q)) := fun pins s σ H x xs v us Q I rx rv h => by
  rcases h with h | h
  · exact mt_pop pins s σ H x xs v us Q I rx rv h.2
  · exact mt_popAt pins s σ H x xs v us Q I rx rv h.2
theorem meth_clear : MethOk clearD rClear := by
  intro K a o d v d' xs ds Z H Q zh hh hc hx eg k
  unfold clearD at eg
  split at eg
  · match xs, hx with
    | [], _ =>
      cases eg
      obtain ⟨vs, e3, ra⟩ := mod_list hc
      subst e3
      exact ⟨a, vs, rfl, rfl, hh, k _ _ .non RpAll.nil⟩
  · cases eg
/-! xs.extend(ys) -/
def rExtU : V → List V → Hp → VK → Prop := fun x vs H Q => ∃ l b xs zs, x = .ref l ∧ vs = [.ref b] ∧ H l = some (.lst xs) ∧ Rd H b (.lst zs) ∧ xs.length + zs.length ≤ sizeLine ∧ Q .non (upd H l (.lst (xs ++ zs)))
theorem mt_extU : MtR X "list.extend" rExtU := by
  intro pins s σ H x vs v us Q I rx rv h
  obtain ⟨l, b, xs, zs, rfl, rfl, hH, hB, hz, q⟩ := h
  cases rx
  obtain ⟨u, rfl, ru⟩ := rv.one
  cases ru
  obtain ⟨z, its, n, r, hl, e⟩ := I.lstM hH
  obtain ⟨z2, its2, n2, r2, hl2, e2⟩ := rd_lst I hB
  have hsz : its.toArray.size + its2.toArray.size ≤ sizeLine := by rw [List.size_toArray, List.size_toArray]; omega
  have hlong : ¬ (!its.toArray.isEmpty && Builtin.List.listTooLong (its.toArray.size + its2.toArray.size)) = true := by
    rw [notLongL hsz, Bool.and_false]
    exact Bool.false_ne_true
  refine call_meets F.slot_list_extend ⟨_, e, rfl⟩ F.entry_list_extend (F.args_list_extend_2 _ _)
    (AutoSeq1.list_extend_list_list_0 l its.toArray n b its2.toArray n2 hlong (by rw [List.size_toArray]; omega) (by omega)) ⟨e, e2, ?_⟩
  refine ⟨.non, _, I.lset (its' := its ++ its2) hH e (by simp) (r.append r2) ?_, rfl, q⟩
  rw [List.length_append]
  omega
theorem meth_ext : MethOk extD rExtU := by
  intro K a o d v d' xs ds Z H Q zh hh hc hx eg k
  unfold extD at eg
  split at eg
  · rename_i ys l
    match xs, hx with
    | [x], hx =>
      obtain ⟨b, zs, rfl, rd, pz⟩ := OpdR.lst zh hx.1
      split at eg
      · rename_i hl
        cases eg
        obtain ⟨vs, e3, ra⟩ := mod_list hc
        subst e3
        exact ⟨a, b, vs, zs, rfl, rfl, hh, rd, by rw [ra.length, pz.length, szL]; exact hl, k _ _ .non (RpAll.append ra pz)⟩
      · cases eg
  · cases eg
/-! d.get(k, x) -/
def isDc : Da → Bool
  | .dict ds => keyed ds
  | _ => false
def opGet : List Da → Option Vl
  | [.dict ds, a, x] => match kOf a with
    | some k => if keyed ds then (match getDd ds k with
      | some d => some (.val d)
      | none => some (.val x)) else none
    | none => none
  | _ => none
def mGet (j : Nat) (ok : Opd) (mx : Mm Vl) : Mm Vl := mBnd (mPeek j) fun c => if isDc c then mBnd (mOps [ok, .ex mx]) fun ds => mBnd (mPeek j) fun c2 => mOpt (opGet (c2 :: ds)) else mStuck
theorem opdP2 (S : SR K Z σ H r) {ok : Opd} {mx : Mm Vl} {xs : List V} {ds : List Da} (h : OpdP K Z σ r [ok, .ex mx] xs ds) : ∃ y z a x, xs = [y, z] ∧ ds = [a, x] ∧ OpdR K Z H y a ∧ Rp K Z z x := by
  have key : ∃ y z a x, xs = [y, z] ∧ ds = [a, x] ∧ OpdP K Z σ r [ok] [y] [a] ∧ Rp K Z z x := by
    cases xs with
    | nil => cases ok <;> cases ds <;> exact h.elim
    | cons y xs =>
      cases ds with
      | nil => cases ok <;> exact h.elim
      | cons a ds =>
        have h2 : OpdP K Z σ r [ok] [y] [a] ∧ OpdP K Z σ r [.ex mx] xs ds := by
          cases ok <;> exact ⟨⟨h.1, trivial⟩, h.2⟩
        obtain ⟨h1, h2⟩ := h2
        cases xs with
        | nil => cases ds <;> exact h2.elim
        | cons z xs =>
          cases ds with
          | nil => exact h2.elim
          | cons x ds =>
            obtain ⟨h3, h4⟩ := h2
            cases xs with
            | nil =>
              cases ds with
              | nil => exact ⟨y, z, a, x, rfl, rfl, h1, h3⟩
              | cons _ _ => exact h4.elim
            | cons _ _ => cases ds <;> exact h4.elim
  obtain ⟨y, z, a, x, rfl, rfl, h1, h3⟩ := key
  refine ⟨y, z, a, x, rfl, rfl, ?_, h3⟩
  cases ok with
  | sl i =>
    obtain ⟨x2, e4, h4⟩ := S.peek h1.1.1
    rw [h1.1.2] at e4
    cases e4
    exact h4
  | ex m => exact .inl h1.1
theorem get_to {j : Nat} {Q : VK} {ok : Opd} {mx : Mm Vl} (q : rdE K R W (mGet j ok mx) σ H Q) : tDGet2 (tVar j) (tOpd K R W ok) (tOpd K R W (.ex mx)) σ H Q := by
  obtain ⟨Z, r, S, q⟩ := q
  have np : mPeek j r ≠ .stuck := fun z => by unfold mGet mBnd at q; rw [z] at q; exact q.elim
  obtain ⟨d0, e0, e1⟩ := mPeek_ok np
  obtain ⟨y, ey, hy⟩ := S.peek e0
  have q1 : Eo K R W Z σ H r ((if isDc d0 = true then mBnd (mOps [ok, .ex mx]) fun ds => mBnd (mPeek j) fun c2 => mOpt (opGet (c2 :: ds)) else mStuck) r) fun v r' Z' H' => ∀ x, TmpR K H r Z' σ H' r' x v → Q x H' := by
    unfold mGet at q; unfold mBnd at q; rw [e1] at q; exact q
  have il : isDc d0 = true := by
    by_cases c : isDc d0 = true
    · exact c
    · rw [if_neg c] at q1; exact q1.elim
  rw [if_pos il] at q1
  cases d0 <;> first | cases il | skip
  rename_i ds0
  obtain ⟨a, vs, e2, rd, _⟩ := OpdR.dic S.sub il hy
  subst e2
  refine ⟨.ref a, ey, a, rfl, .inl ⟨_, rd⟩, ?_⟩
  have key : tOpds K R W [ok, .ex mx] σ H fun xs H3 => ∃ k z, xs = [k, z] ∧ ∃ o, DGet H3 a k o ∧ Q (o.getD z) H3 := by
    refine opdsP [ok, .ex mx] S ((Eo.bnd q1).mono fun ds r1 Z1 H1 S1 F1 k xs hx => ?_)
    have np1 : mPeek j r1 ≠ .stuck := fun z => by unfold mBnd at k; rw [z] at k; exact k.elim
    obtain ⟨d1, f0, f1⟩ := mPeek_ok np1
    obtain ⟨y1, ey1, hy1⟩ := S1.peek f0
    rw [ey] at ey1
    cases ey1
    have k1 : Eo K R W Z1 σ H1 r1 (mOpt (opGet (d1 :: ds)) r1) fun v r' Z' H' => ∀ x, TmpR K H r Z' σ H' r' x v → Q x H' := by
      unfold mBnd at k; rw [f1] at k; exact k
    cases eg : opGet (d1 :: ds) with
    | none => rw [eg] at k1; exact k1.elim
    | some v =>
      rw [eg] at k1
      have k2 : ∀ x, TmpR K H r Z1 σ H1 r1 x v → Q x H1 := fun x hx => k1 Z1 H1 S1 Fr.refl x hx
      obtain ⟨y1, z1, a1, x1, rfl, rfl, hx1, hx2⟩ := opdP2 S1 hx
      cases d1 <;> first | cases eg | skip
      rename_i l
      have eg : (match kOf a1 with
        | some k => if keyed l then (match getDd l k with
          | some d => some (Vl.val d)
          | none => some (.val x1)) else none
        | none => none) = some v := eg
      cases hk : kOf a1 with
      | none => rw [hk] at eg; cases eg
      | some kk =>
        rw [hk] at eg
        dsimp only at eg
        by_cases hd : keyed l = true
        · rw [if_pos hd] at eg
          obtain ⟨b, vs1, e3, rd1, kv⟩ := OpdR.dic S1.sub hd hy1
          cases e3
          have ek := kOf_rp hk hx1
          cases eg2 : getDd l kk with
          | some d =>
            rw [eg2] at eg
            cases eg
            obtain ⟨w, ew, rw'⟩ := kv.get kk d eg2
            exact ⟨_, _, rfl, some w, .inl ⟨vs1, kk, rd1, ek, ew.symm⟩, k2 w rw'⟩
          | none =>
            rw [eg2] at eg
            cases eg
            exact ⟨_, _, rfl, none, .inl ⟨vs1, kk, rd1, ek, (kv.get0 kk eg2).symm⟩, k2 z1 hx2⟩
        · rw [if_neg hd] at eg; cases eg
  exact opd2 key fun x y H h => by obtain ⟨k, z, e, h⟩ := h; cases e; exact h
end
end Mi

set_option maxHeartbeats 1000000
namespace Mi
open PySem PySem.Spec PyProof.Rows L2

/-! ## the small semantics of the given syntax -/
abbrev Fn := List Vl → CRes
/-- error classes without an own __init__, by name; which is which -/
structure ExT where
  cls : Str → Bool
  sub : Str → Str → Bool
  fld : Str → Option Str
def ExT.known (ex : ExT) (x : Str) : Bool := ex.cls x || (ex.fld x).isSome
/-- raise -/
def mRaise (c : Str) (d : Da) : Mm Fl := fun r => .exc ⟨c, d⟩ r
/-- raise X(e), X keeping one field -/
def mRaiseF (c : Str) (m : Mm Vl) : Mm Fl := mBnd (mFz m) fun d => mRaise c d
/-- what a clause gives back: its parts -/
inductive HA where
  | c (d : Da)
  | arg
  | shown (s : Str)
inductive HE where
  | one (h : HA)
  | tup (hs : List HA)
structure Hd where
  y : Str
  sl : Option Nat
  e : HE
def HA.isC : HA → Bool
  | .c _ => true
  | _ => false
def HA.val (a : Da) : HA → Option Da
  | .c d => some d
  | .arg => some a
  | .shown s => match opRepr [a] with
    | some (.val (.str t)) => if s.length + t.length ≤ 16777216 then some (.str (s ++ t)) else none
    | _ => none
def HA.all (a : Da) : List HA → Option (List Da)
  | [] => some []
  | h :: hs => match h.val a, HA.all a hs with
    | some d, some ds => some (d :: ds)
    | _, _ => none
def HE.val (a : Da) : HE → Option Da
  | .one h => h.val a
  | .tup hs => match HA.all a hs with
    | some ds => some (.tuple ds)
    | none => none
def HE.isC : HE → Bool
  | .one h => h.isC
  | .tup hs => hs.all HA.isC
def Hd.fits (h : Hd) (n : Nat) : Bool := match h.sl with
  | some i => decide (i < n)
  | none => true
def Hd.out (h : Hd) (e : Ex) (n : Nat) : Option Da := if h.fits n && (h.e.isC || decide (e.cls = h.y)) then h.e.val e.arg else none
/-- the first fitting clause -/
def pickH (ex : ExT) (c : Str) : List Hd → Option Hd
  | [] => none
  | h :: hs => if ex.sub c h.y then some h else pickH ex c hs
def mTryC (ex : ExT) (hs : List Hd) (b : Mm Fl) : Mm Fl := fun r => match b r with
  | .ok f r' => .ok f r'
  | .stuck => .stuck
  | .exc e r' => match pickH ex e.cls hs with
    | some h => (match h.out e r'.length with
      | some d => .ok (.rt (.val d)) r'
      | none => .stuck)
    | none => .exc e r'
/-- a def that runs what it got: call() | return call() | return (t, call()), its clauses, what it gives back behind -/
inductive WB where
  | drop
  | ret
  | tag (d : Da)
structure Wd where
  b : WB
  hs : List Hd
  n : Nat
  k : Da
def mWord (ex : ExT) (w : Wd) (m : Mm Vl) : Mm Vl := fun r => match mFz m r with
  | .ok d r' => (match w.b with
    | .drop => .ok (.val w.k) r'
    | .ret => .ok (.val d) r'
    | .tag t => .ok (.val (.tuple [t, d])) r')
  | .exc e r' => (match pickH ex e.cls w.hs with
    | some h => (match h.out e w.n with
      | some d => .ok (.val d) r'
      | none => .stuck)
    | none => .stuck)
  | .stuck => .stuck
/-- a word within a word: what no clause takes goes on -/
def mWordP (ex : ExT) (w : Wd) (m : Mm Vl) : Mm Vl := fun r => match mFz m r with
  | .ok d r' => (match w.b with
    | .drop => .ok (.val w.k) r'
    | .ret => .ok (.val d) r'
    | .tag t => .ok (.val (.tuple [t, d])) r')
  | .exc e r' => (match pickH ex e.cls w.hs with
    | some h => (match h.out e w.n with
      | some d => .ok (.val d) r'
      | none => .stuck)
    | none => .exc e r')
  | .stuck => .stuck
/-! texts joined -/
def strsD : List Da → Option (List Str)
  | [] => some []
  | .str s :: ds => (strsD ds).map (s :: ·)
  | _ => none
def opJoin (a : Str) : List Da → Option Vl
  | [.list ds] => match strsD ds with
    | some ys => if (ys.map (·.length)).sum + ys.length * a.length ≤ 16777216 then some (.val (.str (Txt.join a ys))) else none
    | none => none
  | _ => none
/-! a dict of one written pair -/
def keyOf : Const → Option Key
  | .int i => some (.inl i)
  | .str s => some (.inr s)
  | _ => none
def mDct1 (k : Key) (d : Da) : Mm Vl := mRet (.own (.dict [(keyD k, d)]))
def opAddI : List Da → Option Vl
  | [.int a, .int b] => some (.val (.int (a + b)))
  | _ => none
def augF : Operator → Option (List Da → Option Vl)
  | .Add => some opAddI
  | .Sub => some opSub
  | _ => none
def noPars (p : Arguments) : Bool := p.posonlyargs.isEmpty && p.args.isEmpty && p.vararg.isNone && p.kwonlyargs.isEmpty && p.kw_defaults.isEmpty && p.kwarg.isNone && p.defaults.isEmpty
structure Cfg where
  N : List Str
  cst : Str → Option Da
  fns : Str → Option (List Bool × Fn)
  blt : Str → Bool
  ex : ExT
  lam : Bool
  wd : Str → Option Wd
  wd2 : Str → Option (Wd × Wd)
def okN (x : Str) : Bool := !(x == ("__debug__" : Str)) && !(x == ("__classdict__" : Str)) && !decide (x = "__name__")
def visB (sc : Scope) (x : Str) : Bool := match sc.names.lookup x with
  | some .local => true
  | some .cell => true
  | some .free => true
  | _ => false
def locB (sc : Scope) (x : Str) : Bool := match sc.names.lookup x with
  | some .local => true
  | some .cell => true
  | _ => false
def gloB (sc : Scope) (x : Str) : Bool := match sc.names.lookup x with
  | some .globalImplicit => true
  | _ => false
def lcB (sc : Scope) (x : Str) : Bool := match sc.names.lookup x with
  | some .local => true
  | _ => false
def idx : List Str → Str → Option Nat
  | [], _ => none
  | y :: ys, x => if y == x then some 0 else (idx ys x).map (· + 1)
theorem idx_get : ∀ {N : List Str} {x : Str} {i : Nat}, idx N x = some i → N[i]? = some x
  | [], _, _, h => by cases h
  | y :: ys, x, i, h => by
    unfold idx at h
    by_cases c : (y == x) = true
    · rw [if_pos c] at h
      cases h
      simp [eq_of_beq c]
    · rw [if_neg c] at h
      cases e : idx ys x with
      | none => rw [e] at h; cases h
      | some j => rw [e] at h; cases h; simpa using idx_get e
def slotV (C : Cfg) (sc : Scope) (x : Str) : Option Nat := if visB sc x && okN x then idx C.N x else none
def slotL (C : Cfg) (sc : Scope) (x : Str) : Option Nat := if locB sc x then idx C.N x else none
/-- a builtin by its own name -/
def bltB (C : Cfg) (sc : Scope) (x : Str) : Bool := gloB sc x && okN x && C.blt x
def constD : Const → Option Da
  | .none => some .none
  | .bool b => some (.bool b)
  | .int i => some (.int i)
  | .str s => some (.str s)
  | _ => none
def binF : Operator → Option (List Da → Option Vl)
  | .Add => some opAdd
  | .Sub => some opSub
  | .Mult => some opMul
  | .FloorDiv => some opDiv
  | .Mod => some opMod
  | .Pow => some opPow
  | _ => none
def cmpF : CmpOp → Option (List Da → Option Vl)
  | .Lt => some opLt
  | .LtE => some opLe
  | .Gt => some opGt
  | .GtE => some opGe
  | .Eq => some opEq
  | .NotEq => some opNe
  | .Is => some opIs
  | .IsNot => some opIsNot
  | .In => some opIn
  | .NotIn => some opNotIn
def chF : CmpOp → Option (List Da → Option Vl)
  | .Lt => some opLt
  | .LtE => some opLe
  | _ => none
def sF (t : String) (x : Str) : Bool := x == Str.ofString t
/-- builtins of values -/
def fnF (x : Str) : Option (List Da → Option Vl) :=
  if sF "abs" x then some opAbs else if sF "len" x then some opLen else if sF "max" x then some opMax else if sF "min" x then some opMin else
  if sF "int" x then some opInt else if sF "str" x then some opStr else if sF "list" x then some opList else if sF "tuple" x then some opTuple else
  if sF "sum" x then some opSum else if sF "all" x then some opAll else if sF "any" x then some opAny else if sF "repr" x then some opRepr else if sF "sorted" x then some opSorted else none
def tyF (x : Str) : Option String :=
  if sF "int" x then some "int" else if sF "bool" x then some "bool" else if sF "str" x then some "str" else if sF "list" x then some "list" else if sF "tuple" x then some "tuple" else if sF "dict" x then some "dict" else none
def plainT : Expr → Bool
  | .Name _ _ => true
  | .Call _ _ _ _ => true
  | .Constant _ _ _ => true
  | .Subscript _ _ _ => true
  | _ => false
/-- range(a) -/
def rangeArg : Expr → Option (Str × Expr)
  | .Call (.Name y _) [a] [] _ => if sF "range" y && notStar a then some (y, a) else none
  | _ => none
def rangeOf : List Expr → Option (Str × Expr)
  | [e] => rangeArg e
  | _ => none
def isComp : Expr → Bool
  | .ListComp _ _ _ _ => true
  | .SetComp _ _ _ _ => true
  | .DictComp _ _ _ _ _ => true
  | _ => false
def isTupE : Expr → Bool
  | .Tuple _ _ _ => true
  | _ => false
def isRev : Expr → Bool
  | .Slice none none (some (.UnaryOp .USub (.Constant (.int 1) _ _) _)) _ => true
  | _ => false
def isSl : Expr → Bool
  | .Slice _ _ _ _ => true
  | _ => false
/-! dicts of the module -/
def keyIs (z : Str) : Da × Da → Bool
  | (.str s, _) => s == z
  | _ => false
def dctOf (C : Cfg) (sc : Scope) : Expr → Option (List (Da × Da))
  | .Name x _ => if gloB sc x && okN x then (match C.cst x with
    | some (.dict ps) => some ps
    | _ => none) else none
  | _ => none
def opKIn (ps : List (Da × Da)) : List Da → Option Vl
  | [.str z] => some (.val (.bool (ps.find? (keyIs z)).isSome))
  | _ => none
def opKNi (ps : List (Da × Da)) : List Da → Option Vl
  | [.str z] => some (.val (.bool (!(ps.find? (keyIs z)).isSome)))
  | _ => none
def opKIx (ps : List (Da × Da)) : List Da → Option Vl
  | [.str z] => match ps.find? (keyIs z) with
    | some q => some (.val q.2)
    | none => none
  | _ => none
def cmpK (ps : List (Da × Da)) : CmpOp → Option (List Da → Option Vl)
  | .In => some (opKIn ps)
  | .NotIn => some (opKNi ps)
  | _ => none
/-- constants but dicts -/
def plainD : Da → Bool
  | .dict _ => false
  | _ => true
mutual
def semTg (C : Cfg) (sc : Scope) : Nat → Expr → Option Tg
  | 0, _ => none
  | n + 1, e => match e with
    | .Name x _ => (slotL C sc x).map .nm
    | .Tuple es _ _ => (semTgs C sc n es).map .tp
    | _ => none
def semTgs (C : Cfg) (sc : Scope) : Nat → List Expr → Option (List Tg)
  | 0, _ => none
  | n + 1, es => match es with
    | [] => some []
    | e :: es => match semTg C sc n e, semTgs C sc n es with
      | some t, some ts => some (t :: ts)
      | _, _ => none
end
def ownB (N : List Str) (sc : Scope) : List (Str × Nat) := sc.names.filterMap fun (x, k) => match k with
  | .local => (idx N x).map fun i => (x, i)
  | .cell => (idx N x).map fun i => (x, i)
  | _ => none
def sOpd (C : Cfg) (sc : Scope) (f : Expr → Mm Vl) (e : Expr) : Opd := match e with
  | .Name x _ => match slotV C sc x with
    | some i => .sl i
    | none => .ex (f e)
  | _ => .ex (f e)
def sFlag : List Bool → List Opd → List (Bool × Opd)
  | b :: bs, o :: os => (b, o) :: sFlag bs os
  | _, _ => []
/-- a slot's def, called -/
def fnOf : Da → Option Str
  | .dict [(.list [], .str x)] => some x
  | _ => none
theorem fnOf_eq {d : Da} {x : Str} (h : fnOf d = some x) : d = fnD x := by
  unfold fnOf at h
  split at h
  · cases h; rfl
  · cases h
def mCallV (i : Nat) (tab : Str → Option (List Bool × Fn)) (os : List Opd) : Mm Vl := fun r => match gt r i with
  | some (.val d) => (match fnOf d with
    | some y => (match tab y with
      | some (fl, F) => if fl.length == os.length then mCall F (sFlag fl os) r else .stuck
      | none => .stuck)
    | none => .stuck)
  | _ => .stuck
mutual
def semE : Cfg → Nat → Scope → Expr → Mm Vl
  | _, 0, _, _ => mStuck
  | C, n + 1, sc, e => match e with
    | .Constant c _ _ => match constD c with
      | some d => mC d
      | none => mStuck
    | .Name x _ => match slotV C sc x with
      | some i => mVar i
      | none => if gloB sc x && okN x then (match C.cst x with
        | some d => if plainD d then mC d else mStuck
        | none => if (C.fns x).isSome then mC (fnD x) else mStuck) else mStuck
    | .BinOp a op b _ => match binF op with
      | some f => mOp f [sOpd C sc (semE C n sc) a, sOpd C sc (semE C n sc) b]
      | none => mStuck
    | .UnaryOp .USub a _ => mOp opNeg [sOpd C sc (semE C n sc) a]
    | .UnaryOp .Not a _ => mNot (semE C n sc a)
    | .Compare a [op] [b] _ => if behindInMarks op b then mStuck else match dctOf C sc b with
      | some ps => (match cmpK ps op with
        | some f => mOp f [sOpd C sc (semE C n sc) a]
        | none => mStuck)
      | none => match cmpF op with
      | some f => mOp f [sOpd C sc (semE C n sc) a, sOpd C sc (semE C n sc) b]
      | none => mStuck
    | .Compare a [op, op'] [b, c] _ => if behindInMarks op b || behindInMarks op' c then mStuck else match chF op, chF op' with
      | some f, some g => mChain f g (sOpd C sc (semE C n sc) a) (sOpd C sc (semE C n sc) b) (sOpd C sc (semE C n sc) c)
      | _, _ => mStuck
    | .Compare a [op, op', op''] [b, c, d] _ => if behindInMarks op'' d then mStuck else match chF op, chF op', chF op'' with
      | some f, some g, some h => mChain3 f g h (sOpd C sc (semE C n sc) a) (sOpd C sc (semE C n sc) b) (sOpd C sc (semE C n sc) c) (sOpd C sc (semE C n sc) d)
      | _, _, _ => mStuck
    | .BoolOp .And [a] _ => semE C n sc a
    | .BoolOp .And (a :: b :: es) p => mAnd (semE C n sc a) (semE C n sc (.BoolOp .And (b :: es) p))
    | .BoolOp .Or [a] _ => semE C n sc a
    | .BoolOp .Or (a :: b :: es) p => mOr (semE C n sc a) (semE C n sc (.BoolOp .Or (b :: es) p))
    | .IfExp c a b _ => mIf (semT C n sc c) (semE C n sc a) (semE C n sc b)
    | .Tuple es _ _ => if es.all notStar && decide (es.length ≤ 100000) then mTup (es.map (semE C n sc)) else mStuck
    | .List es _ => if es.all notStar && decide (es.length ≤ 100000) then mLst (es.map (semE C n sc)) else mStuck
    | .Dict [] [] _ => mDct0
    | .Dict [some (.Constant kc _ _)] [.Constant vc _ _] _ => match keyOf kc, constD vc with
      | some k, some d => mDct1 k d
      | _, _ => mStuck
    | .Subscript a (.Slice none none none _) _ => mOp (opSl none none) [sOpd C sc (semE C n sc) a]
    | .Subscript a (.Slice (some b) none none _) _ => mOp opSlL [sOpd C sc (semE C n sc) a, sOpd C sc (semE C n sc) b]
    | .Subscript a (.Slice none (some b) none _) _ => mOp opSlH [sOpd C sc (semE C n sc) a, sOpd C sc (semE C n sc) b]
    | .Subscript a (.Slice (some b) (some c) none _) _ => mOp opSlLH [sOpd C sc (semE C n sc) a, .ex (mInt (semE C n sc b)), sOpd C sc (semE C n sc) c]
    | .Subscript a (.Slice none none (some (.UnaryOp .USub (.Constant (.int 1) _ _) _)) _) _ => mOp opRev [sOpd C sc (semE C n sc) a]
    | .Subscript a b _ => if isSl b then mStuck else match dctOf C sc a with
      | some ps => mOp (opKIx ps) [sOpd C sc (semE C n sc) b]
      | none => mOp opItem [sOpd C sc (semE C n sc) a, sOpd C sc (semE C n sc) b]
    | .Call (.Name x _) [.Lambda ps b sc' _] [] _ => if C.lam && gloB sc x && okN x && noPars ps && LamX.lamSB sc sc' then (match C.wd x with
      | some w => mWord C.ex w (semE { C with lam := false } n sc' b)
      | none => (match C.wd2 x with
        | some (w2, w1) => mWord C.ex w2 (mWordP C.ex w1 (semE { C with lam := false } n sc' b))
        | none => mStuck)) else mStuck
    | .Call (.Name x _) args [] _ => if gloB sc x && okN x then (match C.fns x with
      | some (fl, F) => if args.all notStar && fl.length == args.length then mCall F (sFlag fl (args.map (sOpd C sc (semE C n sc)))) else mStuck
      | none => if C.blt x then semB C n sc x args else mStuck) else (match slotV C sc x with
        | some i => if args.all notStar && !args.isEmpty then mCallV i C.fns (args.map (sOpd C sc (semE C n sc))) else mStuck
        | none => mStuck)
    | .Call (.Attribute (.Name x _) nm ap) args [] cp => match slotV C sc x with
      | some j => if ap.endLine == cp.line then (match args with
        | [] => if sF "pop" nm then mMeth j [] popD else if sF "clear" nm then mMeth j [] clearD else mStuck
        | [a] => if notStar a then (if sF "append" nm then mApp j (semE C n sc a) else if sF "pop" nm then mMeth j [sOpd C sc (semE C n sc) a] popD else if sF "extend" nm then mMeth j [sOpd C sc (semE C n sc) a] extD else mStuck) else mStuck
        | [a, b] => if notStar a && notStar b && sF "get" nm then mGet j (sOpd C sc (semE C n sc) a) (semE C n sc b) else mStuck
        | _ => mStuck) else mStuck
      | none => mStuck
    | .Call (.Attribute (.Constant (.str s) _ _) nm ap) [a] [] cp => if ap.endLine == cp.line && sF "join" nm && notStar a then mOp (opJoin s) [sOpd C sc (semE C n sc) a] else mStuck
    | .ListComp elt [⟨tg, it, ifs, 0⟩] sc' _ => if blkC C.N sc sc' (ownB C.N sc') && notSet it then (match semTg C sc' n tg, semI C n sc tg it with
      | some t, some (f, os) => if tgIn ((ownB C.N sc').map (·.2)) t then (match ifs with
        | [] => mLc ((ownB C.N sc').map (·.2)) t f os (mRet true) (semE C n sc' elt)
        | [c] => mLc ((ownB C.N sc').map (·.2)) t f os (semT C n sc' c) (semE C n sc' elt)
        | _ => mStuck) else mStuck
      | _, _ => mStuck) else mStuck
    | _ => mStuck
def semB : Cfg → Nat → Scope → Str → List Expr → Mm Vl
  | _, 0, _, _, _ => mStuck
  | C, n + 1, sc, x, args => if sF "isinstance" x then (match args with
    | [a, .Name tn _] => if notStar a && bltB C sc tn then (match tyF tn with
      | some T => mOp (opIsi T) [sOpd C sc (semE C n sc) a]
      | none => mStuck) else mStuck
    | _ => mStuck) else if sF "list" x && (rangeOf args).isSome then (match rangeOf args with
    | some (y, a) => if bltB C sc y && (C.fns y).isNone then mOp opLRange [sOpd C sc (semE C n sc) a] else mStuck
    | none => mStuck) else match fnF x with
    | some f => match args with
      | [] => mStuck
      | _ => if args.all notStar then mOp f (args.map (sOpd C sc (semE C n sc))) else mStuck
    | none => mStuck
def semT : Cfg → Nat → Scope → Expr → Mm Bool
  | _, 0, _, _ => mStuck
  | C, n + 1, sc, e => match e with
    | .UnaryOp .Not a _ => mNotT (semT C n sc a)
    | .BoolOp .And [a] _ => semT C n sc a
    | .BoolOp .And (a :: b :: es) p => mAndT (semT C n sc a) (semT C n sc (.BoolOp .And (b :: es) p))
    | .BoolOp .Or [a] _ => semT C n sc a
    | .BoolOp .Or (a :: b :: es) p => mOrT (semT C n sc a) (semT C n sc (.BoolOp .Or (b :: es) p))
    | .Compare a [op] [b] _ => if behindInMarks op b then mStuck else match dctOf C sc b with
      | some ps => (match cmpK ps op with
        | some f => mTest (mOp f [sOpd C sc (semE C n sc) a])
        | none => mStuck)
      | none => match cmpF op with
      | some f => mTest (mOp f [sOpd C sc (semE C n sc) a, sOpd C sc (semE C n sc) b])
      | none => mStuck
    | .Compare a [op, op'] [b, c] _ => if behindInMarks op b || behindInMarks op' c then mStuck else match chF op, chF op' with
      | some f, some g => mTest (mChain f g (sOpd C sc (semE C n sc) a) (sOpd C sc (semE C n sc) b) (sOpd C sc (semE C n sc) c))
      | _, _ => mStuck
    | .Compare a [op, op', op''] [b, c, d] _ => if behindInMarks op'' d then mStuck else match chF op, chF op', chF op'' with
      | some f, some g, some h => mTest (mChain3 f g h (sOpd C sc (semE C n sc) a) (sOpd C sc (semE C n sc) b) (sOpd C sc (semE C n sc) c) (sOpd C sc (semE C n sc) d))
      | _, _, _ => mStuck
    | .IfExp c a b _ => mIf (semT C n sc c) (semT C n sc a) (semT C n sc b)
    | e => if plainT e then mTest (semE C n sc e) else mStuck
def semI : Cfg → Nat → Scope → Expr → Expr → Option ((List Da → Option (List Da)) × List Opd)
  | _, 0, _, _, _ => none
  | C, n + 1, sc, tg, e => match e with
    | .Call (.Name x _) args [] _ => if bltB C sc x && (C.fns x).isNone && args.all notStar then (
        if sF "range" x then (match args with
          | [_] => some (itRange, args.map (sOpd C sc (semE C n sc)))
          | [_, _] => some (itRange, args.map (sOpd C sc (semE C n sc)))
          | [_, _, _] => some (itRange, args.map (sOpd C sc (semE C n sc)))
          | _ => none)
        else if sF "zip" x then (match args with
          | [a0, b0] => if isTupE tg then (match rangeArg a0 with
            | some (y, a) => if bltB C sc y && (C.fns y).isNone then some (itZipR, [.ex (mInt (semE C n sc a)), sOpd C sc (semE C n sc) b0]) else none
            | none => some (itZip, args.map (sOpd C sc (semE C n sc)))) else none
          | _ => none)
        else if sF "enumerate" x then (match args with
          | [_] => if isTupE tg then some (itEnum, args.map (sOpd C sc (semE C n sc))) else none
          | _ => none)
        else some (itAny, [sOpd C sc (semE C n sc) e])) else some (itAny, [sOpd C sc (semE C n sc) e])
    | _ => some (itAny, [sOpd C sc (semE C n sc) e])
end
end Mi
namespace Mi
open PySem PySem.Spec PyProof.Rows L2
def lcNames : List Expr → Option (List Str)
  | [] => some []
  | .Name x _ :: es => (lcNames es).map (x :: ·)
  | _ => none
def lineAll (l : Nat) : List Expr → Bool
  | [] => true
  | e :: es => e.pos.line == l && lineAll l es
/-- a, b = x, y is stored from the right -/
def swapB (sc : Scope) (ts es : List Expr) : Bool := match ts with
  | [.Name x p, .Name y q] => x != y && lcB sc x && lcB sc y && p.line == q.line && es.length == 2 && es.all notStar && !(es.all (foldedForSure 8)) && !(es.all (constantsAlone 8))
  | [.Name x p, .Name y q, .Name z w] => x != y && x != z && y != z && lcB sc x && lcB sc y && lcB sc z && p.line == q.line && p.line == w.line && es.length == 3 && es.all notStar && !(es.all (foldedForSure 8)) && !(es.all (constantsAlone 8))
  | _ => false
def nmsOf : List Tg → Option (List Nat)
  | [] => some []
  | .nm i :: ts => (nmsOf ts).map (i :: ·)
  | _ => none
/-- stored from the left: too many names, or one that others see, too -/
def cellB (sc : Scope) : Expr → Bool
  | .Name x _ => match sc.names.lookup x with
    | some .cell => true
    | _ => false
  | _ => false
def unSwapB (sc : Scope) (ts es : List Expr) : Bool := es.all notStar && decide (es.length ≤ 100000) && ((!(ts.length == 2) && !(ts.length == 3)) || ts.any (cellB sc))
def noSwapB (ts es : List Expr) : Bool := es.all (foldedForSure 8) && es.all notStar
def slots (C : Cfg) (sc : Scope) : List Expr → Option (List Nat)
  | [] => some []
  | .Name x _ :: es => match slotL C sc x, slots C sc es with
    | some i, some is => some (i :: is)
    | _, _ => none
  | _ => none
def parA (C : Cfg) (sc : Scope) (nf : Option (Str × Str)) : Expr → Option HA
  | .Constant c _ _ => match constD c with
    | some d => some (.c d)
    | none => none
  | .Attribute (.Name x _) g _ => match nf with
    | some (n, f) => if x == n && g == f then some .arg else none
    | none => none
  | .BinOp (.Constant (.str s) _ _) .Add (.Call (.Name rp _) [.Attribute (.Name x _) g _] [] _) _ => match nf with
    | some (n, f) => if sF "repr" rp && bltB C sc rp && x == n && g == f then some (.shown s) else none
    | none => none
  | _ => none
def parAs (C : Cfg) (sc : Scope) (nf : Option (Str × Str)) : List Expr → Option (List HA)
  | [] => some []
  | e :: es => match parA C sc nf e, parAs C sc nf es with
    | some h, some l => some (h :: l)
    | _, _ => none
def parE (C : Cfg) (sc : Scope) (nf : Option (Str × Str)) (e : Expr) : Option HE := match e with
  | .Tuple es _ _ => if es.length ≤ 1000 then (match parAs C sc nf es with
    | some l => some (.tup l)
    | none => none) else none
  | e => match parA C sc nf e with
    | some h => some (.one h)
    | none => none
/-- except X: return e, except X as n: return e -/
def semHs (C : Cfg) (sc : Scope) : List ExceptHandler → Option (List Hd)
  | [] => some []
  | .ExceptHandler (some (.Name x _)) none [.Return (some e) _] _ :: hs => match parE C sc none e, semHs C sc hs with
    | some h, some l => if gloB sc x && okN x && C.ex.known x then some (⟨x, none, h⟩ :: l) else none
    | _, _ => none
  | .ExceptHandler (some (.Name x _)) (some n) [.Return (some e) _] _ :: hs => match C.ex.fld x, idx C.N n, semHs C sc hs with
    | some f, some i, some l => (match parE C sc (some (n, f)) e with
      | some h => if gloB sc x && okN x && lcB sc n && okN n then some (⟨x, some i, h⟩ :: l) else none
      | none => none)
    | _, _, _ => none
  | _ => none
/-- what is known within a word -/
def wCfg (N : List Str) (blt : Str → Bool) (ex : ExT) : Cfg := ⟨N, fun _ => none, fun _ => none, blt, ex, false, fun _ => none, fun _ => none⟩
/-- a def as a word -/
def wbOf (C : Cfg) (sc : Scope) : List Stmt → Option WB
  | [.Expr (.Call (.Name a _) [] [] _) _] => if C.N.head? == some a && visB sc a && okN a then some .drop else none
  | [.Return (some (.Call (.Name a _) [] [] _)) _] => if C.N.head? == some a && visB sc a && okN a then some .ret else none
  | [.Return (some (.Tuple [.Constant c _ _, .Call (.Name a _) [] [] _] _ _)) _] => if C.N.head? == some a && visB sc a && okN a then (constD c).map .tag else none
  | _ => none
def wkOf : List Stmt → Option Da
  | [] => some .none
  | [.Return (some (.Constant c _ _)) _] => constD c
  | _ => none
def wdOf (C : Cfg) (sc : Scope) : List Stmt → Option Wd
  | .Try b (h :: hs) [] [] _ :: rest => match wbOf C sc b, semHs C sc (h :: hs), wkOf rest with
    | some wb, some l, some k => some ⟨wb, l, C.N.length, k⟩
    | _, _, _ => none
  | _ => none
/-- a word that hands what it got to another word -/
def wdOf2 (C : Cfg) (sc : Scope) : List Stmt → Option (Str × Wd)
  | [.Try [.Return (some (.Call (.Name y _) [.Name a _] [] _)) _] (h :: hs) [] [] _] => if C.N.head? == some a && visB sc a && okN a && gloB sc y && okN y then (match semHs C sc (h :: hs) with
    | some l => some (y, ⟨.ret, l, C.N.length, .none⟩)
    | none => none) else none
  | _ => none
mutual
noncomputable def semS (C : Cfg) (m : Nat) (sc : Scope) : Nat → Stmt → Mm Fl
  | 0, _ => mStuck
  | n + 1, st => match st with
    | .Pass _ => mRet .nx
    | .Break _ => mRet .brk
    | .Continue _ => mRet .cnt
    | .Return none _ => mRet (.rt (.val .none))
    | .Return (some (.Name x p)) _ => match slotV C sc x with
      | some i => mRt (mMove i)
      | none => mRt (semE C m sc (.Name x p))
    | .Return (some e) _ => mRt (semE C m sc e)
    | .Expr e _ => if isComp e then mStuck else mDrop (semE C m sc e)
    | .If c a b _ => mIf (semT C m sc c) (semSs C m sc n a) (semSs C m sc n b)
    | .While c b [] _ => mWhile (semT C m sc c) (semSs C m sc n b)
    | .For tg it b [] _ => if notSet it then (match semTg C sc m tg, semI C m sc tg it with
      | some t, some (f, os) => mFor t f os (semSs C m sc n b)
      | _, _ => mStuck) else mStuck
    | .Assign [.Name x _] e _ => match slotL C sc x with
      | some i => mAsg i (semE C m sc e)
      | none => mStuck
    | .Assign [.Tuple ts kt pt] (.Tuple es k p) _ => if swapB sc ts es then (match slots C sc ts with
      | some is => mPar is (es.map (semE C m sc))
      | none => mStuck) else if noSwapB ts es then (match semTg C sc m (.Tuple ts kt pt) with
      | some t => mAsgT t (semE C m sc (.Tuple es k p))
      | none => mStuck) else if unSwapB sc ts es then (match semTg C sc m (.Tuple ts kt pt) with
      | some (.tp tl) => (match nmsOf tl with
        | some is => mPar is (es.map (semE C m sc))
        | none => mStuck)
      | _ => mStuck) else mStuck
    | .Assign [.Tuple ts k p] e _ => if isComp e || isTupE e then mStuck else match semTg C sc m (.Tuple ts k p) with
      | some t => mAsgT t (semE C m sc e)
      | none => mStuck
    | .Assign [.Subscript (.Name x _) ix _] e _ => if isSl ix then mStuck else match slotV C sc x with
      | some j => mPut j (sOpd C sc (semE C m sc) ix) (semE C m sc e)
      | none => mStuck
    | .AugAssign (.Name x _) op e _ => match slotL C sc x, augF op with
      | some i, some f => if isComp e then mStuck else mAsg i (mOp f [.sl i, sOpd C sc (semE C m sc) e])
      | _, _ => mStuck
    | .Raise (some (.Call (.Name x _) [.Constant (.str _) _ _] [] _)) none _ => if gloB sc x && okN x && C.ex.cls x then mRaise x .none else mStuck
    | .Raise (some (.Call (.Name x _) [e] [] _)) none _ => if gloB sc x && okN x && (C.ex.fld x).isSome && notStar e then mRaiseF x (semE C m sc e) else mStuck
    | .Try b (h :: hs) [] [] _ => match semHs C sc (h :: hs) with
      | some l => mTryC C.ex l (semSs C m sc n b)
      | none => mStuck
    | _ => mStuck
noncomputable def semSs (C : Cfg) (m : Nat) (sc : Scope) : Nat → List Stmt → Mm Fl
  | 0, _ => mStuck
  | n + 1, sts => match sts with
    | [] => mRet .nx
    | s :: ss => mSeq (semS C m sc n s) (semSs C m sc n ss)
end
example (C : Cfg) (sc : Scope) (p : Pos) : semE C 3 sc (.Constant (.int 5) 0 p) = mC (.int 5) := rfl
end Mi

set_option maxHeartbeats 1000000
namespace Mi
open PySem PySem.Spec PyProof.Rows L2

/-! ## soundness of it -/
/-- an error class x that keeps a field f, and how its errors lie -/
def FldX (prog : Program) (K : PySem.W.Frag) (mg : Str → Option Value) (R : XR) (x f : Str) : Prop := ∃ (C fI : Addr) (B newId i : String) (bmB : List Value), PySem.MiX.BaseX B newId i bmB ∧ PySem.MiX.KtTxt prog K x f C fI B newId i bmB ∧
  mg x = some (.ref C) ∧ mg "super" = none ∧ XfC K C ∧ PySem.W.findIn K (.ref C) f = some none ∧ (∀ (Z H : Hp) (dd : Addr) (w : V) (arg : Da), Z dd = some (.xd [(f, w)]) → Rp K Z w arg → R Z H (.ref C) (some dd) ⟨x, arg⟩) ∧
  (∀ (Z H : Hp) (cls : Value) (dd : Option Addr) (arg : Da), R Z H cls dd ⟨x, arg⟩ → cls = .ref C ∧ ∃ d0 w, dd = some d0 ∧ Z d0 = some (.xd [(f, w)]) ∧ Rp K Z w arg)
/-- a def that runs what it gets -/
def WordOk (C : Cfg) (K : PySem.W.Frag) (mg : Str → Option Value) (x : Str) (w : Wd) : Prop := ∃ (pg : Arguments) (bg : List Stmt) (sg : Scope) (N : List Str) (a : Str) (g : Addr) (fd : FuncData), mg x = some (.ref g) ∧ PySem.W.keepIn K (.ref g) = true ∧ FunD K x x pg bg sg [] [] g fd ∧ L2.Binds K fd [a] [] ∧
  FnScope N [a] sg ∧ N[0]? = some a ∧ wdOf (wCfg N C.blt C.ex) sg bg = some w
/-- a word that hands on to another -/
def Word2Ok (C : Cfg) (K : PySem.W.Frag) (mg : Str → Option Value) (x : Str) (w2 w1 : Wd) : Prop := ∃ (pg : Arguments) (bg : List Stmt) (sg : Scope) (N : List Str) (a : Str) (g : Addr) (fd : FuncData) (y : Str), mg x = some (.ref g) ∧ PySem.W.keepIn K (.ref g) = true ∧ FunD K x x pg bg sg [] [] g fd ∧ L2.Binds K fd [a] [] ∧
  FnScope N [a] sg ∧ N[0]? = some a ∧ wdOf2 (wCfg N C.blt C.ex) sg bg = some (y, w2) ∧ WordOk C K mg y w1
/-- a dict of the module, its keys texts -/
def DctK (K : PySem.W.Frag) (w : World) (mg : Str → Option Value) (x : Str) (ps : List (Da × Da)) : Prop := ∃ (p : Addr) (es : Array DictEntry) (n : Nat), mg x = some (.ref p) ∧ KDict K w p es n ∧ ∀ z : Str, match ps.find? (keyIs z) with
  | some q => ∃ v u, PySem.W.nsIn K p z = some (some u) ∧ RelV v u ∧ ∀ Z, Rp K Z v q.2
  | none => PySem.W.nsIn K p z = some none
structure Good (C : Cfg) (R : XR) (W : WX) (sc : Scope) (X : Cx) : Prop where
  N : X.N = C.N
  nd : C.N.Nodup
  calm : X.calm = true
  gs : X.A.guards = some []
  un : X.A.units + 70 < cLine
  tk : Takes X W
  nm : ∀ x k, sc.names.lookup x = some k → X.env.scope.names.lookup x = some k ∨ (k = .free ∧ X.env.scope.names.lookup x = some .cell)
  fn : ∀ x, sc.names.lookup x = some .cell → X.fn x = true
  cst : ∀ x d, C.cst x = some d → plainD d = true → ∃ v u, X.mg x = some u ∧ RelV v u ∧ ∀ Z, Rp X.K Z v d
  dct : ∀ x ps, C.cst x = some (.dict ps) → DctK X.K X.w X.mg x ps
  fns : ∀ x fl F, C.fns x = some (fl, F) → ∃ f fd ps k, X.mg x = some (.ref f) ∧ PySem.W.keepIn X.K (.ref f) = true ∧ FnG X.prog X.w X.K X.mg X.base k f fd ps (spF X.K R fl.length F) ∧ Room k X.A ∧ (C.lam = true → Room (k + 3) X.A) ∧ Binds X.K fd ps []
  gad : ∀ x fl F, C.fns x = some (fl, F) → X.mg x = some (.ref (He.ga X.K x))
  blt : ∀ x, C.blt x = true → X.mg x = none
  ex1 : ∀ x, C.ex.cls x = true → ∃ c : Addr, X.mg x = some (.ref c) ∧ PySem.W.excIn X.K c [.type "ValueError", .type "Exception", .type "BaseException", .type "object"] "ValueError.__new__" = true ∧ PySem.W.keepIn X.K (.ref c) = true ∧ PySem.W.subIn X.K (.ref c) (.type "BaseException") = some true ∧
    PySem.W.typeIn X.K (.ref c) = some (.type "type") ∧ ∀ Z H, R Z H (.ref c) none ⟨x, .none⟩
  ex2 : ∀ Z H v d e y c, R Z H v d e → C.ex.known y = true → X.mg y = some (.ref c) → PySem.W.exmOne X.K v (.ref c) = some (C.ex.sub e.cls y)
  ex3 : ∀ x f, C.ex.fld x = some f → FldX X.prog X.K X.mg R x f
  rm : ∃ k, Room k X.A
  lam : C.lam = true → ∃ c P, X.env.code = .ref c ∧ LamX.TabB X.base X.mg c P ∧ (P, X.env.qual ++ "<lambda>") ∈ tabs X.K ∧ (∀ p ∈ tabs X.K, p.1 = P → p.2 = X.env.qual ++ "<lambda>") ∧ Room 3 X.A
  wd : C.lam = true → ∀ x w, C.wd x = some w → WordOk C X.K X.mg x w
  wd2 : C.lam = true → ∀ x w2 w1, C.wd2 x = some (w2, w1) → Word2Ok C X.K X.mg x w2 w1

section
variable {C : Cfg} {R : XR} {W : WX} {sc : Scope} {X : Cx} {x : Str} {i : Nat} {p : Pos} {e : Expr} {es : List Expr}
theorem okN_d (h : okN x = true) : (x == ("__debug__" : Str)) = false ∧ (x == ("__classdict__" : Str)) = false ∧ x ≠ "__name__" := by
  unfold okN at h
  simpa only [Bool.and_eq_true, Bool.not_eq_true', decide_eq_false_iff_not, and_assoc] using h
theorem Good.vis (G : Good C R W sc X) (h : visB sc x = true) : Vis X.env.scope x := by
  unfold visB at h
  cases e : sc.names.lookup x with
  | none => rw [e] at h; cases h
  | some k =>
    rw [e] at h
    rcases G.nm x k e with q | ⟨rfl, q⟩
    · cases k <;> first | exact .inl q | exact .inr (.inl q) | exact .inr (.inr q) | cases h
    · exact .inr (.inl q)
theorem Good.loc (G : Good C R W sc X) (h : locB sc x = true) : Loc X.env.scope x ∧ (X.fn x = true ∨ X.env.scope.names.lookup x = some .local) := by
  unfold locB at h
  cases e : sc.names.lookup x with
  | none => rw [e] at h; cases h
  | some k =>
    rw [e] at h
    rcases G.nm x k e with q | ⟨rfl, q⟩
    · cases k with
      | «local» => exact ⟨.inl q, .inr q⟩
      | cell => exact ⟨.inr q, .inl (G.fn x e)⟩
      | _ => cases h
    · cases h
theorem Good.glo (G : Good C R W sc X) (h : gloB sc x = true) : Gl X x := by
  unfold gloB at h
  cases e : sc.names.lookup x with
  | none => rw [e] at h; cases h
  | some k =>
    rw [e] at h
    rcases G.nm x k e with q | ⟨rfl, q⟩
    · cases k <;> first | exact q | cases h
    · cases h
theorem Good.var (G : Good C R W sc X) (h : slotV C sc x = some i) : PE X (.Name x p) (tVar i) := by
  unfold slotV at h
  by_cases c : (visB sc x && okN x) = true
  · rw [if_pos c] at h
    rw [Bool.and_eq_true] at c
    have := okN_d c.2
    exact pe_var (by rw [G.N]; exact idx_get h) (G.vis c.1) this.1 this.2.1
  · rw [if_neg c] at h; cases h
theorem Good.opd (G : Good C R W sc X) {f : Expr → Mm Vl} (h : PE X e (rdE X.K R W (f e))) : OpdX X X.K R W e (sOpd C sc f e) := by
  unfold sOpd
  split
  · rename_i y q
    split
    · rename_i i ei
      exact G.var ei
    · exact h
  · exact h
theorem Good.opx (G : Good C R W sc X) {f : Expr → Mm Vl} (h : ∀ e, PE X e (rdE X.K R W (f e))) : ∀ {es : List Expr}, es.all notStar = true → OpX X R W es (es.map (sOpd C sc f))
  | [], _ => .nil
  | e :: es, hn => by
    rw [List.all_cons, Bool.and_eq_true] at hn
    exact .cons hn.1 (G.opd (h e)) (G.opx h hn.2)
theorem Good.exx (G : Good C R W sc X) {f : Expr → Mm Vl} (h : ∀ e, PE X e (rdE X.K R W (f e))) : ∀ {es : List Expr}, es.all notStar = true → ExX X R W es (es.map f)
  | [], _ => .nil
  | e :: es, hn => by
    rw [List.all_cons, Bool.and_eq_true] at hn
    exact .cons hn.1 (h e) (G.exx h hn.2)
theorem Good.args (G : Good C R W sc X) {f : Expr → Mm Vl} (h : ∀ e, PE X e (rdE X.K R W (f e))) : ∀ {es : List Expr} {fl : List Bool}, es.all notStar = true → fl.length = es.length → PA X es (tArgs X.K R W (sFlag fl (es.map (sOpd C sc f)))) ∧ (sFlag fl (es.map (sOpd C sc f))).length = fl.length
  | [], [], _, _ => ⟨pa_nil, rfl⟩
  | [], _ :: _, _, e => by cases e
  | _ :: _, [], _, e => by cases e
  | e :: es, b :: fl, hn, hl => by
    rw [List.all_cons, Bool.and_eq_true] at hn
    obtain ⟨h1, h2⟩ := Good.args G h (es := es) (fl := fl) hn.2 (by simpa using hl)
    have h0 := G.opd (h e)
    refine ⟨?_, by simp [sFlag, h2]⟩
    have hp : PE X e (tArg X.K R W (b, sOpd C sc f e)) := by
      cases eo : sOpd C sc f e with
      | sl i => rw [eo] at h0; exact h0
      | ex m =>
        rw [eo] at h0
        cases b with
        | true => exact h0
        | false => exact rdV_of h0
    exact pa_cons hp h1 (starEach_cons hn.1 _ _)
theorem Good.blt' (G : Good C R W sc X) (h : bltB C sc x = true) : Gl X x ∧ X.mg x = none ∧ okN x = true := by
  unfold bltB at h
  rw [Bool.and_eq_true, Bool.and_eq_true] at h
  exact ⟨G.glo h.1.1, G.blt x h.2, h.1.2⟩
theorem sF_eq {t : String} (h : sF t x = true) : x = Str.ofString t := eq_of_beq h
theorem const_pe {c : Const} {d : Da} {k : Nat} (h : constD c = some d) : PE X (.Constant c k p) (rdE X.K R W (mC d)) := by
  cases c <;> first | cases h | skip
  · exact pe_mC pe_non fun _ => .non
  · exact pe_mC pe_bl fun _ => .bl _
  · exact pe_mC pe_int fun _ => .int _
  · exact pe_mC pe_str fun _ => .str _
section
variable {a b : Expr} {oa : Opd} {ps : List (Da × Da)}
theorem dct_ok (G : Good C R W sc X) (h : dctOf C sc b = some ps) : ∃ (p : Addr) (es : Array DictEntry) (n : Nat), PE X b (tC (.ref p)) ∧ KDict X.K X.w p es n ∧ ∀ z : Str, match ps.find? (keyIs z) with
    | some q => ∃ v u, PySem.W.nsIn X.K p z = some (some u) ∧ RelV v u ∧ ∀ Z, Rp X.K Z v q.2
    | none => PySem.W.nsIn X.K p z = some none := by
  unfold dctOf at h
  split at h
  · split at h
    · rename_i x p hc
      rw [Bool.and_eq_true] at hc
      split at h
      · rename_i e
        cases h
        obtain ⟨p, es, n, hm, D, q⟩ := G.dct _ _ e
        exact ⟨p, es, n, pe_glob (v := .ref p) (G.glo hc.1) hm rfl (okN_d hc.2).1, D, q⟩
      · cases h
    · cases h
  · cases h
theorem dct_some {K : PySem.W.Frag} {p : Addr} (q : ∀ z : Str, match ps.find? (keyIs z) with
    | some q => ∃ v u, PySem.W.nsIn K p z = some (some u) ∧ RelV v u ∧ ∀ Z, Rp K Z v q.2
    | none => PySem.W.nsIn K p z = some none) (z : Str) : ∃ r : Option Value, PySem.W.nsIn K p z = some r ∧ r.isSome = (ps.find? (keyIs z)).isSome := by
  have := q z
  cases e : ps.find? (keyIs z) with
  | none => rw [e] at this; exact ⟨none, this, rfl⟩
  | some d => rw [e] at this; obtain ⟨v, u, h1, _⟩ := this; exact ⟨some u, h1, rfl⟩
theorem testE_to {K : PySem.W.Frag} {m : Mm Vl} {σ : L2.St} {H : Hp} {Q : Bool → Hp → Prop} (h : rdT K R W (mTest m) σ H Q) : rdE K R W m σ H fun x H' => ∃ k, x = .bl k ∧ Q k H' := by
  obtain ⟨Z, r, S, h⟩ := h
  refine ⟨Z, r, S, ?_⟩
  have h1 := Eo.fz (Eo.bnd h)
  refine h1.mono fun v r' Z' H' S' F' q x tx => ?_
  obtain ⟨d, Z2, S2, F2, rx, q2⟩ := q x tx
  obtain ⟨k, hk, q3⟩ := Eo.opt S2 q2
  have e := truth_bool hk
  subst e
  cases rx
  exact ⟨k, rfl, q3⟩
theorem cmpK_of {op : CmpOp} {f : List Da → Option Vl} {r : V → Hp → VK → Prop} {pp : Addr} {rr : R2} (ho : OpR X (compareOp op) rr) (hs : OpS X.K f (at1 r)) (hr : ∀ x H Q, r x H Q → rr x (.ref pp) H Q) (ha : OpdX X X.K R W a oa) (hbe : PE X b (tC (.ref pp))) (hm : behindInMarks op b = false) :
    PE X (.Compare a [op] [b] p) (rdE X.K R W (mOp f [oa])) ∧ PT X (.Compare a [op] [b] p) (rdT X.K R W (mTest (mOp f [oa]))) :=
  ⟨PE.to (pe_cmpR ho ha.pe hbe hm) fun σ H Q q => opd1 (mOp_to hs q) fun x H h => hr _ _ _ (at1_use h),
    PT.to (pt_cmpR ho ha.pe hbe hm) fun σ H Q q => opd1 (mOp_to hs (testE_to q)) fun x H h => hr _ _ _ (at1_use h)⟩
theorem cmpK_pe (G : Good C R W sc X) {op : CmpOp} {f : List Da → Option Vl} (h : cmpK ps op = some f) (ha : OpdX X X.K R W a oa) (hb : dctOf C sc b = some ps) (hm : behindInMarks op b = false) :
    PE X (.Compare a [op] [b] p) (rdE X.K R W (mOp f [oa])) ∧ PT X (.Compare a [op] [b] p) (rdT X.K R W (mTest (mOp f [oa]))) := by
  obtain ⟨pp, es, n, hbe, D, q⟩ := dct_ok G hb
  cases op <;> cases h
  · refine cmpK_of (r := fun x H Q => ∃ (z : Str) (r : Option Value), x = .str z ∧ PySem.W.nsIn X.K pp z = some r ∧ Q (.bl r.isSome) H) (op_in_kd D) ?_ (fun x H Q ⟨z, r, h1, h2, h3⟩ => ⟨z, r, h1, rfl, h2, h3⟩) ha hbe hm
    intro xs ds v Z H Q hz ha hf hq
    unfold opKIn at hf
    split at hf
    · rename_i z
      cases hf
      obtain ⟨x, rfl, h1⟩ := all1 ha
      obtain ⟨r, e1, e2⟩ := dct_some q z
      exact ⟨x, rfl, z, r, h1.str, e1, by rw [e2]; exact give hz hq (.bl _)⟩
    · cases hf
  · refine cmpK_of (r := fun x H Q => ∃ (z : Str) (r : Option Value), x = .str z ∧ PySem.W.nsIn X.K pp z = some r ∧ Q (.bl (!r.isSome)) H) (op_notIn_kd D) ?_ (fun x H Q ⟨z, r, h1, h2, h3⟩ => ⟨z, r, h1, rfl, h2, h3⟩) ha hbe hm
    intro xs ds v Z H Q hz ha hf hq
    unfold opKNi at hf
    split at hf
    · rename_i z
      cases hf
      obtain ⟨x, rfl, h1⟩ := all1 ha
      obtain ⟨r, e1, e2⟩ := dct_some q z
      exact ⟨x, rfl, z, r, h1.str, e1, by rw [e2]; exact give hz hq (.bl _)⟩
    · cases hf
theorem ixK_pe (G : Good C R W sc X) (ha : OpdX X X.K R W a oa) (hb : dctOf C sc b = some ps) (hp : PlainIx a) : PE X (.Subscript b a p) (rdE X.K R W (mOp (opKIx ps) [oa])) := by
  obtain ⟨pp, es, n, hbe, D, q⟩ := dct_ok G hb
  have hs : OpS X.K (opKIx ps) (at1 fun x H Q => rIxD X.K X.w (.ref pp) x H Q) := by
    intro xs ds v Z H Q hz ha hf hq
    unfold opKIx at hf
    split at hf
    · rename_i z
      split at hf
      · rename_i d e
        cases hf
        obtain ⟨x, rfl, h1⟩ := all1 ha
        have k := q z
        rw [e] at k
        obtain ⟨v, u, e1, e2, e3⟩ := k
        exact ⟨x, rfl, pp, z, v, rfl, h1.str, ⟨es, n, u, D.at_, D.lit, e1, e2⟩, give hz hq (e3 _)⟩
      · cases hf
    · cases hf
  exact PE.to (pe_ix ix_kdict hbe ha.pe hp) fun σ H Q q => opd1 (mOp_to hs q) fun x H h => at1_use h
end
theorem bin_pe {op : Operator} {f : List Da → Option Vl} {a b : Expr} {oa ob : Opd} (h : binF op = some f) (ha : OpdX X X.K R W a oa) (hb : OpdX X X.K R W b ob) : PE X (.BinOp a op b p) (rdE X.K R W (mOp f [oa, ob])) := by
  cases op <;> first | cases h | skip
  · exact pe_mBin op_addU opS_add ha hb
  · exact pe_mBin op_sub opS_sub ha hb
  · exact pe_mBin op_mulU opS_mul ha hb
  · exact pe_mBin op_modN opS_mod ha hb
  · exact pe_mBin op_powI opS_pow ha hb
  · exact pe_mBin op_divI opS_div ha hb
theorem cmp_pe (G : Good C R W sc X) {op : CmpOp} {f : List Da → Option Vl} {a b : Expr} {oa ob : Opd} (h : cmpF op = some f) (ha : OpdX X X.K R W a oa) (hb : OpdX X X.K R W b ob) (hm : behindInMarks op b = false) :
    PE X (.Compare a [op] [b] p) (rdE X.K R W (mOp f [oa, ob])) ∧ PT X (.Compare a [op] [b] p) (rdT X.K R W (mTest (mOp f [oa, ob]))) := by
  have u1 : X.A.units + 64 < cLine := by have := G.un; omega
  have u2 : X.A.units + 65 < cLine := by have := G.un; omega
  cases op <;> cases h
  · exact ⟨pe_mCmp (op_eqU u1) opS_eq ha hb hm, pt_mCmp (op_eqU u1) opS_eq ha hb hm⟩
  · exact ⟨pe_mCmp (op_neU u1) opS_ne ha hb hm, pt_mCmp (op_neU u1) opS_ne ha hb hm⟩
  · exact ⟨pe_mCmp op_lt opS_lt ha hb hm, pt_mCmp op_lt opS_lt ha hb hm⟩
  · exact ⟨pe_mCmp op_le opS_le ha hb hm, pt_mCmp op_le opS_le ha hb hm⟩
  · exact ⟨pe_mCmp op_gt opS_gt ha hb hm, pt_mCmp op_gt opS_gt ha hb hm⟩
  · exact ⟨pe_mCmp op_ge opS_ge ha hb hm, pt_mCmp op_ge opS_ge ha hb hm⟩
  · exact ⟨pe_mCmp op_isU opS_is ha hb hm, pt_mCmp op_isU opS_is ha hb hm⟩
  · exact ⟨pe_mCmp op_isNotU opS_isNot ha hb hm, pt_mCmp op_isNotU opS_isNot ha hb hm⟩
  · exact ⟨pe_mCmp (op_inU u2) opS_in ha hb hm, pt_mCmp (op_inU u2) opS_in ha hb hm⟩
  · exact ⟨pe_mCmp (op_notInU u2) opS_notIn ha hb hm, pt_mCmp (op_notInU u2) opS_notIn ha hb hm⟩
theorem ch_pe {op op' : CmpOp} {f g : List Da → Option Vl} {a b c : Expr} {oa ob oc : Opd} (h : chF op = some f) (h' : chF op' = some g) (ha : OpdX X X.K R W a oa) (hb : OpdX X X.K R W b ob) (hc : OpdX X X.K R W c oc) (hm : lastMarks [op, op'] [b, c] = false) :
    PE X (.Compare a [op, op'] [b, c] p) (rdE X.K R W (mChain f g oa ob oc)) ∧ PT X (.Compare a [op, op'] [b, c] p) (rdT X.K R W (mTest (mChain f g oa ob oc))) := by
  have blt : ∀ x y v, opLt [x, y] = some v → ∃ k, v = .val (.bool k) := fun x y v h => by
    unfold opLt at h; split at h <;> first | (cases h; exact ⟨_, rfl⟩) | cases h
  have ble : ∀ x y v, opLe [x, y] = some v → ∃ k, v = .val (.bool k) := fun x y v h => by
    unfold opLe at h; split at h <;> first | (cases h; exact ⟨_, rfl⟩) | cases h
  cases op <;> first | cases h | skip
  · cases op' <;> first | cases h' | skip
    · exact ⟨pe_mChain op_lt op_lt cmpOk_lt cmpOk_lt blt ha hb hc hm, pt_mChain op_lt op_lt cmpOk_lt cmpOk_lt blt ha hb hc hm⟩
    · exact ⟨pe_mChain op_lt op_le cmpOk_lt cmpOk_le ble ha hb hc hm, pt_mChain op_lt op_le cmpOk_lt cmpOk_le ble ha hb hc hm⟩
  · cases op' <;> first | cases h' | skip
    · exact ⟨pe_mChain op_le op_lt cmpOk_le cmpOk_lt blt ha hb hc hm, pt_mChain op_le op_lt cmpOk_le cmpOk_lt blt ha hb hc hm⟩
    · exact ⟨pe_mChain op_le op_le cmpOk_le cmpOk_le ble ha hb hc hm, pt_mChain op_le op_le cmpOk_le cmpOk_le ble ha hb hc hm⟩
theorem ch3_pe {op op' op'' : CmpOp} {f g h : List Da → Option Vl} {a b c d : Expr} {oa ob oc od : Opd} (h1 : chF op = some f) (h2 : chF op' = some g) (h3 : chF op'' = some h) (ha : OpdX X X.K R W a oa) (hb : OpdX X X.K R W b ob) (hc : OpdX X X.K R W c oc) (hd : OpdX X X.K R W d od)
    (hm : behindInMarks op'' d = false) :
    PE X (.Compare a [op, op', op''] [b, c, d] p) (rdE X.K R W (mChain3 f g h oa ob oc od)) ∧ PT X (.Compare a [op, op', op''] [b, c, d] p) (rdT X.K R W (mTest (mChain3 f g h oa ob oc od))) := by
  have blt : ∀ x y v, opLt [x, y] = some v → ∃ k, v = .val (.bool k) := fun x y v h => by
    unfold opLt at h; split at h <;> first | (cases h; exact ⟨_, rfl⟩) | cases h
  have ble : ∀ x y v, opLe [x, y] = some v → ∃ k, v = .val (.bool k) := fun x y v h => by
    unfold opLe at h; split at h <;> first | (cases h; exact ⟨_, rfl⟩) | cases h
  have key : ∀ (o : CmpOp) (f : List Da → Option Vl), chF o = some f → ∃ t : R2, OpR X (compareOp o) t ∧ CmpOk f t ∧ ∀ x y v, f [x, y] = some v → ∃ k, v = .val (.bool k) := fun o f h => by
    cases o <;> first | cases h | skip
    · exact ⟨_, op_lt, cmpOk_lt, blt⟩
    · exact ⟨_, op_le, cmpOk_le, ble⟩
  obtain ⟨t1, a1, a2, _⟩ := key _ _ h1
  obtain ⟨t2, b1, b2, _⟩ := key _ _ h2
  obtain ⟨t3, c1, c2, c3⟩ := key _ _ h3
  exact pe_mChain3 a1 b1 c1 a2 b2 c2 c3 ha hb hc hd hm
theorem fn_pe (G : Good C R W sc X) {f : List Da → Option Vl} {os : List Opd} {a : Expr} (hx : gloB sc x = true) (ho : okN x = true) (hm : X.mg x = none) (h : fnF x = some f) (hos : OpX X R W (a :: es) os) : PE X (.Call (.Name x p) (a :: es) [] pos) (rdE X.K R W (mOp f os)) := by
  have hg := G.glo hx
  obtain ⟨o1, _, o3⟩ := okN_d ho
  unfold fnF at h
  by_cases c : sF "abs" x = true
  · rw [if_pos c] at h; cases h; have := sF_eq c; subst this; exact pe_mFn call_abs opS_abs hg hm boot_abs hos o3 o1
  rw [if_neg c] at h; clear c
  by_cases c : sF "len" x = true
  · rw [if_pos c] at h; cases h; have := sF_eq c; subst this; exact pe_mFn call_lenU opS_len hg hm boot_len hos o3 o1
  rw [if_neg c] at h; clear c
  by_cases c : sF "max" x = true
  · rw [if_pos c] at h; cases h; have := sF_eq c; subst this; exact pe_mFn (call_maxU G.calm) opS_max hg hm boot_max hos o3 o1
  rw [if_neg c] at h; clear c
  by_cases c : sF "min" x = true
  · rw [if_pos c] at h; cases h; have := sF_eq c; subst this; exact pe_mFn (call_minU G.calm) opS_min hg hm boot_min hos o3 o1
  rw [if_neg c] at h; clear c
  by_cases c : sF "int" x = true
  · rw [if_pos c] at h; cases h; have := sF_eq c; subst this; exact pe_mTy call_int1 opS_int hg hm PyProof.Rows.boot_int hos o3 o1
  rw [if_neg c] at h; clear c
  by_cases c : sF "str" x = true
  · rw [if_pos c] at h; cases h; have := sF_eq c; subst this; exact pe_mTy call_strU opS_str hg hm PyProof.Rows.boot_str hos o3 o1
  rw [if_neg c] at h; clear c
  by_cases c : sF "list" x = true
  · rw [if_pos c] at h; cases h; have := sF_eq c; subst this; exact pe_mTy call_list_of opS_list hg hm PyProof.Rows.boot_list hos o3 o1
  rw [if_neg c] at h; clear c
  by_cases c : sF "tuple" x = true
  · rw [if_pos c] at h; cases h; have := sF_eq c; subst this; exact pe_mTy call_tuple_of opS_tuple hg hm PyProof.Rows.boot_tuple hos o3 o1
  rw [if_neg c] at h; clear c
  by_cases c : sF "sum" x = true
  · rw [if_pos c] at h; cases h; have := sF_eq c; subst this; exact pe_mFn (cr_sum G.calm) opS_sum hg hm boot_sum hos o3 o1
  rw [if_neg c] at h; clear c
  by_cases c : sF "all" x = true
  · rw [if_pos c] at h; cases h; have := sF_eq c; subst this; exact pe_mFn (cr_all G.calm) opS_all hg hm boot_all hos o3 o1
  rw [if_neg c] at h; clear c
  by_cases c : sF "any" x = true
  · rw [if_pos c] at h; cases h; have := sF_eq c; subst this; exact pe_mFn (cr_any G.calm) opS_any hg hm boot_any hos o3 o1
  rw [if_neg c] at h; clear c
  by_cases c : sF "repr" x = true
  · rw [if_pos c] at h; cases h; have := sF_eq c; subst this; exact pe_mFn (call_reprU G.gs G.un) opS_repr hg hm boot_repr hos o3 o1
  rw [if_neg c] at h; clear c
  by_cases c : sF "sorted" x = true
  · rw [if_pos c] at h; cases h; have := sF_eq c; subst this; exact pe_mFn (call_sortU G.calm) opS_sorted hg hm (show bootBuiltins ("sorted" : Str) = some (.builtin "sorted") by decide +kernel) hos o3 o1
  rw [if_neg c] at h; cases h
theorem ty_boot {T : String} (h : tyF x = some T) : T ∈ isTys ∧ bootBuiltins x = some (.type T) := by
  unfold tyF at h
  by_cases c : sF "int" x = true
  · rw [if_pos c] at h; cases h; have := sF_eq c; subst this; exact ⟨by decide, PyProof.Rows.boot_int⟩
  rw [if_neg c] at h; clear c
  by_cases c : sF "bool" x = true
  · rw [if_pos c] at h; cases h; have := sF_eq c; subst this; exact ⟨by decide, PyProof.Rows.boot_bool⟩
  rw [if_neg c] at h; clear c
  by_cases c : sF "str" x = true
  · rw [if_pos c] at h; cases h; have := sF_eq c; subst this; exact ⟨by decide, PyProof.Rows.boot_str⟩
  rw [if_neg c] at h; clear c
  by_cases c : sF "list" x = true
  · rw [if_pos c] at h; cases h; have := sF_eq c; subst this; exact ⟨by decide, PyProof.Rows.boot_list⟩
  rw [if_neg c] at h; clear c
  by_cases c : sF "tuple" x = true
  · rw [if_pos c] at h; cases h; have := sF_eq c; subst this; exact ⟨by decide, PyProof.Rows.boot_tuple⟩
  rw [if_neg c] at h; clear c
  by_cases c : sF "dict" x = true
  · rw [if_pos c] at h; cases h; have := sF_eq c; subst this; exact ⟨by decide, PyProof.Rows.boot_dict⟩
  rw [if_neg c] at h; cases h
end
end Mi

set_option maxHeartbeats 1000000
namespace Mi
open PySem PySem.Spec PyProof.Rows L2

section
variable {C : Cfg} {R : XR} {W : WX} {sc : Scope} {X : Cx} {x : Str} {i : Nat} {p pos : Pos} {e : Expr} {es : List Expr} {K : PySem.W.Frag} {Z H : Hp} {σ : L2.St} {r : Rho} {D : Ends} {m : Mm Vl}
theorem const_tc {X : Cx} {c : Const} {d : Da} {k : Nat} {p : Pos} (h : constD c = some d) : ∃ v, PE X (.Constant c k p) (tC v) ∧ ∀ K Z, Rp K Z v d := by
  cases c <;> first | cases h | skip
  · exact ⟨_, pe_non, fun _ _ => .non⟩
  · exact ⟨_, pe_bl, fun _ _ => .bl _⟩
  · exact ⟨_, pe_int, fun _ _ => .int _⟩
  · exact ⟨_, pe_str, fun _ _ => .str _⟩
theorem pa_to {X : Cx} {es : List Expr} {t t' : TA} (h : PA X es t) (f : ∀ σ H Q, t' σ H Q → t σ H Q) : PA X es t' := ⟨fun pos pins s σ H Q I q => h.run pos pins s σ H Q I (f σ H Q q)⟩
/-! what a clause gives back -/
def slA (i : Option Nat) (σ : L2.St) (a : Addr) : Prop := ∀ j, i = some j → σ[j]? = some (some (.ref a))
/-- the error that the suite looks at keeps arg -/
def Kept (K : PySem.W.Frag) (Z : Hp) (C : Addr) (f : Str) (cls : Value) (dd : Option Addr) (arg : Da) : Prop := cls = .ref C ∧ ∃ d0 w, dd = some d0 ∧ Z d0 = some (.xd [(f, w)]) ∧ Rp K Z w arg
def rhA (K : PySem.W.Frag) (nf : Option (Nat × Addr × Str)) (a : Addr) (cls : Value) (dd : Option Addr) (h : HA) : TE := fun σ H Q => ∃ Z arg d, Le Z H ∧ h.val arg = some d ∧
  (h.isC = true ∨ ∃ i C f, nf = some (i, C, f) ∧ σ[i]? = some (some (.ref a)) ∧ Kept K Z C f cls dd arg) ∧ ∀ x, Rp K Z x d → Q x H
def rhAs (K : PySem.W.Frag) (nf : Option (Nat × Addr × Str)) (a : Addr) (cls : Value) (dd : Option Addr) (hs : List HA) : TA := fun σ H Q => ∃ Z arg ds, Le Z H ∧ HA.all arg hs = some ds ∧
  (hs.all HA.isC = true ∨ ∃ i C f, nf = some (i, C, f) ∧ σ[i]? = some (some (.ref a)) ∧ Kept K Z C f cls dd arg) ∧ ∀ xs, RpAll K Z xs ds → Q xs H
def rdH (K : PySem.W.Frag) (nf : Option (Nat × Addr × Str)) (a : Addr) (cls : Value) (dd : Option Addr) (e : HE) : TE := fun σ H Q => ∃ Z arg d, Le Z H ∧ e.val arg = some d ∧
  (e.isC = true ∨ ∃ i C f, nf = some (i, C, f) ∧ σ[i]? = some (some (.ref a)) ∧ Kept K Z C f cls dd arg) ∧ ∀ Z' H', Ext Z H Z' H' → ∀ x, Rp K Z' x d → Q x H'
/-- the clause's name in its slot, its class at C, the field f -/
def NfOk (C : Cfg) (sc : Scope) (X : Cx) (n : Str) (i : Nat) (c : Addr) (f : Str) : Prop := idx C.N n = some i ∧ lcB sc n = true ∧ okN n = true ∧ XfC X.K c ∧ PySem.W.findIn X.K (.ref c) f = some none
def nfOf (nf : Option (Str × Nat × Addr × Str)) : Option (Str × Str) := nf.map fun p => (p.1, p.2.2.2)
def nfIx (nf : Option (Str × Nat × Addr × Str)) : Option (Nat × Addr × Str) := nf.map fun p => p.2
section
variable {a : Addr} {oe : Obj} {cls : Value} {dd : Option Addr} {pn : List (Addr × Obj)} {nf : Option (Str × Nat × Addr × Str)}
theorem attr_rd (G : Good C R W sc X) (hz : Zc cls dd oe) (hf : ∃ vs, oe.data = .fields vs) {n f : Str} {i : Nat} {c : Addr} (ok : NfOk C sc X n i c f) {p p' : Pos} :
    PE (X.suite a ((a, oe) :: pn)) (.Attribute (.Name n p) f p') (tXf a cls dd c f (tVar i)) := by
  obtain ⟨hi, hl, ho, xf, nf⟩ := ok
  have hv := G.vis (x := n) (by
    unfold lcB at hl
    unfold visB
    cases e : sc.names.lookup n with
    | none => rw [e] at hl; cases hl
    | some k => rw [e] at hl; cases k <;> first | rfl | cases hl)
  refine pe_xf xf nf hz hf ?_ (by rfl)
  exact pe_var (X := X.suite a ((a, oe) :: pn)) (by show X.N[i]? = some n; rw [G.N]; exact idx_get hi) hv (okN_d ho).1 (okN_d ho).2.1
theorem kept_to {K : PySem.W.Frag} {Z H : Hp} {σ : L2.St} {c : Addr} {f : Str} {i : Nat} {arg : Da} {Q : VK} (hz : Le Z H) (hs : σ[i]? = some (some (.ref a))) (k : Kept K Z c f cls dd arg) (q : ∀ w, Rp K Z w arg → Q w H) : tXf a cls dd c f (tVar i) σ H Q := by
  obtain ⟨hc, d0, w, e0, e1, e2⟩ := k
  exact ⟨.ref a, hs, rfl, hc, d0, _, w, e0, hz _ _ e1, by simp [List.lookup], q w e2⟩
theorem parA_pe (G : Good C R W sc X) (hz : Zc cls dd oe) (hf : ∃ vs, oe.data = .fields vs) (ok : ∀ n i c f, nf = some (n, i, c, f) → NfOk C sc X n i c f) {e : Expr} {h : HA} (hp : parA C sc (nfOf nf) e = some h) :
    PE (X.suite a ((a, oe) :: pn)) e (rhA X.K (nfIx nf) a cls dd h) := by
  unfold parA at hp
  split at hp
  · split at hp
    · rename_i d0 e1
      cases hp
      obtain ⟨v, hv, hr⟩ := const_tc (X := X.suite a ((a, oe) :: pn)) e1
      refine PE.to hv fun σ H Q q => ?_
      obtain ⟨Z, arg, d, hzl, e2, _, q⟩ := q
      cases e2
      exact q v (hr _ _)
    · cases hp
  · split at hp
    · rename_i n f e0
      split at hp
      · rename_i h
        simp only [Bool.and_eq_true, beq_iff_eq] at h
        obtain ⟨rfl, rfl⟩ := h
        cases hp
        obtain ⟨⟨n0, i, c, f0⟩, rfl, e1⟩ := Option.map_eq_some_iff.mp e0
        cases e1
        refine PE.to (attr_rd G hz hf (ok _ _ _ _ rfl)) fun σ H Q q => ?_
        obtain ⟨Z, arg, d, hzl, e2, e3, q⟩ := q
        cases e2
        rcases e3 with e3 | ⟨_, _, _, e4, e5, e6⟩
        · cases e3
        · cases e4
          exact kept_to hzl e5 e6 q
      · cases hp
    · cases hp
  · split at hp
    · rename_i n f e0
      split at hp
      · rename_i h
        simp only [Bool.and_eq_true, beq_iff_eq] at h
        obtain ⟨⟨⟨h1, h2⟩, rfl⟩, rfl⟩ := h
        cases hp
        obtain ⟨⟨n0, i, c, f0⟩, rfl, e1⟩ := Option.map_eq_some_iff.mp e0
        cases e1
        have := sF_eq h1
        subst this
        obtain ⟨g1, g2, g3⟩ := G.blt' h2
        refine PE.to (pe_op (X := X.suite a ((a, oe) :: pn)) op_add_str pe_str (pe_callB (X := X.suite a ((a, oe) :: pn)) (call_reprU G.gs G.un) g1 g2 boot_repr (pa_cons (attr_rd G hz hf (ok _ _ _ _ rfl)) pa_nil) (okN_d g3).2.2 (okN_d g3).1)) fun σ H Q q => ?_
        obtain ⟨Z, arg, d, hzl, e2, e3, q⟩ := q
        rcases e3 with e3 | ⟨_, _, _, e4, e5, e6⟩
        · cases e3
        · cases e4
          refine kept_to hzl e5 e6 fun w hw => ?_
          by_cases e8 : reprOk arg = true
          · have e7 : opRepr [arg] = some (.val (.str arg.shown)) := if_pos e8
            unfold HA.val at e2
            simp only [e7] at e2
            split at e2
            · rename_i e9
              cases e2
              exact ⟨w, arg, rfl, Rp.le hzl _ _ hw, e8, _, _, rfl, rfl, by rw [szL]; exact e9, q _ (.str _)⟩
            · cases e2
          · have e7 : opRepr [arg] = none := if_neg e8
            unfold HA.val at e2
            simp only [e7] at e2
            cases e2
      · cases hp
    · cases hp
  · cases hp
theorem parAs_pe (G : Good C R W sc X) (hz : Zc cls dd oe) (hf : ∃ vs, oe.data = .fields vs) (ok : ∀ n i c f, nf = some (n, i, c, f) → NfOk C sc X n i c f) : ∀ {es : List Expr} {hs : List HA}, parAs C sc (nfOf nf) es = some hs →
    PA (X.suite a ((a, oe) :: pn)) es (rhAs X.K (nfIx nf) a cls dd hs) ∧ es.length = hs.length
  | [], hs, h => by
    unfold parAs at h
    cases h
    refine ⟨pa_to pa_nil fun σ H Q q => ?_, rfl⟩
    obtain ⟨Z, arg, ds, hzl, e2, _, q⟩ := q
    cases e2
    exact q [] .nil
  | e :: es, hs, h => by
    unfold parAs at h
    split at h
    · rename_i h1 l e1 e2
      cases h
      obtain ⟨p1, l1⟩ := parAs_pe G hz hf ok e2
      have hns : notStar e = true := by
        cases e <;> first | rfl | (unfold parA at e1; cases e1)
      refine ⟨pa_to (pa_cons (parA_pe G hz hf ok e1) p1 (starEach_cons hns _ _)) fun σ H Q q => ?_, by rw [List.length_cons, l1]; rfl⟩
      obtain ⟨Z, arg, ds, hzl, e3, e4, q⟩ := q
      cases e5 : h1.val arg with
      | none => simp only [HA.all, e5] at e3; cases e3
      | some d =>
      cases e6 : HA.all arg l with
      | none => simp only [HA.all, e5, e6] at e3; cases e3
      | some ds' =>
        simp only [HA.all, e5, e6] at e3
        cases e3
        have c1 : h1.isC = true ∨ ∃ i C f, nfIx nf = some (i, C, f) ∧ σ[i]? = some (some (.ref a)) ∧ Kept X.K Z C f cls dd arg := e4.imp (fun z => by rw [List.all_cons, Bool.and_eq_true] at z; exact z.1) id
        have c2 : l.all HA.isC = true ∨ ∃ i C f, nfIx nf = some (i, C, f) ∧ σ[i]? = some (some (.ref a)) ∧ Kept X.K Z C f cls dd arg := e4.imp (fun z => by rw [List.all_cons, Bool.and_eq_true] at z; exact z.2) id
        exact ⟨Z, arg, d, hzl, e5, c1, fun x hx => ⟨Z, arg, ds', hzl, e6, c2, fun xs hxs => q (x :: xs) (.cons hx hxs)⟩⟩
    · cases h
theorem parE_pe (G : Good C R W sc X) (hz : Zc cls dd oe) (hf : ∃ vs, oe.data = .fields vs) (ok : ∀ n i c f, nf = some (n, i, c, f) → NfOk C sc X n i c f) {e : Expr} {h : HE} (hp : parE C sc (nfOf nf) e = some h) :
    PE (X.suite a ((a, oe) :: pn)) e (rdH X.K (nfIx nf) a cls dd h) := by
  unfold parE at hp
  split at hp
  · split at hp
    · rename_i hlen
      split at hp
      · rename_i l e1
        cases hp
        obtain ⟨p1, l1⟩ := parAs_pe (pn := pn) G hz hf ok e1
        refine PE.to (pe_tup p1) fun σ H Q q => ?_
        obtain ⟨Z, arg, d, hzl, e2, e3, q⟩ := q
        cases e4 : HA.all arg l with
        | none => simp only [HE.val, e4] at e2; cases e2
        | some ds =>
          simp only [HE.val, e4] at e2
          cases e2
          refine ⟨Z, arg, ds, hzl, e4, e3, fun xs hxs => ⟨?_, fun p hp => ?_⟩⟩
          · have : ∀ {hs : List HA} {ds : List Da}, HA.all arg hs = some ds → ds.length = hs.length := by
              intro hs
              induction hs with
              | nil => intro ds h; cases h; rfl
              | cons a as ih =>
                intro ds h
                cases e5 : a.val arg with
                | none => simp only [HA.all, e5] at h; cases h
                | some d =>
                  cases e6 : HA.all arg as with
                  | none => simp only [HA.all, e5, e6] at h; cases h
                  | some ds' =>
                    simp only [HA.all, e5, e6] at h
                    cases h
                    rw [List.length_cons, ih e6]
                    rfl
            rw [szL, hxs.length, this e4, ← l1]
            omega
          · have E := Ext.frz (o := .tup xs) hzl hp
            exact q _ _ E (.ref p) (.tup (.inl (.inl upd_same)) (RpAll.le E.zm _ _ hxs))
      · cases hp
    · cases hp
  · split at hp
    · rename_i h1 e1
      cases hp
      refine PE.to (parA_pe G hz hf ok e1) fun σ H Q q => ?_
      obtain ⟨Z, arg, d, hzl, e2, e3, q⟩ := q
      exact ⟨Z, arg, d, hzl, e2, e3, fun x hx => q Z H (Ext.refl hzl) x hx⟩
    · cases hp
end
theorem parA_isC {e : Expr} {h : HA} (hp : parA C sc none e = some h) : h.isC = true := by
  unfold parA at hp
  split at hp
  · split at hp
    · cases hp; rfl
    · cases hp
  · cases hp
  · cases hp
  · cases hp
theorem parAs_isC : ∀ {es : List Expr} {hs : List HA}, parAs C sc none es = some hs → hs.all HA.isC = true
  | [], hs, h => by unfold parAs at h; cases h; rfl
  | e :: es, hs, h => by
    unfold parAs at h
    split at h
    · rename_i e1 e2
      cases h
      rw [List.all_cons, parA_isC e1, parAs_isC e2]; rfl
    · cases h
theorem parE_isC {e : Expr} {h : HE} (hp : parE C sc none e = some h) : h.isC = true := by
  unfold parE at hp
  split at hp
  · split at hp
    · split at hp
      · rename_i e1; cases hp; exact parAs_isC e1
      · cases hp
    · cases hp
  · split at hp
    · rename_i e1; cases hp; exact parA_isC e1
    · cases hp
/-- the clauses and what they give -/
inductive HL (X : Cx) (C : Cfg) (R : XR) : List Hd → List Cl → Prop
  | nil : HL X C R [] []
  | pl {h : Hd} {c : Addr} {l : List Hd} {lt : List Cl} (e : h.e.isC = true) (hk : C.ex.known h.y = true) (hm : X.mg h.y = some (.ref c)) (r : HL X C R l lt) : HL X C R (h :: l) (.pl (.ref c) (fun a cls dd => tRet (rdH X.K none a cls dd h.e)) :: lt)
  | nm {h : Hd} {i : Nat} {c : Addr} {f : Str} {l : List Hd} {lt : List Cl} (e : h.sl = some i) (hf : C.ex.fld h.y = some f) (hm : X.mg h.y = some (.ref c))
      (hK : ∀ Z H cls dd arg, R Z H cls dd ⟨h.y, arg⟩ → Kept X.K Z c f cls dd arg) (r : HL X C R l lt) : HL X C R (h :: l) (.nm (.ref c) i (fun a cls dd => tRet (rdH X.K (some (i, c, f)) a cls dd h.e)) :: lt)
theorem Good.known (G : Good C R W sc X) {x : Str} (h : C.ex.known x = true) : ∃ c, X.mg x = some (.ref c) := by
  unfold ExT.known at h
  rw [Bool.or_eq_true] at h
  rcases h with h | h
  · obtain ⟨c, gC, _⟩ := G.ex1 x h
    exact ⟨c, gC⟩
  · obtain ⟨f, hf⟩ := Option.isSome_iff_exists.mp h
    obtain ⟨c, _, _, _, _, _, _, _, gC, _⟩ := G.ex3 x f hf
    exact ⟨c, gC⟩
theorem hds_ok (G : Good C R W sc X) : ∀ {hds : List ExceptHandler} {l : List Hd}, semHs C sc hds = some l → ∃ lt, HdsA X hds lt ∧ HL X C R l lt
  | [], l, h => by
    unfold semHs at h; cases h
    exact ⟨[], .nil, .nil⟩
  | hd :: hds, l, h => by
    unfold semHs at h
    split at h
    · rename_i he; cases he
    · rename_i x p e p2 p3 hs he
      cases he
      split at h
      · rename_i d l' e1 e2
        split at h
        · rename_i hc
          simp only [Bool.and_eq_true] at hc
          cases h
          obtain ⟨lt, h1, h2⟩ := hds_ok G e2
          obtain ⟨c, gC⟩ := G.known hc.2
          exact ⟨_, .pl (c := .ref c) ⟨G.glo hc.1.1, (okN_d hc.1.2).1, .inl gC⟩ (fun a oe cls dd pn hz hf => pss_one (ps_ret (parE_pe (nf := none) G hz hf (fun _ _ _ _ z => by cases z) e1))) h1, .pl (parE_isC e1) hc.2 gC h2⟩
        · cases h
      · cases h
    · rename_i x p n e p2 p3 hs he
      cases he
      split at h
      · rename_i f i l' e0 e1 e2
        split at h
        · rename_i d e3
          split at h
          · rename_i hc
            simp only [Bool.and_eq_true] at hc
            cases h
            obtain ⟨lt, h1, h2⟩ := hds_ok G e2
            obtain ⟨c, fI, B, nid, ii, bmB, BX, T, gC, gs, xf, nof, _, hK⟩ := G.ex3 x f e0
            have hln : X.env.kindOf n = some .local := by
              have hl := hc.1.2
              unfold lcB at hl
              cases e : sc.names.lookup n with
              | none => rw [e] at hl; cases hl
              | some k =>
                rw [e] at hl
                cases k <;> first | cases hl | skip
                rcases G.nm n _ e with q | ⟨z, q⟩
                · exact q
                · cases z
            refine ⟨_, .nm (c := .ref c) (i := i) ⟨G.glo hc.1.1.1, (okN_d hc.1.1.2).1, .inl gC⟩ (by rw [G.N]; exact idx_get e1) hln (fun a oe cls dd pn hz hf => pss_one (ps_ret (parE_pe (nf := some (n, i, c, f)) G hz hf (fun n' i' c' f' z => ?_) e3))) h1, .nm rfl e0 gC (fun Z H cls dd arg hR => hK Z H cls dd arg hR) h2⟩
            cases z
            exact ⟨e1, hc.1.2, hc.2, xf, nof⟩
          · cases h
        · cases h
      · cases h
    · cases h
theorem hl_to (G : Good C R W sc X) {e : Ex} {Z' H' : Hp} {σ' : L2.St} {r' : Rho} {cls : Value} {dd : Option Addr} (hR : R Z' H' cls dd e) (S : SR X.K Z' σ' H' r') (D : Ends) : ∀ {l : List Hd} {lt : List Cl}, HL X C R l lt →
    (match pickH C.ex e.cls l with
      | some h => (match h.out e r'.length with
        | some d => ∀ σ2 Z2 H2, SR X.K Z2 σ2 H2 r' → Fr Z' σ' H' r' Z2 σ2 H2 r' → ∀ x, Rp X.K Z2 x d → D.rt x H2
        | none => False)
      | none => W cls dd σ' H') → wManyA X.K W D lt cls dd σ' H'
  | _, _, .nil, q => q
  | _, _, .pl (h := h) e0 hk gC r, q => by
    refine ⟨C.ex.sub e.cls h.y, G.ex2 _ _ _ _ _ _ _ hR hk gC, fun hb a ha => ?_, fun hb => ?_⟩
    · unfold pickH at q
      rw [if_pos hb] at q
      dsimp only at q
      cases eo : h.out e r'.length with
      | none => rw [eo] at q; exact q.elim
      | some d =>
      rw [eo] at q
      unfold Hd.out at eo
      split at eo
      · rename_i ho
        simp only [Bool.and_eq_true, Bool.or_eq_true, decide_eq_true_eq] at ho
        have hc : h.e.isC = true := e0
        exact ⟨Z', e.arg, d, S.sub, eo, .inl hc, fun Z2 H2 E x hx => q σ' Z2 H2 (E.sr S) E.fr x hx⟩
      · cases eo
    · unfold pickH at q
      rw [if_neg (by rw [hb]; exact Bool.false_ne_true)] at q
      exact hl_to G hR S D r q
  | _, _, .nm (h := h) (i := i) e0 hf gC hK r, q => by
    have hk : C.ex.known h.y = true := by unfold ExT.known; rw [hf]; simp
    refine ⟨C.ex.sub e.cls h.y, G.ex2 _ _ _ _ _ _ _ hR hk gC, fun hb a ha => ?_, fun hb => ?_⟩
    · unfold pickH at q
      rw [if_pos hb] at q
      dsimp only at q
      cases eo : h.out e r'.length with
      | none => rw [eo] at q; exact q.elim
      | some d =>
      rw [eo] at q
      unfold Hd.out at eo
      split at eo
      · rename_i ho
        simp only [Bool.and_eq_true, Bool.or_eq_true, decide_eq_true_eq] at ho
        obtain ⟨ho1, ho2⟩ := ho
        have hlt : i < σ'.length := by
          unfold Hd.fits at ho1
          rw [e0] at ho1
          rw [← S.len]
          simpa using ho1
        refine ⟨Z', e.arg, d, S.sub, eo, ?_, fun Z2 H2 E x hx => q σ' Z2 H2 (E.sr S) E.fr x hx⟩
        rcases ho2 with ho2 | ho2
        · exact .inl ho2
        · refine .inr ⟨_, _, _, rfl, by rw [List.getElem?_set_self hlt], hK Z' H' cls dd e.arg ?_⟩
          rw [← ho2]
          exact hR
      · cases eo
    · unfold pickH at q
      rw [if_neg (by rw [hb]; exact Bool.false_ne_true)] at q
      exact hl_to G hR S D r q
end
end Mi

set_option maxHeartbeats 1000000
namespace Mi
open PySem PySem.Spec PyProof.Rows L2

section
variable {C : Cfg} {R : XR} {W : WX} {sc : Scope} {X : Cx} {x : Str} {i : Nat} {p pos : Pos} {e : Expr} {es : List Expr} {K : PySem.W.Frag} {Z H : Hp} {σ : L2.St} {r : Rho} {D : Ends} {m : Mm Vl}
/-! ## lambdas handed to words -/
/-- behind the making of a lambda -/
theorem ExtK.grw {H1 : Hp} (S : SR K Z σ H r) (g : PySem.MiL.Grw (tabs K) H H1) (t : LamX.Tabs (tabs K) H1) : ExtK K Z H Z H1 where
  kp := fun a o h => by
    by_cases c : ∃ q, (a, q) ∈ tabs K
    · obtain ⟨q, hq⟩ := c
      obtain ⟨ps, h1, _⟩ := S.tb.all _ hq
      obtain ⟨ps', h2, _⟩ := t _ hq
      rw [h] at h1
      cases h1
      exact ⟨ps', h2⟩
    · exact .of (g a o h fun q hq => c ⟨q, hq⟩)
  zm := fun _ _ e => e
  zn := fun _ e n => absurd e n
  sub := fun a o e => g a o (S.sub a o e) fun q hq => by
    rw [S.tb.nz _ hq] at e
    cases e
  tb := ⟨t, S.tb.nz⟩
/-- the word's own state: nothing is told of it -/
theorem SR.word (S : SR K Z σ H r) (τ : L2.St) : SR K Z τ H (List.replicate τ.length none) := by
  have no : ∀ {i : Nat} {v : Vl}, gt (List.replicate τ.length none) i ≠ some v := fun {i v} h => by
    unfold gt at h
    rw [List.getElem?_replicate] at h
    split at h <;> cases h
  exact ⟨S.sub, S.tb, by simp, fun i v h _ => absurd h no, fun i j a d d' h _ _ _ => by rcases h with h | h <;> exact absurd h no⟩
theorem own_word {τ : L2.St} {a : Addr} : ¬ Own (List.replicate τ.length none) τ a := fun ⟨i, d, h, _⟩ => by
  have no : ∀ {v : Vl}, gt (List.replicate τ.length none) i ≠ some v := fun {v} h => by
    unfold gt at h
    rw [List.getElem?_replicate] at h
    split at h <;> cases h
  rcases h with h | h <;> exact no h
theorem ExtK.word {Z' H' : Hp} {τ τ' : L2.St} {q : Rho} (F : Fr Z τ H (List.replicate τ.length none) Z' τ' H' q) (S : SR K Z' τ' H' q) : ExtK K Z H Z' H' where
  kp := fun a o h => F.keep a o h own_word
  zm := F.zm
  zn := fun a h n => (F.zn a h n).resolve_right own_word
  sub := S.sub
  tb := S.tb
theorem noPars_eq {ps : Arguments} (h : noPars ps = true) : ps = ⟨[], [], none, [], [], none, []⟩ := by
  obtain ⟨a, b, c, d, e, f, g⟩ := ps
  unfold noPars at h
  simp only [Bool.and_eq_true, List.isEmpty_iff, Option.isNone_iff_eq_none] at h
  obtain ⟨⟨⟨⟨⟨⟨rfl, rfl⟩, rfl⟩, rfl⟩, rfl⟩, rfl⟩, rfl⟩ := h
  rfl
theorem Good.lamS (G : Good C R W sc X) {sc' : Scope} (h : LamX.lamSB sc sc' = true) : LamX.LamS X.env.scope sc' := by
  obtain ⟨k, co, gn, ow, fr⟩ := LamX.lamS_by h
  refine ⟨k, co, gn, ow, fun y hy e => ?_⟩
  rcases fr y hy e with q | q
  · rcases G.nm _ _ q with z | ⟨z, _⟩
    · exact .inl z
    · cases z
  · rcases G.nm _ _ q with z | ⟨_, z⟩
    · exact .inr z
    · exact .inl z
/-- the value of a word from that of what it ran -/
def wbV (w : Wd) (d : Da) : Da := match w.b with
  | .drop => w.k
  | .ret => d
  | .tag t => .tuple [t, d]
/-- a word's run, whatever becomes of what no clause takes -/
structure WordM (ex : ExT) (w : Wd) (m M : Mm Vl) : Prop where
  ok : ∀ {r d r'}, mFz m r = .ok d r' → M r = .ok (.val (wbV w d)) r'
  exc : ∀ {r e r' h}, mFz m r = .exc e r' → pickH ex e.cls w.hs = some h → M r = (match h.out e w.n with
    | some d => .ok (.val d) r'
    | none => .stuck)
  go : ∀ {r e r'}, mFz m r = .exc e r' → pickH ex e.cls w.hs = none → M r = .stuck ∨ M r = .exc e r'
  stuck : ∀ {r}, mFz m r = .stuck → M r = .stuck
theorem mWord_M {ex : ExT} {w : Wd} : WordM ex w m (mWord ex w m) where
  ok := fun {r d r'} h => by unfold mWord wbV; rw [h]; dsimp only; cases w.b <;> rfl
  exc := fun {r e r' h} h1 h2 => by unfold mWord; rw [h1]; dsimp only; rw [h2]; try (cases ho : h.out e w.n <;> simp only [ho])
  go := fun {r e r'} h1 h2 => .inl (by unfold mWord; rw [h1]; dsimp only; rw [h2])
  stuck := fun {r} h => by unfold mWord; rw [h]
theorem mWordP_M {ex : ExT} {w : Wd} : WordM ex w m (mWordP ex w m) where
  ok := fun {r d r'} h => by unfold mWordP wbV; rw [h]; dsimp only; cases w.b <;> rfl
  exc := fun {r e r' h} h1 h2 => by unfold mWordP; rw [h1]; dsimp only; rw [h2]; try (cases ho : h.out e w.n <;> simp only [ho])
  go := fun {r e r'} h1 h2 => .inr (by unfold mWordP; rw [h1]; dsimp only; rw [h2])
  stuck := fun {r} h => by unfold mWordP; rw [h]
theorem mWord_ne {ex : ExT} {w : Wd} {e : Ex} {r' : Rho} : mWord ex w m r ≠ .exc e r' := fun h => by
  unfold mWord at h
  split at h
  · split at h <;> cases h
  · split at h
    · split at h <;> cases h
    · cases h
  · cases h
theorem word_body {g : Addr} {bg : List Stmt} {sg : Scope} {N : List Str} {a : Str} {w : Wd} {M : Mm Vl} {A0 : Around} {outer0 : List Env} {Eg : XK} (G : Good C R W sc X) (hM : WordM C.ex w m M) (Sg : FnScope N [a] sg) (hN0 : N[0]? = some a) (hwd : wdOf (wCfg N C.blt C.ex) sg bg = some w)
    {q : Str} {cdv : Value} {f c' : Addr} {s : Shared} {H1 : Hp} {Q : VK} (room : Room 1 (A0.deeper (envOfC x sg s.heap.objs.size g cdv))) (gs0 : A0.guards = X.A.guards)
    (act : ∀ (W' : WX) (pn : List (Addr × Obj)) (xe : Value → Shared → Prop) (p1 p2 : Pos), Takes ((cxOf (L2.CX X.prog X.w) X.prog X.w X.K X.mg X.base N x sg g cdv A0 outer0 s H1 Eg).tr pn xe) W' →
        PE ((cxOf (L2.CX X.prog X.w) X.prog X.w X.K X.mg X.base N x sg g cdv A0 outer0 s H1 Eg).tr pn xe) (.Call (.Name a p1) [] [] p2)
          (fun σZ HZ Q => σZ[0]? = some (some (.ref f)) ∧ HZ c' = some (LamX.CodeO c' q) ∧ rdV X.K R (fun cls d _ H => WE W' σZ cls d H) m σ HZ Q))
    (at' : H1 c' = some (LamX.CodeO c' q)) (hq : rdE X.K R (fun cls d _ H => Eg cls d H) M σ H1 Q) :
    ∃ t, PSs (cxOf (L2.CX X.prog X.w) X.prog X.w X.K X.mg X.base N x sg g cdv A0 outer0 s H1 Eg) bg t ∧ t { nx := fun _ H' => Q .non H', rt := Q } (L2.start N [.ref f]) H1 := by
  let Cw : Cfg := wCfg N C.blt C.ex
  let Y := cxOf (L2.CX X.prog X.w) X.prog X.w X.K X.mg X.base N x sg g cdv A0 outer0 s H1 Eg
  have Gw : Good Cw R (fun cls d _ G => Eg cls d G) sg Y := {
    N := rfl
    nd := Sg.nd
    calm := rfl
    gs := gs0.trans G.gs
    un := by have := room.un; show (A0.deeper _).units + 70 < cLine; omega
    tk := takes_of rfl rfl rfl rfl
    nm := fun y k h => .inl h
    fn := fun _ _ => rfl
    cst := fun _ _ h => by cases h
    dct := fun _ _ h => by cases h
    fns := fun _ _ _ h => by cases h
    gad := fun _ _ _ h => by cases h
    blt := G.blt
    ex1 := G.ex1
    ex2 := G.ex2
    ex3 := G.ex3
    rm := ⟨_, room⟩
    lam := fun z => by cases z
    wd := fun z => by cases z
    wd2 := fun z => by cases z }
  unfold wdOf at hwd
  split at hwd
  · rename_i tb h hs _ rest
    split at hwd
    · rename_i wb l k e1 e2 e3
      cases hwd
      obtain ⟨lt, h1, h2⟩ := hds_ok Gw e2
      obtain ⟨Z, r, S, hq⟩ := hq
      have aN : N.head? = some a := by
        cases N with
        | nil => cases hN0
        | cons b N => exact hN0
      have len0 : 0 < N.length := by
        cases N with
        | nil => cases hN0
        | cons b N => simp
      have st0 : (L2.start N [V.ref f])[0]? = some (some (V.ref f)) := rfl
      have stl : (L2.start N [V.ref f]).length = N.length := by unfold L2.start; simp; omega
      -- the clauses
      have outs : ∀ (D' : Ends), D'.rt = Q → ∀ e r', mFz m r = .exc e r' → ∀ cls dd Z' H', SR X.K Z' σ H' r' → Fr Z σ H1 r Z' σ H' r' → R Z' H' cls dd e → wManyA X.K (fun cls d _ G => Eg cls d G) D' lt cls dd (L2.start N [V.ref f]) H' := by
        intro D' hD e r' he cls dd Z' H' S' F' hR
        refine hl_to (W := fun cls d _ G => Eg cls d G) Gw hR (S'.word (L2.start N [V.ref f])) D' h2 ?_
        have q2 := hq
        cases ep : pickH C.ex e.cls l with
        | none =>
          rw [show pickH Cw.ex e.cls l = none from ep]
          dsimp only
          rcases hM.go he ep with z | z
          · rw [z] at q2; exact q2.elim
          · rw [z] at q2; exact q2 cls dd Z' H' S' F' hR
        | some h =>
          rw [hM.exc he ep] at q2
          have e0 : h.out e (List.replicate (L2.start N [V.ref f]).length (none : Option Vl)).length = h.out e N.length := by rw [List.length_replicate, stl]
          cases eo : h.out e N.length with
          | none =>
            have eo' : h.out e (wCfg N C.blt C.ex).N.length = none := eo
            simp only [eo, eo'] at q2
            exact q2.elim
          | some d =>
            have eo' : h.out e (wCfg N C.blt C.ex).N.length = some d := eo
            simp only [eo, eo'] at q2
            rw [eo] at e0
            rw [show pickH Cw.ex e.cls l = some h from ep]
            dsimp only
            rw [e0]
            intro σ2 Z2 H2 S2 F2 y ry
            have E := ExtK.word F2 S2
            rw [hD]
            exact q2 Z2 H2 (E.sr S') (F'.trans E.fr) y ry
      -- the run itself
      have main : ∀ (D' : Ends) (post : VK), D'.rt = Q → (∀ d r', mFz m r = .ok d r' → ∀ Z' H', SR X.K Z' σ H' r' → Fr Z σ H1 r Z' σ H' r' → ∀ y, Rp X.K Z' y d → post y H') →
          rdV X.K R (fun cls d _ H => WE (wManyA X.K (fun cls d _ G => Eg cls d G) D' lt) (L2.start N [V.ref f]) cls d H) m σ H1 post := by
        intro D' post hD hp
        refine ⟨Z, r, S, ?_⟩
        cases em : mFz m r with
        | ok d r' => exact fun Z' H' S' F' y ry => hp d r' em Z' H' S' F' y ry
        | exc e r' => exact fun cls dd Z' H' S' F' hR => outs D' hD e r' em cls dd Z' H' S' F' hR
        | stuck =>
          rw [hM.stuck em] at hq
          exact hq.elim
      have fin : ∀ {d r'}, mFz m r = .ok d r' → ∀ {Z' H'}, SR X.K Z' σ H' r' → Fr Z σ H1 r Z' σ H' r' → ∀ y, Rp X.K Z' y (wbV ⟨wb, l, N.length, k⟩ d) → Q y H' := fun {d r'} em {Z' H'} S' F' y ry => by
        rw [hM.ok em] at hq
        exact hq Z' H' S' F' y ry
      -- what stands behind the try
      have behind : ∃ u : TS, PSs Y rest u ∧ ∀ (D : Ends) (τ : L2.St) (H' : Hp), (rest = [] → D.nx τ H') → (rest ≠ [] → ∃ v, (∀ Z, Rp X.K Z v k) ∧ D.rt v H') → u D τ H' := by
        unfold wkOf at e3
        split at e3
        · exact ⟨_, pss_nil, fun D τ H' h _ => h rfl⟩
        · rename_i c j pc pr
          obtain ⟨v, hv, hr⟩ := const_tc (X := Y) (k := j) (p := pc) e3
          refine ⟨_, pss_one (ps_ret hv), fun D τ H' _ h => ?_⟩
          obtain ⟨v', hr', hd⟩ := h (by simp)
          have same : v = v' := by
            have h1 := hr X.K (fun _ => none)
            have h2 := hr' (fun _ => none)
            cases c <;> first | (cases e3; cases h1; cases h2; rfl) | cases e3
          show D.rt v H'
          rw [same]
          exact hd
        · cases e3
      obtain ⟨u, hu, hu2⟩ := behind
      have kv : ∃ v, (∀ Z, Rp X.K Z v k) ∧ (rest = [] → v = .non) := by
        unfold wkOf at e3
        split at e3
        · cases e3; exact ⟨.non, fun _ => .non, fun _ => rfl⟩
        · rename_i c j pc pr
          obtain ⟨v, hv, hr⟩ := const_tc (X := Y) (k := j) (p := pc) e3
          exact ⟨v, hr X.K, fun z => by cases z⟩
        · cases e3
      obtain ⟨kv, kr, kn⟩ := kv
      unfold wbOf at e1
      split at e1
      · -- call()
        rename_i b p1 p2 p3
        split at e1
        · rename_i hc
          cases e1
          simp only [Bool.and_eq_true, beq_iff_eq] at hc
          have eb : b = a := by
            have : (N.head? : Option Str) = some b := hc.1.1
            rw [aN] at this
            exact (Option.some.inj this).symm
          subst eb
          refine ⟨_, pss_cons (ps_try_A (X := Y) (Wout := fun cls d _ G => Eg cls d G) (tb := fun W' D τ HZ => τ[0]? = some (some (.ref f)) ∧ HZ c' = some (LamX.CodeO c' q) ∧ rdV X.K R (fun cls d _ H => WE W' τ cls d H) m σ HZ fun _ H' => D.nx τ H')
            rfl rfl Sg.nd (Gw.tk.imp fun _ _ _ _ z => z) (fun W' pn xe tk _ => ?_) h1) hu, ?_⟩
          · exact pss_one (ps_expr (act W' pn xe p1 p2 tk))
          · refine ⟨st0, at', main _ _ rfl fun d r' em Z' H' S' F' y ry => hu2 _ _ H' (fun er => ?_) fun _ => ⟨kv, kr, fin em S' F' kv (kr Z')⟩⟩
            have := fin em S' F' kv (kr Z')
            rw [kn er] at this
            exact this
        · cases e1
      · -- return call()
        rename_i b p1 p2 p3
        split at e1
        · rename_i hc
          cases e1
          simp only [Bool.and_eq_true, beq_iff_eq] at hc
          have eb : b = a := by
            have : (N.head? : Option Str) = some b := hc.1.1
            rw [aN] at this
            exact (Option.some.inj this).symm
          subst eb
          refine ⟨_, pss_cons (ps_try_A (X := Y) (Wout := fun cls d _ G => Eg cls d G) (tb := fun W' D τ HZ => τ[0]? = some (some (.ref f)) ∧ HZ c' = some (LamX.CodeO c' q) ∧ rdV X.K R (fun cls d _ H => WE W' τ cls d H) m σ HZ D.rt)
            rfl rfl Sg.nd (Gw.tk.imp fun _ _ _ _ z => z) (fun W' pn xe tk _ => ?_) h1) hu, ?_⟩
          · exact pss_one (ps_ret (act W' pn xe p1 p2 tk))
          · exact ⟨st0, at', main _ _ rfl fun d r' em Z' H' S' F' y ry => fin em S' F' y ry⟩
        · cases e1
      · -- return (t, call())
        rename_i c j pc b p1 p2 kk p3 p4
        split at e1
        · rename_i hc
          obtain ⟨t, et, e1⟩ := Option.map_eq_some_iff.mp e1
          subst e1
          simp only [Bool.and_eq_true, beq_iff_eq] at hc
          have eb : b = a := by
            have : (N.head? : Option Str) = some b := hc.1.1
            rw [aN] at this
            exact (Option.some.inj this).symm
          subst eb
          obtain ⟨v, _, hr⟩ := const_tc (X := Y) (k := j) (p := pc) et
          refine ⟨_, pss_cons (ps_try_A (X := Y) (Wout := fun cls d _ G => Eg cls d G) (tb := fun W' D τ HZ => τ[0]? = some (some (.ref f)) ∧ HZ c' = some (LamX.CodeO c' q) ∧ rdV X.K R (fun cls d _ H => WE W' τ cls d H) m σ HZ fun y H' => ∀ p, H' p = none → D.rt (.ref p) (upd H' p (.tup [v, y])))
            rfl rfl Sg.nd (Gw.tk.imp fun _ _ _ _ z => z) (fun W' pn xe tk _ => ?_) h1) hu, ?_⟩
          · obtain ⟨v', hv', hr'⟩ := const_tc (X := Y.tr pn xe) (k := j) (p := pc) et
            have same : v' = v := by
              have h1 := hr X.K (fun _ => none)
              have h2 := hr' X.K (fun _ => none)
              cases c <;> first | (cases et; cases h1; cases h2; rfl) | cases et
            subst same
            refine pss_one ⟨fun pins s' τ HZ D I hz => (ps_ret (pe_tup (pa_cons hv' (pa_cons (act W' pn xe p1 p2 tk) pa_nil)))).run pins s' τ HZ D I ?_⟩
            obtain ⟨z1, z2, Z3, r3, S3, q3⟩ := hz
            exact ⟨z1, z2, Z3, r3, S3, q3.mono fun d r4 Z4 H4 _ _ k y ry => ⟨by rw [szL]; show 2 ≤ 16777216; decide, k y ry⟩⟩
          · refine ⟨st0, at', main _ _ rfl fun d r' em Z' H' S' F' y ry p hp => ?_⟩
            have E := Ext.frz (o := .tup [v, y]) S'.sub hp
            refine fin em (E.sr S') (F'.trans E.fr) (.ref p) (.tup (.inl (.inl upd_same)) (.cons (Rp.le E.zm _ _ (hr X.K Z')) (.cons (Rp.le E.zm _ _ ry) .nil)))
        · cases e1
      · cases e1
    · cases hwd
  · cases hwd
/-- the same, where the word gives back what an expression tells -/
theorem word_ret {g : Addr} {e0 : Expr} {l : List Hd} {h : ExceptHandler} {hs : List ExceptHandler} {p4 p5 : Pos} {sg : Scope} {N : List Str} {a : Str} {M : Mm Vl} {A0 : Around} {outer0 : List Env} {Eg : XK} (G : Good C R W sc X) (hM : WordM C.ex ⟨.ret, l, N.length, .none⟩ m M) (Sg : FnScope N [a] sg) (hN0 : N[0]? = some a) (e2 : semHs (wCfg N C.blt C.ex) sg (h :: hs) = some l)
    {q : Str} {cdv : Value} {f c' : Addr} {s : Shared} {H1 : Hp} {Q : VK} (room : Room 1 (A0.deeper (envOfC x sg s.heap.objs.size g cdv))) (gs0 : A0.guards = X.A.guards)
    (act : ∀ (W' : WX) (pn : List (Addr × Obj)) (xe : Value → Shared → Prop), Takes ((cxOf (L2.CX X.prog X.w) X.prog X.w X.K X.mg X.base N x sg g cdv A0 outer0 s H1 Eg).tr pn xe) W' →
        PE ((cxOf (L2.CX X.prog X.w) X.prog X.w X.K X.mg X.base N x sg g cdv A0 outer0 s H1 Eg).tr pn xe) e0
          (fun σZ HZ Q => σZ[0]? = some (some (.ref f)) ∧ HZ c' = some (LamX.CodeO c' q) ∧ rdV X.K R (fun cls d _ H => WE W' σZ cls d H) m σ HZ Q))
    (at' : H1 c' = some (LamX.CodeO c' q)) (hq : rdE X.K R (fun cls d _ H => Eg cls d H) M σ H1 Q) :
    ∃ t, PSs (cxOf (L2.CX X.prog X.w) X.prog X.w X.K X.mg X.base N x sg g cdv A0 outer0 s H1 Eg) [.Try [.Return (some e0) p4] (h :: hs) [] [] p5] t ∧ t { nx := fun _ H' => Q .non H', rt := Q } (L2.start N [.ref f]) H1 := by
  let Cw : Cfg := wCfg N C.blt C.ex
  let Y := cxOf (L2.CX X.prog X.w) X.prog X.w X.K X.mg X.base N x sg g cdv A0 outer0 s H1 Eg
  have Gw : Good Cw R (fun cls d _ G => Eg cls d G) sg Y := {
    N := rfl
    nd := Sg.nd
    calm := rfl
    gs := gs0.trans G.gs
    un := by have := room.un; show (A0.deeper _).units + 70 < cLine; omega
    tk := takes_of rfl rfl rfl rfl
    nm := fun y k h => .inl h
    fn := fun _ _ => rfl
    cst := fun _ _ h => by cases h
    dct := fun _ _ h => by cases h
    fns := fun _ _ _ h => by cases h
    gad := fun _ _ _ h => by cases h
    blt := G.blt
    ex1 := G.ex1
    ex2 := G.ex2
    ex3 := G.ex3
    rm := ⟨_, room⟩
    lam := fun z => by cases z
    wd := fun z => by cases z
    wd2 := fun z => by cases z }
  obtain ⟨lt, h1, h2⟩ := hds_ok Gw e2
  obtain ⟨Z, r, S, hq⟩ := hq
  have aN : N.head? = some a := by
    cases N with
    | nil => cases hN0
    | cons b N => exact hN0
  have len0 : 0 < N.length := by
    cases N with
    | nil => cases hN0
    | cons b N => simp
  have st0 : (L2.start N [V.ref f])[0]? = some (some (V.ref f)) := rfl
  have stl : (L2.start N [V.ref f]).length = N.length := by unfold L2.start; simp; omega
  -- the clauses
  have outs : ∀ (D' : Ends), D'.rt = Q → ∀ e r', mFz m r = .exc e r' → ∀ cls dd Z' H', SR X.K Z' σ H' r' → Fr Z σ H1 r Z' σ H' r' → R Z' H' cls dd e → wManyA X.K (fun cls d _ G => Eg cls d G) D' lt cls dd (L2.start N [V.ref f]) H' := by
    intro D' hD e r' he cls dd Z' H' S' F' hR
    refine hl_to (W := fun cls d _ G => Eg cls d G) Gw hR (S'.word (L2.start N [V.ref f])) D' h2 ?_
    have q2 := hq
    cases ep : pickH C.ex e.cls l with
    | none =>
      rw [show pickH Cw.ex e.cls l = none from ep]
      dsimp only
      rcases hM.go he ep with z | z
      · rw [z] at q2; exact q2.elim
      · rw [z] at q2; exact q2 cls dd Z' H' S' F' hR
    | some h =>
      rw [hM.exc he ep] at q2
      have e0 : h.out e (List.replicate (L2.start N [V.ref f]).length (none : Option Vl)).length = h.out e N.length := by rw [List.length_replicate, stl]
      cases eo : h.out e N.length with
      | none =>
        have eo' : h.out e (wCfg N C.blt C.ex).N.length = none := eo
        simp only [eo, eo'] at q2
        exact q2.elim
      | some d =>
        have eo' : h.out e (wCfg N C.blt C.ex).N.length = some d := eo
        simp only [eo, eo'] at q2
        rw [eo] at e0
        rw [show pickH Cw.ex e.cls l = some h from ep]
        dsimp only
        rw [e0]
        intro σ2 Z2 H2 S2 F2 y ry
        have E := ExtK.word F2 S2
        rw [hD]
        exact q2 Z2 H2 (E.sr S') (F'.trans E.fr) y ry
  -- the run itself
  have main : ∀ (D' : Ends) (post : VK), D'.rt = Q → (∀ d r', mFz m r = .ok d r' → ∀ Z' H', SR X.K Z' σ H' r' → Fr Z σ H1 r Z' σ H' r' → ∀ y, Rp X.K Z' y d → post y H') →
      rdV X.K R (fun cls d _ H => WE (wManyA X.K (fun cls d _ G => Eg cls d G) D' lt) (L2.start N [V.ref f]) cls d H) m σ H1 post := by
    intro D' post hD hp
    refine ⟨Z, r, S, ?_⟩
    cases em : mFz m r with
    | ok d r' => exact fun Z' H' S' F' y ry => hp d r' em Z' H' S' F' y ry
    | exc e r' => exact fun cls dd Z' H' S' F' hR => outs D' hD e r' em cls dd Z' H' S' F' hR
    | stuck =>
      rw [hM.stuck em] at hq
      exact hq.elim
  have fin : ∀ {d r'}, mFz m r = .ok d r' → ∀ {Z' H'}, SR X.K Z' σ H' r' → Fr Z σ H1 r Z' σ H' r' → ∀ y, Rp X.K Z' y (d) → Q y H' := fun {d r'} em {Z' H'} S' F' y ry => by
    rw [hM.ok em] at hq
    exact hq Z' H' S' F' y ry
  refine ⟨_, pss_cons (ps_try_A (X := Y) (Wout := fun cls d _ G => Eg cls d G) (tb := fun W' D τ HZ => τ[0]? = some (some (.ref f)) ∧ HZ c' = some (LamX.CodeO c' q) ∧ rdV X.K R (fun cls d _ H => WE W' τ cls d H) m σ HZ D.rt)
    rfl rfl Sg.nd (Gw.tk.imp fun _ _ _ _ z => z) (fun W' pn xe tk _ => ?_) h1) pss_nil, ?_⟩
  · exact pss_one (ps_ret (act W' pn xe tk))
  · exact ⟨st0, at', main _ _ rfl fun d r' em Z' H' S' F' y ry => fin em S' F' y ry⟩
theorem key_names {N : List Str} {sg : Scope} {a b : Str} (hN0 : N[0]? = some a) (hc : (N.head? == some b && visB sg b && okN b) = true) : b = a ∧ okN a = true ∧ Vis sg a := by
  have aN : N.head? = some a := by
    cases N with
    | nil => cases hN0
    | cons b N => exact hN0
  simp only [Bool.and_eq_true, beq_iff_eq] at hc
  have e0 : N.head? = some b := hc.1.1
  rw [aN] at e0
  cases e0
  refine ⟨rfl, hc.2, ?_⟩
  have hv := hc.1.2
  unfold visB at hv
  split at hv <;> first | (rename_i q; exact .inl q) | (rename_i q; exact .inr (.inl q)) | (rename_i q; exact .inr (.inr q)) | cases hv
theorem wd_names {N : List Str} {sg : Scope} {bg : List Stmt} {a : Str} {blt : Str → Bool} {ex : ExT} {w : Wd} (hN0 : N[0]? = some a) (hwd : wdOf (wCfg N blt ex) sg bg = some w) : okN a = true ∧ Vis sg a := by
  unfold wdOf at hwd
  split at hwd
  · split at hwd
    · rename_i e1 _ _
      unfold wbOf at e1
      split at e1
      · split at e1
        · rename_i hc; exact (key_names (N := N) hN0 hc).2
        · cases e1
      · split at e1
        · rename_i hc; exact (key_names (N := N) hN0 hc).2
        · cases e1
      · split at e1
        · rename_i hc; exact (key_names (N := N) hN0 hc).2
        · cases e1
      · cases e1
    · cases hwd
  · cases hwd
/-- the lambda's body, in whatever def it is run -/
theorem Good.lamB (G : Good C R W sc X) {sc' : Scope} (hlam : C.lam = true) (L : LamX.LamS X.env.scope sc') {f c' : Addr} {A' : Around} {outer : List Env} {s1 : Shared} {H1 : Hp} {E : XK} (gs : A'.guards = X.A.guards) (rmk : ∀ k, Room (k + 3) X.A → Room (k + 1) A') :
    Good { C with lam := false } R (fun cls d _ H => E cls d H) sc' (LamX.lamCx X A' outer s1 H1 E sc' f c') := by
  obtain ⟨c, P, hcode, tb, inT, one, rm3⟩ := G.lam hlam
  have room0 : Room 0 (A'.deeper (LamX.lamEnv X sc' s1.heap.objs.size f c')) := (rmk 0 rm3).deeper _
  exact {
    N := G.N
    nd := G.nd
    calm := rfl
    gs := gs.trans G.gs
    un := by have := room0.un; show (A'.deeper _).units + 70 < cLine; omega
    tk := takes_of rfl rfl rfl rfl
    nm := fun y k h => .inl h
    fn := fun y h => absurd rfl (L.own _ (PySem.mem_of_lookup h)).2
    cst := G.cst
    dct := G.dct
    gad := G.gad
    fns := fun y fl F h => by
      obtain ⟨f, fd, ps, k, h1, h2, h3, h4, h5, h6⟩ := G.fns y fl F h
      exact ⟨f, fd, ps, k, h1, h2, h3, (rmk k (h5 hlam)).deeper _, (fun z => by cases z), h6⟩
    blt := G.blt
    ex1 := G.ex1
    ex2 := G.ex2
    ex3 := G.ex3
    rm := ⟨_, room0⟩
    lam := fun z => by cases z
    wd := fun z => by cases z
    wd2 := fun z => by cases z }
theorem word_any {K : PySem.W.Frag} {W' : WX} {ex : ExT} {w : Wd} {Q : VK} (h : rdE K R W (mWord ex w m) σ H Q) : rdE K R W' (mWord ex w m) σ H Q := by
  obtain ⟨Z, r, S, q⟩ := h
  refine ⟨Z, r, S, ?_⟩
  cases e : mWord ex w m r with
  | ok d r' => rw [e] at q; exact q
  | exc x r' => exact absurd e mWord_ne
  | stuck => rw [e] at q; exact q
theorem mWordP_val {ex : ExT} {w : Wd} {v : Vl} {r' : Rho} (h : mWordP ex w m r = .ok v r') : ∃ d, v = .val d := by
  unfold mWordP at h
  split at h
  · split at h <;> cases h <;> exact ⟨_, rfl⟩
  · split at h
    · split at h
      · cases h; exact ⟨_, rfl⟩
      · cases h
    · cases h
  · cases h
theorem wordP_E {K : PySem.W.Frag} {ex : ExT} {w : Wd} {Q : VK} (h : rdV K R W (mWordP ex w m) σ H Q) : rdE K R W (mWordP ex w m) σ H Q := by
  obtain ⟨Z, r, S, q⟩ := h
  refine ⟨Z, r, S, ?_⟩
  unfold mFz mBnd at q
  cases e : mWordP ex w m r with
  | ok v r' =>
    obtain ⟨d, rfl⟩ := mWordP_val e
    rw [e] at q
    exact q
  | exc x r' => rw [e] at q; exact q
  | stuck => rw [e] at q; exact q
/-- x(lambda: b), x a word -/
theorem word_pe (G : Good C R W sc X) {ps : Arguments} {b : Expr} {sc' : Scope} {w : Wd} {lp : Pos} (hlam : C.lam = true) (hx : gloB sc x = true) (ho : okN x = true) (hp : noPars ps = true) (hL : LamX.lamSB sc sc' = true) (hw : C.wd x = some w)
    (hb : ∀ {X' : Cx} {W' : WX}, Good { C with lam := false } R W' sc' X' → PE X' b (rdE X'.K R W' m)) : PE X (.Call (.Name x p) [.Lambda ps b sc' lp] [] pos) (rdE X.K R W (mWord C.ex w m)) := by
  obtain ⟨c, P, hcode, tb, inT, one, rm3⟩ := G.lam hlam
  obtain ⟨pg, bg, sg, N, a, g, fd, hm, hk, F, hbd, Sg, hN0, hwd⟩ := G.wd hlam x w hw
  have L := G.lamS hL
  have ep := noPars_eq hp
  subst ep
  obtain ⟨na, va⟩ := wd_names hN0 hwd
  refine PE.to (PySem.MiL.pe_word (T := tabs X.K) (k := 2) (tl := fun E => rdV X.K R (fun cls d _ H => E cls d H) m) (wd := fun σ H1 Q => rdE X.K R W (mWord C.ex w m) σ H1 Q) (G.glo hx) hm hk F hbd Sg tb hcode inT one rm3 L rfl (fun _ _ _ _ _ => rfl)
    (fun f c' A' outer s1 H1 E gs rmk => rdV_of (hb (G.lamB hlam L gs rmk)))
    (fun cdv f c' s H1 σ Q room act at' hq => word_body (Eg := fun _ _ _ => False) G mWord_M Sg hN0 hwd (room.mono (by omega)) rfl (fun W' pn xe p1 p2 tk => act _ _ _ _ _ _ _ _ _ _ _ _ _ _ _ _ (fun _ _ u => u) rfl (fun k r => r.mono (by omega)) (room.mono (by omega)) tk hN0 va (okN_d na).1 (okN_d na).2.1) at' (word_any hq)) (okN_d ho).1) fun σ H Q h => ?_
  obtain ⟨Z, r, S, q⟩ := h
  exact ⟨S.tb.all, fun H1 g t => ⟨Z, r, (ExtK.grw S g t).sr S, q.start (ExtK.grw S g t).fr |> fun k => k.mono' fun v r' Z' H' k x tx => k x (TmpR.back (ExtK.grw S g t).fr tx)⟩⟩
/-- x(lambda: b), x a word that hands it to another -/
theorem word2_pe (G : Good C R W sc X) {ps : Arguments} {b : Expr} {sc' : Scope} {w2 w1 : Wd} {lp : Pos} (hlam : C.lam = true) (hx : gloB sc x = true) (ho : okN x = true) (hp : noPars ps = true) (hL : LamX.lamSB sc sc' = true) (hw : C.wd2 x = some (w2, w1))
    (hb : ∀ {X' : Cx} {W' : WX}, Good { C with lam := false } R W' sc' X' → PE X' b (rdE X'.K R W' m)) : PE X (.Call (.Name x p) [.Lambda ps b sc' lp] [] pos) (rdE X.K R W (mWord C.ex w2 (mWordP C.ex w1 m))) := by
  obtain ⟨c, P, hcode, tb, inT, one, rm3⟩ := G.lam hlam
  obtain ⟨pg, bg, sg, N, a, g, fd, y, hm, hk, F, hbd, Sg, hN0, hwd, hy⟩ := G.wd2 hlam x w2 w1 hw
  obtain ⟨pg1, bg1, sg1, N1, a1, g1, fd1, hm1, hk1, F1, hbd1, Sg1, hN1, hwd1⟩ := hy
  have L := G.lamS hL
  have ep := noPars_eq hp
  subst ep
  obtain ⟨na1, va1⟩ := wd_names hN1 hwd1
  unfold wdOf2 at hwd
  split at hwd
  · rename_i y' p1 b1 p2 p3 p4 h hs p5
    split at hwd
    · rename_i hc
      rw [Bool.and_eq_true, Bool.and_eq_true] at hc
      obtain ⟨⟨hc0, gy⟩, oy⟩ := hc
      obtain ⟨rfl, na, va⟩ := key_names (N := N) hN0 hc0
      cases e2 : semHs (wCfg N C.blt C.ex) sg (h :: hs) with
      | none => rw [e2] at hwd; cases hwd
      | some l =>
        rw [e2] at hwd
        cases hwd
        refine PE.to (PySem.MiL.pe_word (T := tabs X.K) (k := 2) (tl := fun E => rdV X.K R (fun cls d _ H => E cls d H) m) (wd := fun σ H1 Q => rdE X.K R W (mWord C.ex ⟨.ret, l, (wCfg N C.blt C.ex).N.length, .none⟩ (mWordP C.ex w1 m)) σ H1 Q) (G.glo hx) hm hk F hbd Sg tb hcode inT one rm3 L rfl (fun _ _ _ _ _ => rfl)
          (fun f c' A' outer s1 H1 E gs rmk => rdV_of (hb (G.lamB hlam L gs rmk)))
          (fun cdv f c' s H1 σ Q room act at' hq => ?_) (okN_d ho).1) fun σ H Q h => ?_
        · exact word_ret (Eg := fun _ _ _ => False) G mWord_M Sg hN0 e2 (room.mono (by omega)) rfl (fun W' pn xe tk => PySem.MiL.pe_word1 (wd1 := fun E σ H Q => rdV X.K R (fun cls d _ H => E cls d H) (mWordP C.ex w1 m) σ H Q) act (by
              unfold gloB at gy
              split at gy <;> first | assumption | cases gy) hm1 hk1 F1 hbd1 Sg1 hN0 va (okN_d na).1 (okN_d na).2.1 (okN_d oy).1 room tk fun cdv1 A0 outer0 s1 H2 Q1 E1 room1 gs1 rmk link at1 hq1 =>
                word_body (Eg := E1) G mWordP_M Sg1 hN1 hwd1 room1 gs1 (fun W2 pn2 xe2 q1 q2 tk2 => act _ _ _ _ _ _ _ _ _ _ _ _ _ _ _ _ link gs1 rmk room1 tk2 hN1 va1 (okN_d na1).1 (okN_d na1).2.1) at1 (wordP_E hq1)) at' (word_any hq)
        · obtain ⟨Z, r, S, q⟩ := h
          exact ⟨S.tb.all, fun H1 g t => ⟨Z, r, (ExtK.grw S g t).sr S, q.start (ExtK.grw S g t).fr |> fun k => k.mono' fun v r' Z' H' k x tx => k x (TmpR.back (ExtK.grw S g t).fr tx)⟩⟩
    · cases hwd
  · cases hwd
end
end Mi

set_option maxHeartbeats 1000000
namespace Mi
open PySem PySem.Spec PyProof.Rows L2

section
variable {C : Cfg} {R : XR} {W : WX} {sc : Scope} {X : Cx} {x : Str} {i : Nat} {p pos : Pos} {e : Expr} {es : List Expr} {K : PySem.W.Frag} {Z H : Hp} {σ : L2.St} {r : Rho} {D : Ends} {m : Mm Vl} {oa : Opd} {a : Expr}
/-! ## texts joined -/
theorem strs_rp : ∀ {ds : List Da} {ys : List Str} {vs : List V}, strsD ds = some ys → RpAll K Z vs ds → vs = ys.map V.str
  | [], ys, vs, h, q => by cases h; cases q; rfl
  | .str s :: ds, ys, vs, h, q => by
    unfold strsD at h
    cases e : strsD ds with
    | none => rw [e] at h; cases h
    | some zs =>
      rw [e] at h
      cases h
      cases q with
      | cons h1 h2 =>
        cases h1
        rw [strs_rp e h2]
        rfl
  | .none :: _, _, _, h, _ => by cases h
  | .bool _ :: _, _, _, h, _ => by cases h
  | .int _ :: _, _, _, h, _ => by cases h
  | .list _ :: _, _, _, h, _ => by cases h
  | .tuple _ :: _, _, _, h, _ => by cases h
  | .dict _ :: _, _, _, h, _ => by cases h
def rJoin (K : PySem.W.Frag) (z : Str) : V → Hp → VK → Prop := fun y H Q => ∃ p, ∃ ys : List Str, y = .ref p ∧ SqL K H p (ys.map V.str) ∧ (ys.map (·.length)).sum + ys.length * z.length ≤ 16777216 ∧ Q (.str (Txt.join z ys)) H
theorem opS_join {z : Str} : OpS K (opJoin z) (at1 (rJoin K z)) := by
  intro xs ds v Z H Q hz ha hf hq
  unfold opJoin at hf
  split at hf
  · split at hf
    · rename_i ys hs
      split at hf
      · rename_i hl
        cases hf
        obtain ⟨x, rfl, h1⟩ := all1 ha
        obtain ⟨p, vs, ex, hr, hp⟩ := h1.lst hz
        have ev := strs_rp hs hp
        subst ev
        exact ⟨x, rfl, p, ys, ex, .inl hr, hl, give hz hq (.str _)⟩
      · cases hf
    · cases hf
  · cases hf
theorem pe_mJoin {z : Str} {k2 : Nat} {p2 ap cp : Pos} (ha : OpdX X X.K R W a oa) (hn : notStar a = true) (hl : (ap.endLine == cp.line) = true) : PE X (.Call (.Attribute (.Constant (.str z) k2 p2) "join" ap) [a] [] cp) (rdE X.K R W (mOp (opJoin z) [oa])) :=
  PE.to (pe_join pe_str ha.pe (starEach_cons hn _ _) rfl hl) fun σ H Q q => by
    refine ⟨⟨z, rfl⟩, opd1 (mOp_to opS_join q) fun y H2 h => ?_⟩
    obtain ⟨p, ys, e1, h1, h2, h3⟩ := at1_use h
    exact ⟨z, p, ys, rfl, by rw [e1], .inl h1, h2, h3⟩
/-! ## a dict of one written pair -/
theorem key_tc {c : Const} {k : Key} {j : Nat} (h : keyOf c = some k) : PE X (.Constant c j p) (tC (kV k)) := by
  cases c <;> first | cases h | skip
  · exact pe_int
  · exact pe_str
theorem pe_mDct1 {kc vc : Const} {k : Key} {d : Da} {j1 j2 : Nat} {p1 p2 : Pos} (hk : keyOf kc = some k) (hv : constD vc = some d) : PE X (.Dict [some (.Constant kc j1 p1)] [.Constant vc j2 p2] pos) (rdE X.K R W (mDct1 k d)) := by
  obtain ⟨v, hv, hr⟩ := const_tc (X := X) (k := j2) (p := p2) hv
  refine PE.to (pe_disp (pps_cons (key_tc hk) hv pps_nil) rfl rfl (by simp) (by show 1 ≤ 15; decide)) fun σ H Q q => ?_
  obtain ⟨Z, r, S, q⟩ := q
  intro p hp
  refine ⟨upd_same, [(k, v)], rfl, by show 1 ≤ 15; decide, ?_⟩
  show Q (.ref p) (upd (upd H p (.dK [])) p (.dK [(k, v)]))
  rw [upd_upd]
  have E := Ext.new (o := .dK [(k, v)]) S.sub hp
  have zp : Z p = none := by
    cases e : Z p with
    | none => rfl
    | some u => rw [S.sub p u e] at hp; cases hp
  refine q _ _ (E.sr S) E.fr (.ref p) ⟨⟨p, _, rfl, zp, upd_same, .cons (hr _ _) .nil⟩, fun b eb => ?_⟩
  cases eb
  exact ⟨fun w => (S.own_z (show Own r σ p from w)).2 hp, .inl hp⟩
/-! ## x += e -/
theorem opS_addI : OpS K opAddI (at2 (rI0 fun i j => .int (i + j))) := by
  intro xs ds v Z H Q hz ha hf hq
  unfold opAddI at hf
  split at hf
  · cases hf
    obtain ⟨x, y, rfl, h1, h2⟩ := all2 ha
    exact ⟨x, y, rfl, ⟨_, _, h1.int, h2.int, give hz hq (.int _)⟩⟩
  · cases hf
theorem ps_mAug {op : Operator} {f : List Da → Option Vl} {t : R2} {nm : Str} {p' : Pos} (hN : X.N.Nodup) (hi : X.N[i]? = some nm) (hx : Loc X.env.scope nm) (hf : X.fn nm = true ∨ X.env.scope.names.lookup nm = some .local) (ho : OpR X (inplaceOp op) t) (hs : OpS X.K f (at2 t)) (ha : OpdX X X.K R W e oa) :
    PS X (.AugAssign (.Name nm p') op e pos) (rdS X.K R W (mAsg i (mOp f [.sl i, oa]))) :=
  PS.to (ps_aug hN hi hx ha.pe (fun pins s σ H x y v u Q I rx ry h => ho pins s σ H x y v u Q I rx ry h) hf) fun D σ H q => by
    obtain ⟨Z, r, S, q⟩ := q
    unfold mAsg at q
    have q2 : rdE X.K R W (mOp f [.sl i, oa]) σ H fun x H' => D.nx (σ.set i (some x)) H' :=
      ⟨Z, r, S, (Es.bndE q).mono fun v r1 Z1 H1 S1 F1 k x hx => ps_mAsg.asg_to F1 S1 k hx.ret⟩
    exact opd2 (mOp_to hs q2) fun x y H h => at2_use h
end
end Mi

set_option maxHeartbeats 1000000
namespace Mi
open PySem PySem.Spec PyProof.Rows L2

section
variable {C : Cfg} {R : XR} {W : WX} {sc : Scope} {X : Cx} {x : Str} {i : Nat} {p pos : Pos} {e : Expr} {es : List Expr}
theorem call_pe (G : Good C R W sc X) {f : Expr → Mm Vl} {fl : List Bool} {F : Fn} (h : ∀ e, PE X e (rdE X.K R W (f e))) (hx : gloB sc x = true) (ho : okN x = true) (hf : C.fns x = some (fl, F)) (hn : es.all notStar = true) (hl : fl.length = es.length) :
    PE X (.Call (.Name x p) es [] pos) (rdE X.K R W (mCall F (sFlag fl (es.map (sOpd C sc f))))) := by
  obtain ⟨fa, fd, ps, k, hm, hk, FN, hr, _, hb⟩ := G.fns x fl F hf
  obtain ⟨hp, hlen⟩ := G.args h hn hl
  have o := okN_d ho
  cases es with
  | nil =>
    refine PE.to (pe_callG0 FN hr G.gs (G.glo hx) hm hk hb G.tk o.1) fun σ H Q q => ?_
    have := call_to q
    rw [hlen] at this
    cases fl with
    | nil => exact this
    | cons b fl => cases hl
  | cons e es =>
    refine PE.to (pe_callG FN hr G.gs (G.glo hx) hm hk hb G.tk hp hn o.1) fun σ H Q q => ?_
    have := call_to q
    rw [hlen] at this
    exact this
/-- of a slot that holds a def -/
theorem pe_callS (hvn : PE X (.Name x p) (tVar i)) (hg : X.A.guards = some []) (tk : Takes X W) (hn : (e :: es).all notStar = true) : PE X (.Call (.Name x p) (e :: es) [] pos) fun σ H Q => ∃ (f : Addr) (fd : FuncData) (ps : List Str) (k : Nat) (sp : Sp) (t : TA), σ[i]? = some (some (.ref f)) ∧
    FnG X.prog X.w X.K X.mg X.base k f fd ps sp ∧ Room k X.A ∧ PySem.W.keepIn X.K (.ref f) = true ∧ Binds X.K fd ps [] ∧ PA X (e :: es) t ∧ tCallS sp (WE W) t σ H Q := by
  refine ⟨fun pins s σ H Q I h => ?_⟩
  obtain ⟨f, fd, ps, k, sp, t, hs, F, hr, hk, hb, ha, ht⟩ := h
  refine wpAny_Call_Name_kw (thn (hvn.run pins s σ H (fun v H1 => v = .ref f ∧ H1 = H) I ⟨.ref f, hs, rfl, rfl⟩) fun u s1 ⟨v, H1, I1, r1, q1⟩ => ?_)
  obtain ⟨rfl, rfl⟩ := q1
  cases r1
  rw [List.all_cons, Bool.and_eq_true] at hn
  refine PySem.W.callWith_K (h₀ := X.base) I1.ok.mod.kin hk (thn (ha.run pos pins s1 σ _ _ I1 ht) fun us s2 q => ?_) (starEach_cons hn.1 _ _) (starEach_plain hn.2 _ _)
  obtain ⟨vs, H2, I2, r, q⟩ := q
  exact ⟨I2.kIn, F.go hr hg hb tk I2 r q⟩
theorem rp_fn {K : PySem.W.Frag} {Z : Hp} {v : V} {y : Str} (h : Rp K Z v (fnD y)) : v = .ref (He.ga K y) := by
  unfold fnD at h
  generalize e : PyData.dict [(.list [], .str y)] = d at h
  cases h with
  | dk hs ha => cases e; exact (no_fn ha).elim
  | fn y => cases e; rfl
  | _ => cases e
theorem callV_pe (G : Good C R W sc X) {f : Expr → Mm Vl} (h : ∀ e, PE X e (rdE X.K R W (f e))) (hi : slotV C sc x = some i) (hn : es.all notStar = true) (h0 : es.isEmpty = false) : PE X (.Call (.Name x p) es [] pos) (rdE X.K R W (mCallV i C.fns (es.map (sOpd C sc f)))) := by
  cases es with
  | nil => cases h0
  | cons e es =>
    refine PE.to (pe_callS (G.var hi) G.gs G.tk hn) fun σ H Q q => ?_
    obtain ⟨Z, r, S, q⟩ := q
    unfold mCallV at q
    cases e1 : gt r i with
    | none => rw [e1] at q; exact q.elim
    | some u =>
      rw [e1] at q
      cases u with
      | val d =>
        dsimp only at q
        cases e2 : fnOf d with
        | none => rw [e2] at q; exact q.elim
        | some y =>
          rw [e2] at q
          dsimp only at q
          cases e3 : C.fns y with
          | none => rw [e3] at q; exact q.elim
          | some w =>
            obtain ⟨fl, F⟩ := w
            rw [e3] at q
            dsimp only at q
            by_cases c : (fl.length == (List.map (sOpd C sc f) (e :: es)).length) = true
            · rw [if_pos c] at q
              have hl : fl.length = (e :: es).length := by simpa using c
              obtain ⟨fa, fd, ps, k, hm, hk, FN, hr, _, hb⟩ := G.fns y fl F e3
              have eg := G.gad y fl F e3
              rw [hm] at eg
              have ef : fa = He.ga X.K y := by cases eg; rfl
              obtain ⟨hp, hlen⟩ := G.args h hn hl
              obtain ⟨v, ev, hv⟩ := S.at_ i _ e1 (by intro z; cases z)
              have ed := fnOf_eq e2
              subst ed
              have := rp_fn hv
              subst this
              have q2 := call_to (K := X.K) (R := R) (W := W) ⟨Z, r, S, q⟩
              rw [hlen] at q2
              exact ⟨_, fd, ps, k, _, _, by rw [ef]; exact ev, FN, hr, hk, hb, hp, q2⟩
            · rw [if_neg c] at q; exact q.elim
      | _ => exact q.elim
/-- d.get(k, x) -/
theorem pe_mGet (hu : X.A.units + 1 < cLine) {j : Nat} {ob a b : Expr} {oa : Opd} {mb : Mm Vl} {apos cpos : Pos} (hn : PE X ob (tVar j)) (ha : OpdX X X.K R W a oa) (hb : PE X b (rdE X.K R W mb)) (h1 : notStar a = true) (h2 : notStar b = true) (hl : (apos.endLine == cpos.line) = true) (hat : attributeBase ob "get" X.env (eval ob X.env) = eval ob X.env := by rfl) :
    PE X (.Call (.Attribute ob "get" apos) [a, b] [] cpos) (rdE X.K R W (mGet j oa mb)) :=
  PE.to (pe_dget2 hu hn ha.pe (rdV_of hb) ⟨hat, by rw [starEach_cons h1, starEach_cons h2]; rfl, hl, by rw [starEach_cons h1, starEach_cons h2]; rfl⟩) fun σ H Q q => get_to q
/-- within a comprehension's block -/
theorem Good.blk (G : Good C R W sc X) {sc' : Scope} {own : List (Str × Nat)} (ok : blkC C.N sc sc' own = true) (s : Shared) (H : Hp) (D : Addr) (cl : List (Str × Addr)) (fp : List Addr) : Good C R WF sc' (X.blk s H sc' (compEnvC sc' cl D X.env) fp) where
  N := G.N
  nd := G.nd
  calm := G.calm
  gs := G.gs
  un := G.un
  tk := fun u s' ⟨a, B, sI, pins, σ, H, cls, d, e, I, nb, up, sky, na, os, ag, w⟩ => False.elim w
  nm := fun x k h => by
    have key : ∀ {names : List (Str × NameKind)}, names.lookup x = some k → (names.map fun (n, k) => if (k == NameKind.free && X.env.scope.kind == .function && X.env.kindOf n == some .cell) then (n, NameKind.cell) else (n, k)).lookup x = some k ∨ (k = .free ∧ (names.map fun (n, k) => if (k == NameKind.free && X.env.scope.kind == .function && X.env.kindOf n == some .cell) then (n, NameKind.cell) else (n, k)).lookup x = some .cell) := by
      intro names
      induction names with
      | nil => intro h; cases h
      | cons y ys ih =>
        obtain ⟨n, kk⟩ := y
        intro h
        rw [List.map_cons]
        cases hx : x == n with
        | true =>
          simp only [List.lookup_cons, hx] at h
          cases h
          by_cases hc : (k == NameKind.free && X.env.scope.kind == .function && X.env.kindOf n == some .cell) = true
          · refine .inr ⟨?_, ?_⟩
            · rw [Bool.and_eq_true, Bool.and_eq_true] at hc
              exact eq_of_beq hc.1.1
            · simp only [if_pos hc, List.lookup_cons, hx]
          · refine .inl ?_
            simp only [if_neg hc, List.lookup_cons, hx]
        | false =>
          simp only [List.lookup_cons, hx] at h
          by_cases hc : (kk == NameKind.free && X.env.scope.kind == .function && X.env.kindOf n == some .cell) = true
          · simp only [if_pos hc, List.lookup_cons, hx]; exact ih h
          · simp only [if_neg hc, List.lookup_cons, hx]; exact ih h
    exact key h
  fn := fun x h => by show (sc'.names.lookup x == some .cell) = true; rw [h]; rfl
  cst := G.cst
  dct := G.dct
  fns := G.fns
  gad := G.gad
  blt := G.blt
  ex1 := G.ex1
  ex2 := G.ex2
  ex3 := G.ex3
  rm := G.rm
  lam := G.lam
  wd := G.wd
  wd2 := G.wd2
/-- the block's names are found -/
theorem Good.blkOk (G : Good C R W sc X) {sc' : Scope} {own : List (Str × Nat)} (ok : blkC C.N sc sc' own = true) : BlkOk X.N X.env.scope sc' own := by
  have b := blkOk_by ok
  rw [G.N]
  refine ⟨b.kind, b.uniq, b.ix, fun y hy e => ?_, b.own⟩
  rcases b.free y hy e with k | k
  · rcases G.nm _ _ k with q | ⟨z, q⟩
    · exact .inl q
    · cases z
  · rcases G.nm _ _ k with q | ⟨z, q⟩
    · exact .inr q
    · exact .inl q
theorem lc_pe (G : Good C R W sc X) {sc' : Scope} {own : List (Str × Nat)} (ok : blkC C.N sc sc' own = true) {tg it elt : Expr} {ifs : List Expr} {f : List Da → Option (List Da)} {os : List Opd} {t : Tg} {mc : Mm Bool} {m : Mm Vl} (hi : IterX X X.K R W tg it f os)
    (hg : ∀ {X' : Cx}, Good C R WF sc' X' → PG X' tg (gTg X'.K t)) (ht : ∀ {X' : Cx}, Good C R WF sc' X' → PTs X' ifs (rdT X'.K R WF mc)) (he : ∀ {X' : Cx}, Good C R WF sc' X' → PE X' elt (rdE X'.K R WF m)) (hs : notSet it = true) (hto : tgIn (own.map (·.2)) t = true) :
    PE X (.ListComp elt [⟨tg, it, ifs, 0⟩] sc' pos) (rdE X.K R W (mLc (own.map (·.2)) t f os mc m)) := by
  obtain ⟨wi, hw, hpi⟩ := hi
  exact PE.to (pe_lc G.calm (by rw [G.N]; exact G.nd) hpi (G.blkOk ok) (fun s H D cl fp => hg (G.blk ok s H D cl fp)) (fun s H D cl fp => ht (G.blk ok s H D cl fp)) (fun s H D cl fp => rdV_of (he (G.blk ok s H D cl fp))) (folded_not hs _)) fun σ H Q q => lc_to hw hto q
theorem lc_ps (G : Good C R W sc X) {sc' : Scope} {own : List (Str × Nat)} (ok : blkC C.N sc sc' own = true) {tg it elt : Expr} {ifs : List Expr} {f : List Da → Option (List Da)} {os : List Opd} {t : Tg} {mc : Mm Bool} {m : Mm Vl} {i : Nat} {y : Str} {py spos : Pos} (hi : IterX X X.K R W tg it f os)
    (hg : ∀ {X' : Cx}, Good C R WF sc' X' → PG X' tg (gTg X'.K t)) (ht : ∀ {X' : Cx}, Good C R WF sc' X' → PTs X' ifs (rdT X'.K R WF mc)) (he : ∀ {X' : Cx}, Good C R WF sc' X' → PE X' elt (rdE X'.K R WF m)) (hs : notSet it = true) (hto : tgIn (own.map (·.2)) t = true)
    (hy : C.N[i]? = some y) (hyl : X.env.scope.names.lookup y = some .local) (hsw : swapsWith (.ListComp elt [⟨tg, it, ifs, 0⟩] sc' pos) (some (.Name y py)) spos.line X.env = pure true) :
    PS X (.Assign [.Name y py] (.ListComp elt [⟨tg, it, ifs, 0⟩] sc' pos) spos) (rdS X.K R W (mAsg i (mLc (own.map (·.2)) t f os mc m))) := by
  obtain ⟨wi, hw, hpi⟩ := hi
  exact ps_mAsgLc (ps_setLc G.calm (by rw [G.N]; exact G.nd) (by rw [G.N]; exact hy) hyl hsw hpi (G.blkOk ok) (fun s H D cl fp => hg (G.blk ok s H D cl fp)) (fun s H D cl fp => ht (G.blk ok s H D cl fp)) (fun s H D cl fp => rdV_of (he (G.blk ok s H D cl fp))) (folded_not hs _)) fun σ H Q q => lc_to hw hto q
/-- targets -/
theorem assignEach_plain {env : Env} (h : notStar e = true) : assignEach (e :: es) env = (false, assign e env) :: assignEach es env := by
  cases e <;> first | rfl | (simp [notStar] at h)
theorem tgs_pg (G : Good C R W sc X) : ∀ (n : Nat), (∀ (e : Expr) (t : Tg), semTg C sc n e = some t → PG X e (gTg X.K t) ∧ notStar e = true) ∧
    (∀ (es : List Expr) (ts : List Tg), semTgs C sc n es = some ts → PGs X es (gTgs X.K ts) ∧ es.all notStar = true ∧ es.length = ts.length)
  | 0 => ⟨fun e t h => (by cases h), fun es ts h => (by cases h)⟩
  | n + 1 => by
    obtain ⟨ih1, ih2⟩ := tgs_pg G n
    refine ⟨fun e t h => ?_, fun es ts h => ?_⟩
    · unfold semTg at h
      split at h
      · rename_i x p
        cases es : slotL C sc x with
        | none => rw [es] at h; cases h
        | some i =>
          rw [es] at h
          cases h
          unfold slotL at es
          by_cases c : locB sc x = true
          · rw [if_pos c] at es
            obtain ⟨h1, h2⟩ := G.loc c
            exact ⟨pg_name (by rw [G.N]; exact G.nd) (by rw [G.N]; exact idx_get es) h1 h2, rfl⟩
          · rw [if_neg c] at es; cases es
      · rename_i es k p
        cases e1 : semTgs C sc n es with
        | none => rw [e1] at h; cases h
        | some ts =>
          rw [e1] at h
          cases h
          obtain ⟨h1, h2, h3⟩ := ih2 es ts e1
          have len : ∀ {es : List Expr} {env : Env}, es.all notStar = true → (assignEach es env).length = es.length ∧ (assignEach es env).findIdx? (·.1) = none := by
            intro es env
            induction es with
            | nil => intro _; exact ⟨rfl, rfl⟩
            | cons e es ih =>
              intro hn
              rw [List.all_cons, Bool.and_eq_true] at hn
              rw [assignEach_plain hn.1]
              obtain ⟨h1, h2⟩ := ih hn.2
              exact ⟨by simp [h1], by rw [List.findIdx?_cons]; simp [h2]⟩
          exact ⟨pg_sqU G.calm h1 (by rw [(len h2).1]; exact h3) (len h2).2, rfl⟩
      · cases h
    · unfold semTgs at h
      split at h
      · cases h; exact ⟨pgs_nil, rfl, rfl⟩
      · rename_i e es
        split at h
        · rename_i t ts e1 e2
          cases h
          obtain ⟨h1, h0⟩ := ih1 e t e1
          obtain ⟨h2, h3, h4⟩ := ih2 es ts e2
          exact ⟨pgs_cons h1 h2 (by rw [assignEach_plain h0]; rfl), by rw [List.all_cons, h0, h3]; rfl, by simp [h4]⟩
        · cases h
theorem plainIx_of {b : Expr} (h : isSl b = false) : PlainIx b := by
  intro o i
  cases b <;> first | rfl | (simp [isSl] at h)
theorem tests_nil {X' : Cx} {R' : XR} : PTs X' [] (rdT X'.K R' WF (mRet true)) := ⟨fun pins s σ H Q I q => pts_nil.run pins s σ H Q I (by
  obtain ⟨Z, r, S, k⟩ := q
  exact k Z H S Fr.refl)⟩

theorem rangeArg_ok {e a : Expr} {y : Str} (h : rangeArg e = some (y, a)) : (y = Str.ofString "range" ∧ notStar a = true) ∧ ∃ p1 p2, e = .Call (.Name y p1) [a] [] p2 := by
  unfold rangeArg at h
  split at h
  · split at h
    · rename_i hc
      rw [Bool.and_eq_true] at hc
      cases h
      exact ⟨⟨sF_eq hc.1, hc.2⟩, _, _, rfl⟩
    · cases h
  · cases h
theorem rangeOf_ok {es : List Expr} {a : Expr} {y : Str} (h : rangeOf es = some (y, a)) : (y = Str.ofString "range" ∧ notStar a = true) ∧ ∃ p1 p2, es = [.Call (.Name "range" p1) [a] [] p2] := by
  unfold rangeOf at h
  split at h
  · obtain ⟨q1, p1, p2, rfl⟩ := rangeArg_ok h
    exact ⟨q1, p1, p2, by rw [q1.1]⟩
  · cases h
/-- every expression does what the small semantics says -/
theorem expr_okC (R : XR) : ∀ (n : Nat) (C : Cfg),
    (∀ (sc : Scope) (W : WX) (X : Cx), Good C R W sc X → ∀ e, PE X e (rdE X.K R W (semE C n sc e))) ∧
    (∀ (sc : Scope) (W : WX) (X : Cx), Good C R W sc X → ∀ (x : Str) (args : List Expr) (p pos : Pos), gloB sc x = true → okN x = true → C.blt x = true → PE X (.Call (.Name x p) args [] pos) (rdE X.K R W (semB C n sc x args))) ∧
    (∀ (sc : Scope) (W : WX) (X : Cx), Good C R W sc X → (∀ e, PT X e (rdT X.K R W (semT C n sc e))) ∧ ∀ op vs p, PW X (.BoolOp op vs p) (rdT X.K R W (semT C n sc (.BoolOp op vs p)))) ∧
    (∀ (sc : Scope) (W : WX) (X : Cx), Good C R W sc X → ∀ tg e f os, semI C n sc tg e = some (f, os) → IterX X X.K R W tg e f os)
  | 0, C => ⟨fun _ _ _ _ _ => pe_mStuck, fun _ _ _ _ _ _ _ _ _ _ _ => pe_mStuck, fun _ _ _ _ => ⟨fun _ => pt_mStuck, fun _ _ _ => ⟨fun _ _ _ _ _ _ _ q => by obtain ⟨_, _, _, q⟩ := q; exact False.elim q⟩⟩, fun _ _ _ _ _ _ _ _ h => (by cases h)⟩
  | n + 1, C => by
    obtain ⟨ihE, ihB, ihT, ihI⟩ := expr_okC R n C
    have ihL := (expr_okC R n { C with lam := false }).1
    refine ⟨fun sc W X G e => ?_, fun sc W X G x args p pos hx ho hb => ?_, fun sc W X G => ?_, fun sc W X G tg e f os h => ?_⟩
    · have od : ∀ e, OpdX X X.K R W e (sOpd C sc (semE C n sc) e) := fun e => G.opd (ihE sc W X G e)
      unfold semE
      split
      · split
        · rename_i d hd; exact const_pe hd
        · exact pe_mStuck
      · rename_i x p
        split
        · rename_i i ei; exact pe_mVar (G.var ei)
        · split
          · rename_i hc
            rw [Bool.and_eq_true] at hc
            split
            · rename_i d hd
              split
              · rename_i hpl
                obtain ⟨v, u, hm, hr, hz⟩ := G.cst x d hd hpl
                exact pe_mC (pe_glob (G.glo hc.1) hm hr (okN_d hc.2).1) hz
              · exact pe_mStuck
            · split
              · rename_i hd
                obtain ⟨⟨fl, F⟩, hF⟩ := Option.isSome_iff_exists.mp hd
                exact pe_mC (v := .ref (He.ga X.K x)) (pe_glob (G.glo hc.1) (G.gad x fl F hF) rfl (okN_d hc.2).1) fun Z => .fn x
              · exact pe_mStuck
          · exact pe_mStuck
      · rename_i a op b p
        split
        · rename_i f hf; exact bin_pe hf (od a) (od b)
        · exact pe_mStuck
      · exact pe_mUn un_neg opS_neg (od _)
      · exact pe_mNot (ihE sc W X G _)
      · rename_i a op b p
        split
        · exact pe_mStuck
        · rename_i hm
          split
          · rename_i ps hps
            split
            · rename_i f hf; exact (cmpK_pe G hf (od a) hps (by simpa using hm)).1
            · exact pe_mStuck
          · split
            · rename_i f hf; exact (cmp_pe G hf (od a) (od b) (by simpa using hm)).1
            · exact pe_mStuck
      · rename_i a op op' b c p
        split
        · exact pe_mStuck
        · rename_i hm
          split
          · rename_i f g hf hg; exact (ch_pe hf hg (od a) (od b) (od c) (by simp only [Bool.or_eq_true, not_or, Bool.not_eq_true] at hm; exact hm.2)).1
          · exact pe_mStuck
      · rename_i a op op' op'' b c d p
        split
        · exact pe_mStuck
        · rename_i hm
          split
          · rename_i f g h hf hg hh; exact (ch3_pe hf hg hh (od a) (od b) (od c) (od d) (by simpa using hm)).1
          · exact pe_mStuck
      · exact pe_one (ihE sc W X G _)
      · exact pe_mAnd (ihE sc W X G _) (ihE sc W X G _)
      · exact pe_one (ihE sc W X G _)
      · exact pe_mOr (ihE sc W X G _) (ihE sc W X G _)
      · exact pe_mIf ((ihT sc W X G).1 _) (ihE sc W X G _) (ihE sc W X G _)
      · split
        · rename_i hc
          rw [Bool.and_eq_true, decide_eq_true_eq] at hc
          exact pe_mTup (G.exx (ihE sc W X G) hc.1) (by simpa using hc.2)
        · exact pe_mStuck
      · split
        · rename_i hc
          rw [Bool.and_eq_true, decide_eq_true_eq] at hc
          exact pe_mLst (G.exx (ihE sc W X G) hc.1) (by simpa using hc.2)
        · exact pe_mStuck
      · exact pe_mDct0
      · split
        · rename_i k d e1 e2
          exact pe_mDct1 e1 e2
        · exact pe_mStuck
      · exact pe_mSl (od _)
      · exact pe_mSlL (od _) (od _)
      · exact pe_mSlH (od _) (od _)
      · exact pe_mSlLH (od _) (ihE sc W X G _) (od _)
      · exact pe_mRev (od _)
      · split
        · exact pe_mStuck
        · rename_i hs
          split
          · rename_i ps hps; exact ixK_pe G (od _) hps (plainIx_of (by simpa using hs))
          · exact pe_mItem (by have := G.un; omega) (od _) (od _) (plainIx_of (by simpa using hs))
      · rename_i x p ps b sc' lp pos
        split
        · rename_i hc
          simp only [Bool.and_eq_true] at hc
          split
          · rename_i w hw
            exact word_pe G hc.1.1.1.1 hc.1.1.1.2 hc.1.1.2 hc.1.2 hc.2 hw fun {X'} {W'} G' => ihL _ _ _ G' b
          · split
            · rename_i w2 w1 hw
              exact word2_pe G hc.1.1.1.1 hc.1.1.1.2 hc.1.1.2 hc.1.2 hc.2 hw fun {X'} {W'} G' => ihL _ _ _ G' b
            · exact pe_mStuck
        · exact pe_mStuck
      · rename_i x p args pos _
        split
        · rename_i hc
          rw [Bool.and_eq_true] at hc
          split
          · rename_i fl F hf
            split
            · rename_i hn
              rw [Bool.and_eq_true, beq_iff_eq] at hn
              exact call_pe G (ihE sc W X G) hc.1 hc.2 hf hn.1 hn.2
            · exact pe_mStuck
          · split
            · rename_i hb; exact ihB sc W X G x args p pos hc.1 hc.2 hb
            · exact pe_mStuck
        · split
          · rename_i i hi
            split
            · rename_i hn
              rw [Bool.and_eq_true] at hn
              exact callV_pe G (ihE sc W X G) hi hn.1 (by simpa using hn.2)
            · exact pe_mStuck
          · exact pe_mStuck
      · rename_i x p nm ap args cp
        split
        · rename_i j hj
          split
          · rename_i hl
            split
            · split
              · rename_i hn; have := sF_eq hn; subst this
                exact pe_mMeth0 meth_pop PySem.F.slot_list_pop PySem.F.type_list_pop mt_popU (G.var hj) rfl hl
              · split
                · rename_i hn; have := sF_eq hn; subst this
                  exact pe_mMeth0 meth_clear PySem.F.slot_list_clear PySem.F.type_list_clear mt_clear (G.var hj) rfl hl
                · exact pe_mStuck
            · rename_i a
              split
              · rename_i ha
                split
                · rename_i hn; have := sF_eq hn; subst this
                  exact pe_mApp (G.var hj) (ihE sc W X G _) ha rfl hl
                · split
                  · rename_i hn; have := sF_eq hn; subst this
                    exact pe_mMeth meth_pop PySem.F.slot_list_pop PySem.F.type_list_pop mt_popU (G.var hj) (.cons ha (od _) .nil) rfl hl
                  · split
                    · rename_i hn; have := sF_eq hn; subst this
                      exact pe_mMeth meth_ext PySem.F.slot_list_extend PySem.F.type_list_extend mt_extU (G.var hj) (.cons ha (od _) .nil) rfl hl
                    · exact pe_mStuck
              · exact pe_mStuck
            · rename_i a b
              split
              · rename_i hab
                simp only [Bool.and_eq_true] at hab
                have := sF_eq hab.2
                subst this
                exact pe_mGet (by have := G.un; omega) (G.var hj) (od a) (ihE sc W X G b) hab.1.1 hab.1.2 hl
              · exact pe_mStuck
            · exact pe_mStuck
          · exact pe_mStuck
        · exact pe_mStuck
      · rename_i z k2 p2 nm ap a cp
        split
        · rename_i hc
          simp only [Bool.and_eq_true] at hc
          have := sF_eq hc.1.2
          subst this
          exact pe_mJoin (od a) hc.2 hc.1.1
        · exact pe_mStuck
      · rename_i elt tg it ifs sc' p
        split
        · rename_i hc
          rw [Bool.and_eq_true] at hc
          split
          · rename_i t f os h1 h2
            split
            · rename_i hto
              have hi := ihI sc W X G tg it f os h2
              have hg : ∀ {X' : Cx}, Good C R WF sc' X' → PG X' tg (gTg X'.K t) := fun G' => ((tgs_pg G' n).1 tg t h1).1
              split
              · exact lc_pe G hc.1 hi hg (fun G' => tests_nil) (fun G' => ihE sc' WF _ G' elt) hc.2 hto
              · exact lc_pe G hc.1 hi hg (fun G' => pts_one ((ihT sc' WF _ G').1 _)) (fun G' => ihE sc' WF _ G' elt) hc.2 hto
              · exact pe_mStuck
            · exact pe_mStuck
          · exact pe_mStuck
        · exact pe_mStuck
      · exact pe_mStuck
    · unfold semB
      split
      · rename_i hi
        have := sF_eq hi
        subst this
        split
        · rename_i a tn q
          split
          · rename_i hc
            rw [Bool.and_eq_true] at hc
            split
            · rename_i T hT
              obtain ⟨h1, h2⟩ := ty_boot hT
              obtain ⟨g1, g2, g3⟩ := G.blt' hc.2
              exact pe_mIsi (p3 := p) h1 (G.glo hx) (G.blt _ hb) g1 g2 h2 (okN_d g3).2.2 (okN_d g3).1 (G.opd (ihE sc W X G a)) hc.1
            · exact pe_mStuck
          · exact pe_mStuck
        · exact pe_mStuck
      · split
        · rename_i hl
          rw [Bool.and_eq_true] at hl
          have := sF_eq hl.1
          subst this
          split
          · rename_i y a hr
            split
            · rename_i hc
              rw [Bool.and_eq_true] at hc
              obtain ⟨q1, q2⟩ := rangeOf_ok hr
              obtain ⟨p1, p2, rfl⟩ := q2
              have qy := q1.1
              subst qy
              obtain ⟨g1, g2, _⟩ := G.blt' hc.1
              exact pe_mLRange G.calm (G.glo hx) (G.blt _ hb) g1 g2 (G.opd (ihE sc W X G a)) q1.2
            · exact pe_mStuck
          · exact pe_mStuck
        · split
          · rename_i f hf
            split
            · exact pe_mStuck
            · rename_i args' hne
              split
              · rename_i hn
                cases args with
                | nil => exact absurd rfl hne
                | cons a as => exact fn_pe G hx ho (G.blt _ hb) hf (G.opx (ihE sc W X G) hn)
              · exact pe_mStuck
          · exact pe_mStuck
    · have od : ∀ e, OpdX X X.K R W e (sOpd C sc (semE C n sc) e) := fun e => G.opd (ihE sc W X G e)
      obtain ⟨iT, iW⟩ := ihT sc W X G
      have hw : ∀ op vs p, PW X (.BoolOp op vs p) (rdT X.K R W (semT C (n + 1) sc (.BoolOp op vs p))) := by
        intro op vs p
        cases op with
        | And =>
          match vs with
          | [] => exact ⟨fun _ _ _ _ _ _ _ q => by obtain ⟨_, _, _, q⟩ := q; exact False.elim q⟩
          | [a] => exact pw_mAnd1 (iT a)
          | a :: b :: es => exact pw_mAnd (iT a) (iW .And (b :: es) p)
        | Or =>
          match vs with
          | [] => exact ⟨fun _ _ _ _ _ _ _ q => by obtain ⟨_, _, _, q⟩ := q; exact False.elim q⟩
          | [a] => exact pw_mOr1 (iT a)
          | a :: b :: es => exact pw_mOr (iT a) (iW .Or (b :: es) p)
      refine ⟨fun e => ?_, hw⟩
      cases e with
      | BoolOp op vs p => exact (hw op vs p).pt
      | UnaryOp op a p =>
        cases op with
        | Not => exact pt_mNot (iT a)
        | _ => exact pt_mStuck
      | Compare a ops cs p =>
        match ops, cs with
        | [op], [b] =>
          show PT X _ (rdT X.K R W (if behindInMarks op b = true then mStuck else match dctOf C sc b with
            | some ps => (match cmpK ps op with
              | some f => mTest (mOp f [sOpd C sc (semE C n sc) a])
              | none => mStuck)
            | none => match cmpF op with
            | some f => mTest (mOp f [sOpd C sc (semE C n sc) a, sOpd C sc (semE C n sc) b])
            | none => mStuck))
          split
          · exact pt_mStuck
          · rename_i hm
            split
            · rename_i ps hps
              split
              · rename_i f hf; exact (cmpK_pe G hf (od a) hps (by simpa using hm)).2
              · exact pt_mStuck
            · split
              · rename_i f hf; exact (cmp_pe G hf (od a) (od b) (by simpa using hm)).2
              · exact pt_mStuck
        | [op, op'], [b, c] =>
          show PT X _ (rdT X.K R W (if (behindInMarks op b || behindInMarks op' c) = true then mStuck else match chF op, chF op' with
            | some f, some g => mTest (mChain f g (sOpd C sc (semE C n sc) a) (sOpd C sc (semE C n sc) b) (sOpd C sc (semE C n sc) c))
            | _, _ => mStuck))
          split
          · exact pt_mStuck
          · rename_i hm
            split
            · rename_i f g hf hg; exact (ch_pe hf hg (od a) (od b) (od c) (by simp only [Bool.or_eq_true, not_or, Bool.not_eq_true] at hm; exact hm.2)).2
            · exact pt_mStuck
        | [op, op', op''], [b, c, d] =>
          show PT X _ (rdT X.K R W (if behindInMarks op'' d = true then mStuck else match chF op, chF op', chF op'' with
            | some f, some g, some h => mTest (mChain3 f g h (sOpd C sc (semE C n sc) a) (sOpd C sc (semE C n sc) b) (sOpd C sc (semE C n sc) c) (sOpd C sc (semE C n sc) d))
            | _, _, _ => mStuck))
          split
          · exact pt_mStuck
          · rename_i hm
            split
            · rename_i f g h hf hg hh; exact (ch3_pe hf hg hh (od a) (od b) (od c) (od d) (by simpa using hm)).2
            · exact pt_mStuck
        | [], _ => exact pt_mStuck
        | [_], [] => exact pt_mStuck
        | [_], _ :: _ :: _ => exact pt_mStuck
        | [_, _], [] => exact pt_mStuck
        | [_, _], [_] => exact pt_mStuck
        | [_, _], _ :: _ :: _ :: _ => exact pt_mStuck
        | [_, _, _], [] => exact pt_mStuck
        | [_, _, _], [_] => exact pt_mStuck
        | [_, _, _], [_, _] => exact pt_mStuck
        | [_, _, _], _ :: _ :: _ :: _ :: _ => exact pt_mStuck
        | _ :: _ :: _ :: _ :: _, _ => exact pt_mStuck
      | IfExp c a b p => exact pt_mIf (iT c) (iT a) (iT b)
      | Name x p => exact pt_mTest (ihE sc W X G _) fun _ => rfl
      | Call a b c d => exact pt_mTest (ihE sc W X G _) fun _ => rfl
      | Constant a b c => exact pt_mTest (ihE sc W X G _) fun _ => rfl
      | Subscript a b c => exact pt_mTest (ihE sc W X G _) fun _ => rfl
      | _ => exact pt_mStuck
    · have od : ∀ e, OpdX X X.K R W e (sOpd C sc (semE C n sc) e) := fun e => G.opd (ihE sc W X G e)
      unfold semI at h
      split at h
      · rename_i x p args pos
        split at h
        · rename_i hc
          rw [Bool.and_eq_true, Bool.and_eq_true] at hc
          obtain ⟨g1, g2, _⟩ := G.blt' hc.1.1
          have ox := G.opx (ihE sc W X G) hc.2
          split at h
          · rename_i hn
            have := sF_eq hn
            subst this
            split at h
            · cases h; exact iterX_range1 g1 g2 ox
            · cases h; exact iterX_range2 g1 g2 ox
            · cases h; exact iterX_range3 g1 g2 ox
            · cases h
          · split at h
            · rename_i hn
              have := sF_eq hn
              subst this
              split at h
              · split at h
                · rename_i a0 b0 ht
                  split at h
                  · rename_i y a hr
                    split at h
                    · rename_i hc2
                      rw [Bool.and_eq_true] at hc2
                      obtain ⟨q1, p1, p2, rfl⟩ := rangeArg_ok hr
                      have := q1.1
                      subst this
                      obtain ⟨k1, k2, _⟩ := G.blt' hc2.1
                      cases h
                      have nb : notStar b0 = true := by
                        have := hc.2
                        simp only [List.all_cons, Bool.and_eq_true] at this
                        exact this.2.1
                      cases tg <;> first | (simp [isTupE] at ht; done) | exact iterX_zipR g1 g2 k1 k2 (ihE sc W X G a) (od _) q1.2 nb
                    · cases h
                  · cases h
                    cases tg <;> first | (simp [isTupE] at ht; done) | exact iterX_zip g1 g2 ox
                · cases h
              · cases h
            · split at h
              · rename_i hn
                have := sF_eq hn
                subst this
                split at h
                · split at h
                  · rename_i ht
                    cases h
                    cases tg <;> first | (simp [isTupE] at ht; done) | exact iterX_enum g1 g2 ox
                  · cases h
                · cases h
              · cases h; exact iterX_any (od _)
        · cases h; exact iterX_any (od _)
      · cases h; exact iterX_any (od _)
def expr_ok (C : Cfg) (R : XR) (n : Nat) := expr_okC R n C
end
end Mi

set_option maxHeartbeats 1000000
namespace Mi
open PySem PySem.Spec PyProof.Rows L2

section
variable {C : Cfg} {R : XR} {W : WX} {sc : Scope} {X : Cx} {x : Str} {i : Nat} {p pos : Pos} {e : Expr} {es : List Expr} {K : PySem.W.Frag} {Z H : Hp} {σ : L2.St} {r : Rho} {D : Ends} {m : Mm Vl}
theorem asg_stuck {st : Stmt} : PS X st (rdS X.K R W (mAsg i mStuck)) := ⟨fun _ _ _ _ _ _ q => by obtain ⟨_, _, _, q⟩ := q; exact False.elim q⟩
theorem ps_mAsgT {tg : Expr} {t : Tg} (h : PE X e (rdE X.K R W m)) (hg : PG X tg (gTg X.K t)) (hs : swapsWithSole [tg] e pos.line X.env = pure false) (hw : swappedStores [tg] e X.env = pure none) (h1 : (assignEach [tg] X.env).map (·.2) = [assign tg X.env]) :
    PS X (.Assign [tg] e pos) (rdS X.K R W (mAsgT t m)) := PS.to (ps_asg (rdV_of h) hg hs hw h1) fun D σ H q => by
  obtain ⟨Z, r, S, q⟩ := q
  unfold mAsgT at q
  refine ⟨Z, r, S, (Es.bndE q).mono fun d r1 Z1 H1 S1 F1 k x hx => ?_⟩
  have k1 := Es.start F1 k
  cases em : mTg t d r1 with
  | stuck => unfold mBnd at k1; rw [em] at k1; exact k1.elim
  | exc ex r2 => exact absurd em (mTg_exc _ _ _ _ _)
  | ok u r2 =>
    obtain ⟨σ', S2, F2, hq⟩ := tg_to t Fr.refl S1 hx em
    refine hq _ ?_
    unfold mBnd at k1
    rw [em] at k1
    exact k1 σ' Z1 H1 S2 F2
theorem swaps_not (h : isComp e = false) (t : Option Expr) (l : Nat) (env : Env) : swapsWith e t l env = pure false := by
  cases e <;> first | rfl | (simp [isComp] at h)
theorem swaps_sub {o ix : Expr} {p' : Pos} (l : Nat) (env : Env) : swapsWithSole [.Subscript o ix p'] e l env = pure false := by
  cases e <;> rfl
theorem block_fn {env : Env} (h : env.scope.kind = .function) : env.blockKind = .function := by
  unfold Env.blockKind; rw [h]; rfl
theorem star_any : ∀ {es : List Expr}, es.all notStar = true → (es.any fun | .Starred .. => true | _ => false) = false
  | [], _ => rfl
  | e :: es, h => by
    rw [List.all_cons, Bool.and_eq_true] at h
    rw [List.any_cons, star_any h.2, Bool.or_false]
    have h1 := h.1
    cases e <;> first | rfl | (simp [notStar] at h1)
theorem swap2 {env : Env} (hk : env.scope.kind = .function) {x y : Str} {px py pt pt2 : Pos} {kt k2 : Nat} {a b : Expr} (hx : env.scope.names.lookup x = some .local) (hy : env.scope.names.lookup y = some .local) (hne : x ≠ y) (hl : (px.line == py.line) = true)
    (hs : [a, b].all notStar = true) (h1 : [a, b].all (foldedForSure 8) = false) (h2 : [a, b].all (constantsAlone 8) = false) : swappedStores [.Tuple [.Name x px, .Name y py] kt pt] (.Tuple [a, b] k2 pt2) env = pure (some [x, y]) := by
  have hb := block_fn hk
  have kx : env.kindOf x = some .local := hx
  have ky : env.kindOf y = some .local := hy
  have st := star_any hs
  have e1 : (py.line == px.line) = true := by rw [eq_of_beq hl]; exact beq_self_eq_true _
  have n1 : (y == x) = false := by simpa using Ne.symm hne
  have p1 : (Expr.Name x px).pos = px := rfl
  have e1' := eq_of_beq e1
  unfold swappedStores
  simp only [hb]
  refine (if_neg (by simp)).trans ((if_neg (fun z => Bool.false_ne_true (st.symm.trans z))).trans ((if_neg ?_).trans ((if_neg (by rw [h1]; exact Bool.false_ne_true)).trans ((if_neg (by rw [h2]; exact Bool.false_ne_true)).trans ?_))))
  · simp [List.filterMap, kx, ky, p1, e1', List.eraseDups, List.eraseDupsBy, List.eraseDupsBy.loop, n1]
  · simp [List.filterMap, kx, ky, p1, e1']
theorem swap3 {env : Env} (hk : env.scope.kind = .function) {x y z : Str} {px py pz pt pt2 : Pos} {kt k2 : Nat} {a b c : Expr} (hx : env.scope.names.lookup x = some .local) (hy : env.scope.names.lookup y = some .local) (hz : env.scope.names.lookup z = some .local) (hxy : x ≠ y) (hxz : x ≠ z) (hyz : y ≠ z) (hl : (px.line == py.line) = true) (hl2 : (px.line == pz.line) = true)
    (hs : [a, b, c].all notStar = true) (h1 : [a, b, c].all (foldedForSure 8) = false) (h2 : [a, b, c].all (constantsAlone 8) = false) : swappedStores [.Tuple [.Name x px, .Name y py, .Name z pz] kt pt] (.Tuple [a, b, c] k2 pt2) env = pure (some [x, y, z]) := by
  have hb := block_fn hk
  have kx : env.kindOf x = some .local := hx
  have ky : env.kindOf y = some .local := hy
  have kz : env.kindOf z = some .local := hz
  have st := star_any hs
  have e1 : (py.line == px.line) = true := by rw [eq_of_beq hl]; exact beq_self_eq_true _
  have e2 : (pz.line == px.line) = true := by rw [eq_of_beq hl2]; exact beq_self_eq_true _
  have n1 : (y == x) = false := by simpa using Ne.symm hxy
  have p1 : (Expr.Name x px).pos = px := rfl
  have e1' := eq_of_beq e1
  have e2' := eq_of_beq e2
  have n2 : (z == x) = false := by simpa using Ne.symm hxz
  have n3 : (z == y) = false := by simpa using Ne.symm hyz
  unfold swappedStores
  simp only [hb]
  refine (if_neg (by simp)).trans ((if_neg (fun z => Bool.false_ne_true (st.symm.trans z))).trans ((if_neg ?_).trans ((if_neg (by rw [h1]; exact Bool.false_ne_true)).trans ((if_neg (by rw [h2]; exact Bool.false_ne_true)).trans ?_))))
  · simp [List.filterMap, kx, ky, kz, p1, e1', e2', List.eraseDups, List.eraseDupsBy, List.eraseDupsBy.loop, n1, n2, n3]
  · simp [List.filterMap, kx, ky, kz, p1, e1', e2']
theorem noSwap {env : Env} {ts es : List Expr} {pt pt2 : Pos} {kt k2 : Nat} (h1 : es.all (foldedForSure 8) = true) : swappedStores [.Tuple ts kt pt] (.Tuple es k2 pt2) env = pure none := by
  unfold swappedStores
  simp only [h1]
  split
  · rfl
  · split
    · rfl
    · split <;> rfl
/-- values of one's own, when something new is made -/
theorem TmpAll.ext {σ0 : L2.St} {H0 : Hp} {r0 : Rho} {Z1 H1 Z2 H2 : Hp} (E : Ext Z1 H1 Z2 H2) : ∀ {xs : List V} {vs : List Vl}, TmpAll K σ0 H0 r0 Z1 σ H1 r xs vs → TmpAll K σ0 H0 r0 Z2 σ H2 r xs vs
  | [], [], _ => trivial
  | [], _ :: _, h => h.elim
  | _ :: _, [], h => h.elim
  | x :: xs, v :: vs, ⟨hx, ap, t⟩ => by
    refine ⟨?_, ap, TmpAll.ext E t⟩
    cases v with
    | val d => exact Rp.le E.zm d x hx
    | lent d => exact hx
    | lck => exact hx
    | own d =>
      refine ⟨?_, hx.2⟩
      obtain ⟨a, o, ea, hz, hh, hc⟩ := hx.1
      refine ⟨a, o, ea, ?_, E.hk _ _ hh, ObC.le E.zm hc⟩
      cases q : Z2 a with
      | none => rfl
      | some u =>
        have := E.zn a hz (by rw [q]; intro z; cases z)
        rw [hh] at this; cases this
theorem gTgs_names : ∀ {is : List Nat} {xs : List V} {σ : L2.St} {H : Hp} {Q : L2.St → Hp → Prop}, is.length = xs.length → Q (setAll σ is xs) H → gTgs K (is.map .nm) xs σ H Q
  | [], [], _, _, _, _, q => ⟨rfl, q⟩
  | [], _ :: _, _, _, _, h, _ => by simp at h
  | _ :: _, [], _, _, _, h, _ => by simp at h
  | i :: is, x :: xs, σ, H, Q, h, q => ⟨x, xs, rfl, gTgs_names (is := is) (xs := xs) (by simpa using h) q⟩
/-- a, b = x, y by way of a tuple: each gets its own -/
theorem ps_mParU {is : List Nat} {ms : List (Mm Vl)} {es : List Expr} {tg : Expr} {k : Nat} {pt spos : Pos} (hv : VlsX X R W es ms) (hz : ms.length ≤ 100000) (hg : PG X tg (gTg X.K (.tp (is.map .nm))))
    (hw : swappedStores [tg] (.Tuple es k pt) X.env = pure none) (h1 : (assignEach [tg] X.env).map (·.2) = [assign tg X.env]) : PS X (.Assign [tg] (.Tuple es k pt) spos) (rdS X.K R W (mPar is ms)) :=
  PS.to (ps_asg (pe_tup hv.pa) hg rfl hw h1) fun D σ H q => by
    obtain ⟨Z, r, S, q⟩ := q
    unfold mPar at q
    have hlen : ∀ {ms : List (Mm Vl)} {r r1 : Rho} {vs : List Vl}, mVls ms r = .ok vs r1 → vs.length = ms.length := by
      intro ms
      induction ms with
      | nil => intro r r1 vs e; cases e; rfl
      | cons m ms ih =>
        intro r r1 vs e
        unfold mVls mBnd at e
        cases e1 : m r with
        | stuck => rw [e1] at e; cases e
        | exc ex r2 => rw [e1] at e; cases e
        | ok v r2 =>
          rw [e1] at e
          dsimp only at e
          cases e2 : mVls ms r2 with
          | stuck => rw [e2] at e; cases e
          | exc ex r3 => rw [e2] at e; cases e
          | ok us r3 =>
            rw [e2] at e
            cases e
            simp [ih e2]
    have tl : ∀ {σ0 : L2.St} {H0 : Hp} {r0 : Rho} {Z1 H1 : Hp} {r1 : Rho} {xs : List V} {vs : List Vl}, TmpAll X.K σ0 H0 r0 Z1 σ H1 r1 xs vs → xs.length = vs.length := by
      intro σ0 H0 r0 Z1 H1 r1 xs
      induction xs with
      | nil => intro vs h; cases vs <;> first | rfl | exact h.elim
      | cons x xs ih => intro vs h; cases vs <;> first | exact h.elim | simp [ih h.2.2]
    have main : tVls X.K R W ms σ H (fun xs H1 => xs.length ≤ sizeLine ∧ ∀ p, H1 p = none → gTg X.K (.tp (is.map .nm)) (.ref p) σ (upd H1 p (.tup xs)) D.nx) := by
      refine vls_to ms S ?_
      have q0 := Es.bndE q
      cases eo : mVls ms r with
      | stuck => rw [eo] at q0; exact q0
      | exc ex r1 => rw [eo] at q0; exact q0
      | ok vs r1 =>
        rw [eo] at q0
        intro Z1 H1 S1 F1 xs ta
        have k := q0 Z1 H1 S1 F1
        refine ⟨by rw [szL, tl ta, hlen eo]; omega, fun p hp => ?_⟩
        have E := Ext.new (o := .tup xs) S1.sub hp
        have S2 := E.sr S1
        have F2 := F1.trans E.fr
        obtain ⟨l, hq⟩ := sets_to F2 S2 (TmpAll.ext E ta) k
        exact .inl ⟨p, xs, rfl, .inl (.inl upd_same), by simp [l], gTgs_names l hq⟩
    exact main
theorem Good.cellK (G : Good C R W sc X) {e : Expr} (h : cellB sc e = true) : ∃ x p, e = .Name x p ∧ X.env.scope.names.lookup x ≠ some .local := by
  unfold cellB at h
  split at h
  · rename_i x p
    refine ⟨x, p, rfl, ?_⟩
    split at h
    · rename_i e1
      rcases G.nm x _ e1 with q | ⟨h1, q⟩
      · rw [q]; intro z; cases z
      · rw [q]; intro z; cases z
    · cases h
  · cases h
theorem unSwap (G : Good C R W sc X) {ts es : List Expr} {pt pt2 : Pos} {kt k2 : Nat} (hk : X.env.scope.kind = .function) (hs : es.all notStar = true) (h : ((!(ts.length == 2) && !(ts.length == 3)) || ts.any (cellB sc)) = true) : swappedStores [.Tuple ts kt pt] (.Tuple es k2 pt2) X.env = pure none := by
  unfold swappedStores
  dsimp only
  by_cases hl : (!(ts.length == 2 || ts.length == 3) || es.length != ts.length || X.env.blockKind != .function) = true
  · exact if_pos hl
  · refine (if_neg hl).trans ((if_neg (fun z => Bool.false_ne_true ((star_any hs).symm.trans z))).trans (if_pos ?_))
    have hc : ts.any (cellB sc) = true := by
      simp only [Bool.or_eq_true, not_or, Bool.not_eq_true, Bool.not_eq_false'] at hl
      rcases Bool.or_eq_true _ _ ▸ h with q | q
      · exfalso
        simp only [Bool.and_eq_true, Bool.not_eq_true'] at q
        have := hl.1.1
        rw [q.1, q.2] at this
        simp at this
      · exact q
    obtain ⟨e, he, hce⟩ := List.any_eq_true.mp hc
    obtain ⟨x, p, rfl, hx⟩ := G.cellK hce
    let f : Expr → Option Str := fun
      | .Name id pos => if X.env.kindOf id == some .local && pos.line == (ts.head?.map (·.pos.line)).getD 0 then some id else none
      | _ => none
    have hf : f (.Name x p) = none := by
      have hx' : (X.env.kindOf x == some NameKind.local) = false := by
        have hx' : X.env.kindOf x ≠ some .local := hx
        simpa using hx'
      show (if X.env.kindOf x == some .local && p.line == (ts.head?.map (·.pos.line)).getD 0 then some x else none) = none
      rw [hx']; rfl
    have key : ∀ l : List Expr, Expr.Name x p ∈ l → (l.filterMap f).length < l.length := by
      intro l
      induction l with
      | nil => intro h; cases h
      | cons a l ih =>
        intro h
        have h2 := List.length_filterMap_le f l
        cases h with
        | head =>
          rw [List.filterMap_cons_none hf, List.length_cons]; omega
        | tail _ h =>
          have := ih h
          cases f' : f a with
          | none => rw [List.filterMap_cons_none f', List.length_cons]; omega
          | some b => rw [List.filterMap_cons_some f', List.length_cons, List.length_cons]; omega
    rw [Bool.or_eq_true]
    left
    exact bne_iff_ne.mpr (Nat.ne_of_lt (key ts he))
theorem nmsOf_eq : ∀ {ts : List Tg} {is : List Nat}, nmsOf ts = some is → ts = is.map .nm
  | [], _, h => by cases h; rfl
  | .nm i :: ts, is, h => by
    unfold nmsOf at h
    cases e : nmsOf ts with
    | none => rw [e] at h; cases h
    | some js => rw [e] at h; cases h; rw [nmsOf_eq e]; rfl
  | .tp _ :: _, _, h => by cases h
theorem idx_ne {N : List Str} {x y : Str} {i j : Nat} (h1 : idx N x = some i) (h2 : idx N y = some j) (hne : x ≠ y) : i ≠ j := fun e => by
  subst e
  have := (idx_get h1).symm.trans (idx_get h2)
  exact hne (Option.some.inj this)
theorem slotL_get {y : Str} (h : slotL C sc y = some i) : locB sc y = true ∧ idx C.N y = some i := by
  unfold slotL at h
  by_cases c : locB sc y = true
  · rw [if_pos c] at h; exact ⟨c, h⟩
  · rw [if_neg c] at h; cases h
theorem Good.lc (G : Good C R W sc X) (h : lcB sc x = true) : X.env.scope.names.lookup x = some .local := by
  unfold lcB at h
  cases e : sc.names.lookup x with
  | none => rw [e] at h; cases h
  | some k =>
    rw [e] at h
    rcases G.nm x k e with q | ⟨rfl, q⟩
    · cases k <;> first | exact q | cases h
    · cases h
theorem vls_of {f : Expr → Mm Vl} (h : ∀ e, PE X e (rdE X.K R W (f e))) : ∀ {es : List Expr}, es.all notStar = true → VlsX X R W es (es.map f)
  | [], _ => .nil
  | e :: es, hn => by
    rw [List.all_cons, Bool.and_eq_true] at hn
    exact .cons hn.1 (h e) (vls_of h hn.2)
theorem tVls_mono : ∀ {ms : List (Mm Vl)} {H : Hp} {k k' : List V → Hp → Prop}, tVls K R W ms σ H k → (∀ xs H1, k xs H1 → k' xs H1) → tVls K R W ms σ H k'
  | [], _, _, _, h, f => f _ _ h
  | m :: ms, H, k, k', h, f => by
    obtain ⟨Z, r, S, q⟩ := h
    exact ⟨Z, r, S, q.mono fun v r' Z' H' S' F' q x hx => tVls_mono (q x hx) fun xs H1 => f _ _⟩
/-- a name gets a comprehension's list -/
theorem lc_asg (G : Good C R W sc X) (hk : X.env.scope.kind = .function) {y : Str} {py spos : Pos} (hy : slotL C sc y = some i) (n : Nat) {elt : Expr} {gs : List Comprehension} {sc' : Scope} :
    PS X (.Assign [.Name y py] (.ListComp elt gs sc' pos) spos) (rdS X.K R W (mAsg i (semE C n sc (.ListComp elt gs sc' pos)))) := by
  obtain ⟨hl, hi⟩ := slotL_get hy
  obtain ⟨hloc, hfn⟩ := G.loc hl
  have key : ∃ b, swapsWith (.ListComp elt gs sc' pos) (some (.Name y py)) spos.line X.env = pure b ∧ (b = true → X.env.scope.names.lookup y = some .local) := by
    refine ⟨(X.env.blockKind == .function && X.env.kindOf y == some .local && py.line == pos.line && !(sc'.names.any fun (n, k) => n == y && (k == .local || k == .cell))), rfl, fun h => ?_⟩
    rw [Bool.and_eq_true, Bool.and_eq_true, Bool.and_eq_true] at h
    exact eq_of_beq h.1.1.2
  obtain ⟨b, hb, hb2⟩ := key
  cases b with
  | false => exact ps_mAsg (by rw [G.N]; exact G.nd) (by rw [G.N]; exact idx_get hi) hloc ((expr_ok C R n).1 sc W X G _) hb hfn
  | true =>
    cases n with
    | zero => exact asg_stuck
    | succ n =>
      unfold semE
      split
      all_goals first | exact asg_stuck | skip
      all_goals rename_i heq
      all_goals first | (cases heq; done) | skip
      rename_i elt' tg it ifs sc'' p'
      cases heq
      split
      · rename_i hc
        rw [Bool.and_eq_true] at hc
        split
        · rename_i t f os h1 h2
          split
          · rename_i hto
            have hi' := (expr_ok C R n).2.2.2 sc W X G tg it f os h2
            have hg : ∀ {X' : Cx}, Good C R WF sc' X' → PG X' tg (gTg X'.K t) := fun G' => ((tgs_pg G' n).1 tg t h1).1
            split
            · exact lc_ps G hc.1 hi' hg (fun G' => tests_nil) (fun G' => (expr_ok C R n).1 sc' WF _ G' elt) hc.2 hto (idx_get hi) (hb2 rfl) hb
            · exact lc_ps G hc.1 hi' hg (fun G' => pts_one (((expr_ok C R n).2.2.1 sc' WF _ G').1 _)) (fun G' => (expr_ok C R n).1 sc' WF _ G' elt) hc.2 hto (idx_get hi) (hb2 rfl) hb
            · exact asg_stuck
          · exact asg_stuck
        · exact asg_stuck
      · exact asg_stuck

/-! ### errors -/
theorem ps_mRaise (G : Good C R W sc X) {x m : Str} {j : Nat} {p p2 pos pos' : Pos} (hx : gloB sc x = true) (ho : okN x = true) (hc : C.ex.cls x = true) : PS X (.Raise (some (.Call (.Name x p) [.Constant (.str m) j p2] [] pos)) none pos') (rdS X.K R W (mRaise x .none)) := by
  obtain ⟨c, gC, xC, kC, sC, tC, hR⟩ := G.ex1 x hc
  refine PS.to (ps_raise G.calm G.tk (pmk_own PySem.F.excBase_ValueError xC gC kC (raises_own sC tC) (G.glo hx) (okN_d ho).1)) fun D σ H q => ?_
  obtain ⟨Z, r, S, q⟩ := q
  exact q (.ref c) none σ Z H S Fr.refl (hR Z H)
/-- raise X(e), X keeping a field -/
theorem ps_mRaiseF (G : Good C R W sc X) {x f : Str} {e : Expr} {m : Mm Vl} {p pos pos' : Pos} (hx : gloB sc x = true) (ho : okN x = true) (hc : C.ex.fld x = some f) (hns : notStar e = true) (h : PE X e (rdE X.K R W m)) : PS X (.Raise (some (.Call (.Name x p) [e] [] pos)) none pos') (rdS X.K R W (mRaiseF x m)) := by
  obtain ⟨c, fI, B, nid, i, bmB, BX, T, gC, gs, _, _, hR, _⟩ := G.ex3 x f hc
  obtain ⟨k, rm⟩ := G.rm
  refine PS.to (ps_raise G.calm G.tk (pmk_fld BX T gC gs rm (pa_cons (rdV_of h) pa_nil (starEach_cons hns _ _)) (G.glo hx) (okN_d ho).1 (starEach_cons hns _ _) (by rfl))) fun D σ H q => ?_
  obtain ⟨Z, r, S, q⟩ := q
  unfold mRaiseF at q
  refine ⟨Z, r, S, (Es.bndE q).mono fun d r1 Z1 H1 S1 F1 k x' hx' => ⟨x', rfl, fun dd hdd => ?_⟩⟩
  have E := Ext.frz (o := .xd [(f, x')]) S1.sub hdd
  exact k (.ref c) (some dd) σ _ _ (E.sr S1) (F1.trans E.fr) (hR _ _ dd x' d upd_same (Rp.le E.zm _ _ hx'))
theorem ps_mTry (G : Good C R W sc X) (hs : X.stack = X.env :: X.outer) (hf : X.env.frame = some X.env.locals) {b : List Stmt} {h0 : ExceptHandler} {hds : List ExceptHandler} {l : List Hd} {mb : Mm Fl} {pos : Pos} (hl : semHs C sc (h0 :: hds) = some l)
    (hb : ∀ (W' : WX) (pn : List (Addr × Obj)) (xe : Value → Shared → Prop), Takes (X.tr pn xe) W' → PassesOwn (model X.prog X.w) X.A X.env xe → PSs (X.tr pn xe) b (rdS X.K R W' mb)) : PS X (.Try b (h0 :: hds) [] [] pos) (rdS X.K R W (mTryC C.ex l mb)) := by
  obtain ⟨lt, h1, h2⟩ := hds_ok G hl
  refine PS.to (ps_try_A (tb := fun W' => rdS X.K R W' mb) hs hf (by rw [G.N]; exact G.nd) G.tk hb h1) fun D σ H q => ?_
  obtain ⟨Z, r, S, q⟩ := q
  refine ⟨Z, r, S, ?_⟩
  unfold mTryC at q
  cases eb : mb r with
  | stuck => rw [eb] at q; exact q
  | ok f r' => rw [eb] at q; exact q
  | exc e r' =>
    rw [eb] at q
    intro cls dd σ' Z' H' S' F' hR
    refine hl_to G hR S' D h2 ?_
    cases ep : pickH C.ex e.cls l with
    | none =>
      simp only [ep] at q
      exact q cls dd σ' Z' H' S' F' hR
    | some h =>
      simp only [ep] at q
      dsimp only
      cases eo : h.out e r'.length with
      | none => simp only [eo] at q; exact q.elim
      | some d =>
        simp only [eo] at q
        intro σ2 Z2 H2 S2 F2 x rx
        exact q σ2 Z2 H2 S2 (F'.trans F2) x rx

theorem aug_ps {op : Operator} {f : List Da → Option Vl} {nm : Str} {p' : Pos} {oa : Opd} (h : augF op = some f) (hN : X.N.Nodup) (hi : X.N[i]? = some nm) (hx : Loc X.env.scope nm) (hf : X.fn nm = true ∨ X.env.scope.names.lookup nm = some .local) (ha : OpdX X X.K R W e oa) :
    PS X (.AugAssign (.Name nm p') op e pos) (rdS X.K R W (mAsg i (mOp f [.sl i, oa]))) := by
  cases op <;> first | cases h | skip
  · exact ps_mAug hN hi hx hf iop_add opS_addI ha
  · exact ps_mAug hN hi hx hf iop_sub opS_sub ha
/-- every statement does what the small semantics says -/
theorem stmt_ok (C : Cfg) (R : XR) (m : Nat) {sc : Scope} : ∀ (n : Nat) {W : WX} {X : Cx}, Good C R W sc X → X.env.scope.kind = .function → X.stack = X.env :: X.outer → X.env.frame = some X.env.locals → PassesOwn (model X.prog X.w) X.A X.env X.xe →
    (∀ st, PS X st (rdS X.K R W (semS C m sc n st))) ∧ (∀ sts, PSs X sts (rdS X.K R W (semSs C m sc n sts)))
  | 0, _, _, _, _, _, _, _ => ⟨fun _ => ps_mStuck, fun _ => pss_mStuck⟩
  | n + 1, W, X, G, hk, hst, hfr, hp => by
    obtain ⟨ih1, ih2⟩ := stmt_ok C R m n G hk hst hfr hp
    have eE := (expr_ok C R m).1 sc W X G
    have eT := ((expr_ok C R m).2.2.1 sc W X G).1
    have hN : X.N.Nodup := by rw [G.N]; exact G.nd
    have od : ∀ e, OpdX X X.K R W e (sOpd C sc (semE C m sc) e) := fun e => G.opd (eE e)
    refine ⟨fun st => ?_, fun sts => ?_⟩
    · unfold semS
      split
      · exact ps_mPass
      · exact ps_mBreak
      · exact ps_mCont
      · exact ps_mRetN
      · rename_i x p q
        split
        · rename_i i ei; exact ps_mMove (G.var ei)
        · exact ps_mRet (eE _)
      · exact ps_mRet (eE _)
      · rename_i e p
        split
        · exact ps_mStuck
        · rename_i hc; exact ps_mDrop (eE _) (swaps_not (by simpa using hc) _ _ _)
      · exact ps_mIf (eT _) (ih2 _) (ih2 _)
      · exact ps_mWhile hp (eT _) (ih2 _)
      · rename_i tg it b p
        split
        · rename_i hs
          split
          · rename_i t f os h1 h2
            exact ps_mFor hp G.calm ((expr_ok C R m).2.2.2 sc W X G tg it f os h2) ((tgs_pg G m).1 tg t h1).1 (ih2 _) hs
          · exact ps_mStuck
        · exact ps_mStuck
      · rename_i x p e q
        split
        · rename_i i ei
          obtain ⟨hl, hi⟩ := slotL_get ei
          obtain ⟨hloc, hfn⟩ := G.loc hl
          by_cases c : isComp e = true
          · cases e <;> first | (simp [isComp] at c; done) | skip
            · exact lc_asg G hk ei m
            all_goals (cases m <;> exact asg_stuck)
          · exact ps_mAsg hN (by rw [G.N]; exact idx_get hi) hloc (eE _) (swaps_not (by simpa using c) _ _ _) hfn
        · exact ps_mStuck
      · rename_i ts kt pt es k p q
        split
        · rename_i hs
          split
          · rename_i is his
            unfold swapB at hs
            split at hs
            · rename_i x px y py
              simp only [Bool.and_eq_true, Bool.not_eq_true'] at hs
              obtain ⟨⟨⟨⟨⟨⟨⟨h1, h2⟩, h3⟩, h4⟩, h5⟩, h6⟩, h7⟩, h8⟩ := hs
              have hxy : x ≠ y := by simpa using h1
              cases e1 : slotL C sc x with
              | none => unfold slots at his; rw [e1] at his; cases his
              | some i1 =>
                cases e2 : slotL C sc y with
                | none => unfold slots at his; rw [e1] at his; unfold slots at his; rw [e2] at his; cases his
                | some i2 =>
                  have : is = [i1, i2] := by
                    unfold slots at his; rw [e1] at his; unfold slots at his; rw [e2] at his; unfold slots at his
                    cases his; rfl
                  subst this
                  match es, h5, h6, h7, h8 with
                  | [a, b], _, h6, h7, h8 =>
                    have q1 := (slotL_get e1).2
                    have q2 := (slotL_get e2).2
                    refine ps_mPar (vls_of eE h6) (ps_par G.calm hN (by rw [G.N]; exact idx_get q1) (by rw [G.N]; exact idx_get q2) (idx_ne q1 q2 hxy) (G.lc h2) (G.lc h3) (vls_of eE h6).pa (swap2 hk (G.lc h2) (G.lc h3) hxy h4 h6 h7 h8) rfl) fun D σ H q => ?_
                    refine tVls_mono q fun xs H1 ⟨hl, hq⟩ => ?_
                    match xs, hl, hq with
                    | [v, w], _, hq => exact ⟨v, w, rfl, hq⟩
            · rename_i x px y py z pz
              simp only [Bool.and_eq_true, Bool.not_eq_true'] at hs
              obtain ⟨⟨⟨⟨⟨⟨⟨⟨⟨⟨⟨h1, h1b⟩, h1c⟩, h2⟩, h3⟩, h3b⟩, h4⟩, h4b⟩, h5⟩, h6⟩, h7⟩, h8⟩ := hs
              have hxy : x ≠ y := by simpa using h1
              have hxz : x ≠ z := by simpa using h1b
              have hyz : y ≠ z := by simpa using h1c
              cases e1 : slotL C sc x with
              | none => unfold slots at his; rw [e1] at his; cases his
              | some i1 =>
                cases e2 : slotL C sc y with
                | none => unfold slots at his; rw [e1] at his; unfold slots at his; rw [e2] at his; cases his
                | some i2 =>
                  cases e3 : slotL C sc z with
                  | none => unfold slots at his; rw [e1] at his; unfold slots at his; rw [e2] at his; unfold slots at his; rw [e3] at his; cases his
                  | some i3 =>
                    have : is = [i1, i2, i3] := by
                      unfold slots at his; rw [e1] at his; unfold slots at his; rw [e2] at his; unfold slots at his; rw [e3] at his; unfold slots at his
                      cases his; rfl
                    subst this
                    match es, h5, h6, h7, h8 with
                    | [a, b, c], _, h6, h7, h8 =>
                      have q1 := (slotL_get e1).2
                      have q2 := (slotL_get e2).2
                      have q3 := (slotL_get e3).2
                      refine ps_mPar (vls_of eE h6) (ps_par3 G.calm hN (by rw [G.N]; exact idx_get q1) (by rw [G.N]; exact idx_get q2) (by rw [G.N]; exact idx_get q3) (idx_ne q1 q2 hxy) (idx_ne q1 q3 hxz) (idx_ne q2 q3 hyz) (G.lc h2) (G.lc h3) (G.lc h3b) (vls_of eE h6).pa (swap3 hk (G.lc h2) (G.lc h3) (G.lc h3b) hxy hxz hyz h4 h4b h6 h7 h8) rfl) fun D σ H q => ?_
                      refine tVls_mono q fun xs H1 ⟨hl, hq⟩ => ?_
                      match xs, hl, hq with
                      | [u, v, w], _, hq => exact ⟨u, v, w, rfl, hq⟩
            · cases hs
          · exact ps_mStuck
        · split
          · rename_i hs
            unfold noSwapB at hs
            rw [Bool.and_eq_true] at hs
            split
            · rename_i t ht
              exact ps_mAsgT (eE _) ((tgs_pg G m).1 _ t ht).1 rfl (noSwap hs.1) rfl
            · exact ps_mStuck
          · split
            · rename_i hs
              unfold unSwapB at hs
              simp only [Bool.and_eq_true, decide_eq_true_eq] at hs
              split
              · rename_i tl ht
                split
                · rename_i is his
                  have hg := ((tgs_pg G m).1 _ _ ht).1
                  rw [nmsOf_eq his] at hg
                  exact ps_mParU (vls_of eE hs.1.1) (by rw [List.length_map]; exact hs.1.2) hg (unSwap G hk hs.1.1 hs.2) rfl
                · exact ps_mStuck
              · exact ps_mStuck
            · exact ps_mStuck
      · rename_i ts k p e q hne
        split
        · exact ps_mStuck
        · rename_i hc
          split
          · rename_i t ht
            simp only [Bool.or_eq_true, not_or, Bool.not_eq_true] at hc
            exact ps_mAsgT (eE _) ((tgs_pg G m).1 _ t ht).1 (swaps_not hc.1 (some (.Tuple ts k p)) q.line X.env) (by cases e <;> first | rfl | (simp [isTupE] at hc)) rfl
          · exact ps_mStuck
      · rename_i x p ix p' e q
        split
        · exact ps_mStuck
        · rename_i hs
          split
          · rename_i j hj
            exact ps_mPut (by have := G.un; omega) (G.var hj) (od _) (eE _) (swaps_sub _ _) rfl (by intro v; cases ix <;> first | rfl | (simp [isSl] at hs))
          · exact ps_mStuck
      · rename_i x p op e q
        split
        · rename_i i f hi hf
          split
          · exact ps_mStuck
          · obtain ⟨l1, l2⟩ := slotL_get hi
            obtain ⟨hloc, hfn⟩ := G.loc l1
            exact aug_ps hf hN (by rw [G.N]; exact idx_get l2) hloc hfn (od e)
        · exact ps_mStuck
      · split
        · rename_i hc
          simp only [Bool.and_eq_true] at hc
          exact ps_mRaise G hc.1.1 hc.1.2 hc.2
        · exact ps_mStuck
      · split
        · rename_i hc
          simp only [Bool.and_eq_true] at hc
          obtain ⟨f, hf⟩ := Option.isSome_iff_exists.mp hc.1.2
          exact ps_mRaiseF G hc.1.1.1 hc.1.1.2 hf hc.2 (eE _)
        · exact ps_mStuck
      · split
        · rename_i l hl
          exact ps_mTry G hst hfr hl fun W' pn xe tk pa => (stmt_ok C R m n (X := X.tr pn xe) (W := W') { N := G.N, nd := G.nd, calm := G.calm, gs := G.gs, un := G.un, tk := tk, nm := G.nm, fn := G.fn, cst := G.cst, dct := G.dct, fns := G.fns, gad := G.gad, blt := G.blt, ex1 := G.ex1, ex2 := G.ex2, ex3 := G.ex3, rm := G.rm, lam := G.lam, wd := G.wd, wd2 := G.wd2 } hk hst hfr pa).2 _
        · exact ps_mStuck
      · exact ps_mStuck
    · unfold semSs
      split
      · exact pss_mNil
      · exact pss_mCons (ih1 _) (ih2 _)
end
end Mi

set_option maxHeartbeats 1000000
namespace Mi
open PySem PySem.Spec PyProof.Rows L2

/-! ## defs -/
def okFl : List Bool → List Vl → Bool
  | [], [] => true
  | true :: fl, .lent _ :: vs => okFl fl vs
  | false :: fl, .val _ :: vs => okFl fl vs
  | _, _ => false
structure Dfn where
  st : Stmt
  fl : List Bool
  N : List Str
  lam : Bool := false
/-- the words among the defs -/
def wdsOf (blt : Str → Bool) (ex : ExT) (tab : Str → Option Dfn) (x : Str) : Option Wd := match tab x with
  | some e => if e.fl.length == 1 then wdOf (wCfg e.N blt ex) (defScope e.st) (defBody e.st) else none
  | none => none
def wds2Of (blt : Str → Bool) (ex : ExT) (tab : Str → Option Dfn) (x : Str) : Option (Wd × Wd) := match tab x with
  | some e => if e.fl.length == 1 then (match wdOf2 (wCfg e.N blt ex) (defScope e.st) (defBody e.st) with
    | some (y, w2) => (match wdsOf blt ex tab y with
      | some w1 => some (w2, w1)
      | none => none)
    | none => none) else none
  | none => none
/-- what the defs do, a bounded number of calls deep -/
noncomputable def fnAt (cst : Str → Option Da) (blt : Str → Bool) (ex : ExT) (m : Nat) (tab : Str → Option Dfn) : Nat → Dfn → Fn
  | 0, _ => fun _ => .stuck
  | k + 1, d => fun vs => if okFl d.fl vs then runF d.N.length d.fl (semSs ⟨d.N, cst, fun x => (tab x).map fun e => (e.fl, fnAt cst blt ex m tab k e), blt, ex, d.lam, wdsOf blt ex tab, wds2Of blt ex tab⟩ m (defScope d.st) m (defBody d.st)) vs else .stuck
noncomputable def fnsAt (cst : Str → Option Da) (blt : Str → Bool) (ex : ExT) (m : Nat) (tab : Str → Option Dfn) (k : Nat) (x : Str) : Option (List Bool × Fn) := (tab x).map fun d => (d.fl, fnAt cst blt ex m tab k d)

section
variable {P : Program} {w : World} {K : PySem.W.Frag} {mg : Str → Option Value} {base : Heap} {R : XR}
/-- a def's code object -/
def codeAt (K : PySem.W.Frag) (f : Addr) : Option Value := match K.lookup f with
  | some ⟨_, _, .func fd, _⟩ => some fd.code
  | _ => none
theorem FnG.of {k : Nat} {x qual : Str} {st : Stmt} {f : Addr} {fd : FuncData} {N ps : List Str} {sp : Sp} (F : FunD K x qual (defArgs st) (defBody st) (defScope st) [] [] f fd) (S : FnScope N ps (defScope st)) (len : ∀ vs H Q E, sp vs H Q E → vs.length = ps.length)
    (hbody : ∀ (cdv : Value) (A : Around) (outer : List Env) (t0 : Shared) (H : Hp) (vs : List V) (Q : VK) (E : XK), Room k (A.deeper (envOfC qual (defScope st) t0.heap.objs.size f cdv)) → A.guards = some [] → codeAt K f = some cdv → sp vs H Q E →
      ∃ t, PSs (cxOf (L2.CX P w) P w K mg base N qual (defScope st) f cdv A outer t0 H E) (defBody st) t ∧ t { nx := fun _ G => Q .non G, rt := Q } (L2.start N vs) H) : FnG P w K mg base (k + 1) f fd ps sp := by
  obtain ⟨oc, od, dV, kV, doc, pm, an, cdv, ct, osl, rfl, lk, hcd, _, _⟩ := F.ex
  refine ⟨len, fun A outer t0 H args us vs Q E room hg e0 bnd rel hsp => ?_⟩
  have ln := len _ _ _ _ hsp
  have KX : K.In t0.heap := e0.mod.kin.keeps fun b o e => (e0.bs b o e).1
  have noL : t0.heap.NoLimit := e0.mod.nolimit.keeps fun b o e => (e0.bs b o e).1
  have kinds : ∀ y ∈ ps.zip us, (defScope st).names.lookup y.1 = some .local ∨ ((defScope st).names.lookup y.1 = some .cell ∧ ((cellsFrom (t0.heap.objs.size + 1) (defScope st).names []).lookup y.1).isSome = true) := fun y hy => by
    rcases S.par y.1 (List.of_mem_zip (a := y.1) (b := y.2) hy).1 with q | q
    · exact .inl q
    · exact .inr ⟨q, PySem.W.cellsFrom_some _ _ _ (.inl q)⟩
  refine codeAny_call_function room.depth (KX _ _ lk) rfl S.co S.gen rfl (PySem.W.codeRec_of KX hcd) (bnd _ _ _ _ (wpAny_newFunctionEnv_cells S.kind kinds fun env he t1 entry => ?_))
  subst he
  refine ⟨noL.keeps entry.toInCall.keep, codeAny_func ?_⟩
  obtain ⟨t, ht, hq⟩ := hbody cdv A outer t0 H vs Q E (room.deeper _) hg (by unfold codeAt; rw [lk]) hsp
  have J0 := inv_start (CX := L2.CX P w) (E := E) (qual := qual) (f := f) (cd := cdv) S room.hd e0 ln rel entry
  refine wpAny_mono (ht.run [] t1 (L2.start N vs) H _ J0 hq) (fun fl t2 hs => ?_) fun e t2 hs => hs
  cases fl with
  | brk => obtain ⟨_, _, _, q⟩ := hs; exact q.elim
  | cont => obtain ⟨_, _, _, q⟩ := hs; exact q.elim
  | next => obtain ⟨σ', G, J, q⟩ := hs; exact ⟨.non, G, J.os, J.bare, J.base, J.hok, rfl, q⟩
  | ret u => obtain ⟨v, σ', G, J, rv, q⟩ := hs; exact ⟨v, G, J.os, J.bare, J.base, J.hok, rv, q⟩

/-! ### a def's body keeps its promise -/
theorem okFl_len : ∀ {fl : List Bool} {as : List Vl}, okFl fl as = true → as.length = fl.length
  | [], [], _ => rfl
  | true :: fl, .lent _ :: vs, h => by simp [okFl_len (show okFl fl vs = true from h)]
  | false :: fl, .val _ :: vs, h => by simp [okFl_len (show okFl fl vs = true from h)]
  | [], _ :: _, h => by cases h
  | true :: _, [], h => by cases h
  | false :: _, [], h => by cases h
  | true :: _, .val _ :: _, h => by cases h
  | true :: _, .own _ :: _, h => by cases h
  | true :: _, .lck :: _, h => by cases h
  | false :: _, .lent _ :: _, h => by cases h
  | false :: _, .own _ :: _, h => by cases h
  | false :: _, .lck :: _, h => by cases h
theorem lts_of {Z H : Hp} : ∀ {fl : List Bool} {as : List Vl} {vs : List V} {r : Rho} {ls : List Da}, okFl fl as = true → vs.length = as.length → (∀ i d, as[i]? = some (.lent d) → ∃ d' x, gt r i = some (.lent d') ∧ vs[i]? = some x ∧ ObR K Z H x d') → lentsOf fl r = some ls → LentR K Z H vs as ls
  | [], [], [], _, _, _, _, _, h => by
    unfold lentsOf at h; cases h; trivial
  | true :: fl, .lent d :: as, x :: vs, r, ls, hf, hl, g, h => by
    obtain ⟨d', y, e1, e2, e3⟩ := g 0 d rfl
    cases e2
    match r, e1, g, h with
    | [], e1, _, _ => cases e1
    | u :: r, e1, g, h =>
      have eu : u = some (.lent d') := e1
      subst eu
      unfold lentsOf at h
      cases q : lentsOf fl r with
      | none => rw [q] at h; cases h
      | some ls' =>
        rw [q] at h
        cases h
        exact ⟨e3, lts_of (show okFl fl as = true from hf) (by simpa using hl) (fun i d hi => by
          obtain ⟨d2, y2, q1, q2, q3⟩ := g (i + 1) d (by simpa using hi)
          exact ⟨d2, y2, q1, by simpa using q2, q3⟩) q⟩
  | false :: fl, .val d :: as, x :: vs, r, ls, hf, hl, g, h => by
    match r, g, h with
    | [], _, h => cases h
    | u :: r, g, h =>
      have h' : lentsOf fl r = some ls := h
      have this : LentR K Z H vs as ls := lts_of (show okFl fl as = true from hf) (by simpa using hl) (fun i d hi => by
          obtain ⟨d2, y2, q1, q2, q3⟩ := g (i + 1) d (by simpa using hi)
          exact ⟨d2, y2, q1, by simpa using q2, q3⟩) h'
      cases ls <;> exact this
  | [], _ :: _, _, _, _, hf, _, _, _ => by cases hf
  | true :: _, [], _, _, _, hf, _, _, _ => by cases hf
  | false :: _, [], _, _, _, hf, _, _, _ => by cases hf
  | true :: _, .val _ :: _, _, _, _, hf, _, _, _ => by cases hf
  | true :: _, .own _ :: _, _, _, _, hf, _, _, _ => by cases hf
  | true :: _, .lck :: _, _, _, _, hf, _, _, _ => by cases hf
  | false :: _, .lent _ :: _, _, _, _, hf, _, _, _ => by cases hf
  | false :: _, .own _ :: _, _, _, _, hf, _, _, _ => by cases hf
  | false :: _, .lck :: _, _, _, _, hf, _, _, _ => by cases hf
  | [], [], _ :: _, _, _, _, hl, _, _ => by cases hl
  | true :: _, .lent _ :: _, [], _, _, _, hl, _, _ => by cases hl
  | false :: _, .val _ :: _, [], _, _, _, hl, _, _ => by cases hl
theorem gt_start {as : List Vl} {n i : Nat} {v : Vl} (h : gt (as.map some ++ List.replicate n none) i = some v) : as[i]? = some v := by
  unfold gt at h
  by_cases c : i < as.length
  · rw [List.getElem?_append_left (by simpa using c), List.getElem?_map] at h
    cases e : as[i]? with
    | none => rw [e] at h; cases h
    | some a => rw [e] at h; simpa using h
  · rw [List.getElem?_append_right (by simpa using c), List.getElem?_replicate] at h
    split at h <;> cases h
theorem gt_map {as : List Vl} {i : Nat} {v : Vl} (h : as[i]? = some v) : gt (as.map some) i = some v := by
  unfold gt; rw [List.getElem?_map, h]; rfl
theorem gt_map' {as : List Vl} {i : Nat} {v : Vl} (h : gt (as.map some) i = some v) : as[i]? = some v := by
  unfold gt at h; rw [List.getElem?_map] at h
  cases e : as[i]? with
  | none => rw [e] at h; cases h
  | some a => rw [e] at h; simpa using h
theorem gt_start2 {as : List Vl} {n i : Nat} {v : Vl} (h : as[i]? = some v) : gt (as.map some ++ List.replicate n none) i = some v := by
  have c : i < as.length := by
    by_cases c : i < as.length
    · exact c
    · rw [List.getElem?_eq_none (by omega)] at h; cases h
  unfold gt
  rw [List.getElem?_append_left (by simpa using c), List.getElem?_map, h]; rfl
theorem st_get {vs : List V} {N : List Str} {i : Nat} (c : i < vs.length) : (L2.start N vs)[i]? = (vs.map some)[i]? := by
  unfold L2.start
  rw [List.getElem?_append_left (by simpa using c)]
theorem body_to {N : List Str} {vs : List V} {H : Hp} {Q : VK} {E : XK} {b : Mm Fl} {fl : List Bool} (hN : fl.length ≤ N.length) (h : spF K R fl.length (fun us => if okFl fl us then runF N.length fl b us else .stuck) vs H Q E) :
    rdS K R (fun cls d _ G => E cls d G) b { nx := fun _ G => Q .non G, rt := Q } (L2.start N vs) H := by
  obtain ⟨Z, as, ln, S, ia, h⟩ := h
  have hok : okFl fl as = true := by
    cases hok : okFl fl as with
    | true => rfl
    | false => simp only [hok] at h; exact h.elim
  simp only [if_pos hok] at h
  have la := okFl_len hok
  have own0 : ∀ {i d}, ow (as.map some ++ List.replicate (N.length - as.length) none) i d → ow (as.map some) i d ∧ i < vs.length := fun {i d} q => by
    have lt : ∀ {v}, as[i]? = some v → i < vs.length := fun {v} e => by
      have := (List.getElem?_eq_some_iff.mp e).1; omega
    rcases q with q | q
    · exact ⟨.inl (gt_map (gt_start q)), lt (gt_start q)⟩
    · exact ⟨.inr (gt_map (gt_start q)), lt (gt_start q)⟩
  have S0 : SR K Z (L2.start N vs) H (as.map some ++ List.replicate (N.length - as.length) none) := by
    refine ⟨S.sub, S.tb, ?_, fun i v hi hl => ?_, fun i j a d d' h1 h2 e1 e2 => ?_⟩
    · unfold L2.start; simp; omega
    · have e := gt_start hi
      have lt : i < vs.length := by have := (List.getElem?_eq_some_iff.mp e).1; omega
      rw [st_get lt]
      exact S.at_ i v (gt_map e) hl
    · obtain ⟨q1, l1⟩ := own0 h1
      obtain ⟨q2, l2⟩ := own0 h2
      rw [st_get l1] at e1
      rw [st_get l2] at e2
      exact S.sep i j a d d' q1 q2 e1 e2
  have OwB : ∀ {a}, Own (as.map some ++ List.replicate (N.length - as.length) none) (L2.start N vs) a → Own (as.map some) (vs.map some) a := fun {a} ⟨i, d, q, e⟩ => by
    obtain ⟨q1, l1⟩ := own0 q
    rw [st_get l1] at e
    exact ⟨i, d, q1, e⟩
  -- a lent slot stays so
  have stay : ∀ {Z' H' σ' r'}, SR K Z' σ' H' r' → Fr Z (L2.start N vs) H (as.map some ++ List.replicate (N.length - as.length) none) Z' σ' H' r' → ∀ i d, as[i]? = some (.lent d) → ∃ d' x, gt r' i = some (.lent d') ∧ vs[i]? = some x ∧ σ'[i]? = some (some x) ∧ ObR K Z' H' x d' := fun {Z' H' σ' r'} S' F i d hi => by
    obtain ⟨⟨d', q1⟩, q2⟩ := F.lt i d (gt_start2 hi)
    obtain ⟨x, ex, ob⟩ := S'.at_ i _ q1 (by intro z; cases z)
    have lt : i < vs.length := by have := (List.getElem?_eq_some_iff.mp hi).1; omega
    rw [st_get lt, ex, List.getElem?_map] at q2
    refine ⟨d', x, q1, ?_, ex, ob⟩
    cases e : vs[i]? with
    | none => rw [e] at q2; cases q2
    | some y => rw [e] at q2; simpa using q2.symm
  -- the addresses that are lent are still owned
  have kept : ∀ {Z' H' σ' r'}, SR K Z' σ' H' r' → Fr Z (L2.start N vs) H (as.map some ++ List.replicate (N.length - as.length) none) Z' σ' H' r' → ∀ a, Own (as.map some) (vs.map some) a → Own r' σ' a := fun {Z' H' σ' r'} S' F a ⟨i, d, q, e⟩ => by
    rcases q with q | q
    · have := ia _ (List.mem_of_getElem? (gt_map' q)); cases this
    · obtain ⟨d', x, q1, q2, q3, _⟩ := stay S' F i d (gt_map' q)
      rw [List.getElem?_map, q2] at e
      cases e
      exact ⟨i, d', .inr q1, q3⟩
  have cend : ∀ {Z' H' σ' r' ls}, SR K Z' σ' H' r' → Fr Z (L2.start N vs) H (as.map some ++ List.replicate (N.length - as.length) none) Z' σ' H' r' → lentsOf fl r' = some ls → CEnd K Z H vs as ls Z' H' := fun {Z' H' σ' r' ls} S' F hl => by
    refine ⟨S'.sub, S'.tb, fun a o e n => F.keep a o e fun q => n (OwB q), F.zm, fun a e n => ?_, lts_of hok (by omega) (fun i d hi => ?_) hl⟩
    · rcases F.zn a e n with q | q
      · exact q
      · exact absurd (S'.own_z (kept S' F a (OwB q))).1 n
    · obtain ⟨d', x, q1, q2, _, q4⟩ := stay S' F i d hi
      exact ⟨d', x, q1, q2, q4⟩
  refine ⟨Z, _, S0, ?_⟩
  unfold runF at h
  cases eb : b (as.map some ++ List.replicate (N.length - as.length) none) with
  | stuck => rw [eb] at h; exact h.elim
  | exc ex r' =>
    rw [eb] at h
    intro cls d σ' Z' H' S' F' hR
    cases el : lentsOf fl r' with
    | none => simp only [el] at h
    | some ls => simp only [el] at h; exact h cls d Z' H' (cend S' F' el) hR
  | ok f r' =>
    rw [eb] at h
    cases f with
    | brk => exact h.elim
    | cnt => exact h.elim
    | nx =>
      intro σ' Z' H' S' F'
      cases el : lentsOf fl r' with
      | none => simp only [el] at h
      | some ls => simp only [el] at h; exact h .non Z' H' (cend S' F' el) .non
    | rt v =>
      intro σ' Z' H' S' F' x rx
      cases el : lentsOf fl r' with
      | none => simp only [el] at h
      | some ls =>
        simp only [el] at h
        refine h x Z' H' (cend S' F' el) ?_
        cases v with
        | val d => exact rx
        | own d =>
          refine ⟨rx.1, fun a ea => ?_⟩
          obtain ⟨n1, n2⟩ := rx.2 a ea
          rcases n2 with n2 | n2
          · exact n2
          · exact absurd (kept S' F' a (OwB n2)) n1
        | lent d => exact rx.elim
        | lck => exact rx.elim
end
end Mi

set_option maxHeartbeats 1000000
namespace Mi
open PySem PySem.Spec PyProof.Rows L2

section
variable {P : Program} {w : World} {K : PySem.W.Frag} {mg : Str → Option Value} {base : Heap} {R : XR}
structure DefOk (K : PySem.W.Frag) (mg : Str → Option Value) (x : Str) (d : Dfn) (f : Addr) (fd : FuncData) : Prop where
  ga : f = He.ga K x
  gl : mg x = some (.ref f)
  fn : FunD K x x (defArgs d.st) (defBody d.st) (defScope d.st) [] [] f fd
  bd : Binds K fd (d.N.take d.fl.length) []
  sc : FnScope d.N (d.N.take d.fl.length) (defScope d.st)
  le : d.fl.length ≤ d.N.length
  lm : d.lam = true → ∃ c P, codeAt K f = some (.ref c) ∧ PySem.W.codeHdIn K c P = true ∧ (P, x ++ ".<locals>." ++ "<lambda>") ∈ tabs K ∧ ∀ p ∈ tabs K, p.1 = P → p.2 = x ++ ".<locals>." ++ "<lambda>"
theorem scope_ok {N ps : List Str} {sc : Scope} (S : FnScope N ps sc) : N.Nodup := S.nd
theorem units_ok {k : Nat} {A : Around} (r : Room k A) : A.units + 70 < cLine := by have := r.un; omega

/-- what an error class without own __init__ is -/
structure ClsOk (K : PySem.W.Frag) (mg : Str → Option Value) (x : Str) (c : Addr) : Prop where
  gl : mg x = some (.ref c)
  xc : PySem.W.excIn K c [.type "ValueError", .type "Exception", .type "BaseException", .type "object"] "ValueError.__new__" = true
  kp : PySem.W.keepIn K (.ref c) = true
  sb : PySem.W.subIn K (.ref c) (.type "BaseException") = some true
  ty : PySem.W.typeIn K (.ref c) = some (.type "type")
/-- how errors lie: made of their classes, without anything of their own -/
def RXp (K : PySem.W.Frag) (ca : Str → Addr) (ex : ExT) : XR := fun Z _ v d e => (ex.cls e.cls = true ∧ ex.fld e.cls = none ∧ v = .ref (ca e.cls) ∧ d = none) ∨
  ∃ f d0 w, ex.fld e.cls = some f ∧ v = .ref (ca e.cls) ∧ d = some d0 ∧ Z d0 = some (.xd [(f, w)]) ∧ Rp K Z w e.arg
/-- a def of one parameter -/
theorem word_def {tab : Str → Option Dfn} (ht : ∀ x d, tab x = some d → ∃ f fd, DefOk K mg x d f fd) {y : Str} {d' : Dfn} (e : tab y = some d') (h1 : d'.fl.length = 1) : ∃ f' fd' a, mg y = some (.ref f') ∧ PySem.W.keepIn K (.ref f') = true ∧ FunD K y y (defArgs d'.st) (defBody d'.st) (defScope d'.st) [] [] f' fd' ∧
    L2.Binds K fd' [a] [] ∧ FnScope d'.N [a] (defScope d'.st) ∧ d'.N[0]? = some a := by
  obtain ⟨f', fd', D'⟩ := ht y d' e
  have hle := D'.le
  rw [h1] at hle
  obtain ⟨a, rest, hN⟩ : ∃ a rest, d'.N = a :: rest := by
    cases hN : d'.N with
    | nil => rw [hN] at hle; simp at hle
    | cons a rest => exact ⟨a, rest, rfl⟩
  have tk1 : d'.N.take d'.fl.length = [a] := by rw [h1, hN]; rfl
  exact ⟨f', fd', a, D'.gl, D'.fn.kp, D'.fn, tk1 ▸ D'.bd, tk1 ▸ D'.sc, by rw [hN]; rfl⟩
theorem word_tab {tab : Str → Option Dfn} (ht : ∀ x d, tab x = some d → ∃ f fd, DefOk K mg x d f fd) (blt : Str → Bool) (ex : ExT) {N : List Str} {cst : Str → Option Da} {fns : Str → Option (List Bool × Fn)} {lam : Bool} {wd : Str → Option Wd} {wd2 : Str → Option (Wd × Wd)} (y : Str) (w : Wd) (hw : wdsOf blt ex tab y = some w) :
    WordOk ⟨N, cst, fns, blt, ex, lam, wd, wd2⟩ K mg y w := by
  unfold wdsOf at hw
  cases e : tab y with
  | none => rw [e] at hw; cases hw
  | some d' =>
    rw [e] at hw
    dsimp only at hw
    split at hw
    · rename_i hl1
      obtain ⟨f', fd', a, q1, q2, q3, q4, q5, q6⟩ := word_def ht e (by simpa using hl1)
      exact ⟨_, _, _, d'.N, a, f', fd', q1, q2, q3, q4, q5, q6, hw⟩
    · cases hw
/-- every def of the table, at every depth -/
theorem tab_ok {cst : Str → Option Da} {blt : Str → Bool} {ex : ExT} {m : Nat} {tab : Str → Option Dfn} (ht : ∀ x d, tab x = some d → ∃ f fd, DefOk K mg x d f fd)
    (hc : (∀ x d, cst x = some d → plainD d = true → ∃ v u, mg x = some u ∧ RelV v u ∧ ∀ Z, Rp K Z v d) ∧ ∀ x ps, cst x = some (.dict ps) → DctK K w mg x ps) (hb : ∀ x, blt x = true → mg x = none)
    (hx1 : ∀ x, ex.cls x = true → ∃ c : Addr, mg x = some (.ref c) ∧ PySem.W.excIn K c [.type "ValueError", .type "Exception", .type "BaseException", .type "object"] "ValueError.__new__" = true ∧ PySem.W.keepIn K (.ref c) = true ∧ PySem.W.subIn K (.ref c) (.type "BaseException") = some true ∧
      PySem.W.typeIn K (.ref c) = some (.type "type") ∧ ∀ Z H, R Z H (.ref c) none ⟨x, .none⟩)
    (hx2 : ∀ Z H v d e y c, R Z H v d e → ex.known y = true → mg y = some (.ref c) → PySem.W.exmOne K v (.ref c) = some (ex.sub e.cls y)) (hx3 : ∀ x f, ex.fld x = some f → FldX P K mg R x f)
    (htb : ∀ c P, PySem.W.codeHdIn K c P = true → (∃ q, (P, q) ∈ tabs K) → LamX.TabB base mg c P) : ∀ (k : Nat) (x : Str) (f : Addr) (fd : FuncData) (d : Dfn), DefOk K mg x d f fd →
      FnG P w K mg base (4 * k) f fd (d.N.take d.fl.length) (spF K R d.fl.length (fnAt cst blt ex m tab k d))
  | 0, x, f, fd, d, D => by
    unfold fnAt
    refine ⟨fun vs H Q E ⟨Z, as, ln, _⟩ => ?_, fun A outer t0 H args us vs Q E _ _ _ _ _ ⟨Z, as, ln, S, ia, q⟩ => q.elim⟩
    rw [List.length_take]; have := D.le; omega
  | k + 1, x, f, fd, d, D => by
    unfold fnAt
    refine FnG.of (k := 4 * k + 3) D.fn D.sc (fun vs H Q E ⟨Z, as, ln, _⟩ => ?_) fun cdv A outer t0 H vs Q E room hg hcd hsp => ?_
    · rw [List.length_take]; have := D.le; omega
    · have G : Good ⟨d.N, cst, fun x => (tab x).map fun e => (e.fl, fnAt cst blt ex m tab k e), blt, ex, d.lam, wdsOf blt ex tab, wds2Of blt ex tab⟩ R (fun cls d _ G => E cls d G) (defScope d.st) (cxOf (L2.CX P w) P w K mg base d.N x (defScope d.st) f cdv A outer t0 H E) := {
        N := rfl
        nd := D.sc.nd
        calm := rfl
        gs := hg
        un := units_ok room
        tk := takes_of rfl rfl rfl rfl
        nm := fun y k h => .inl h
        fn := fun _ _ => rfl
        cst := hc.1
        dct := hc.2
        gad := fun y fl' F' hf => by
          cases e : tab y with
          | none => simp only [e] at hf; cases hf
          | some d' =>
            obtain ⟨f', fd', D'⟩ := ht y d' e
            have q := D'.gl
            rw [D'.ga] at q
            exact q
        fns := fun y fl' F' hf => by
          cases e : tab y with
          | none => simp only [e] at hf; cases hf
          | some d' =>
            simp only [e] at hf
            cases hf
            obtain ⟨f', fd', D'⟩ := ht y d' e
            exact ⟨f', fd', _, 4 * k, D'.gl, D'.fn.kp, tab_ok ht hc hb hx1 hx2 hx3 htb k y f' fd' d' D', room.mono (by omega), fun _ => room, D'.bd⟩
        blt := hb
        ex1 := hx1
        ex2 := hx2
        ex3 := hx3
        rm := ⟨_, room⟩
        lam := fun hl => by
          obtain ⟨c, T, e1, e2, e3, e4⟩ := D.lm hl
          rw [hcd] at e1
          cases e1
          exact ⟨c, T, rfl, htb c T e2 ⟨_, e3⟩, e3, e4, room.mono (by omega)⟩
        wd := fun _ => word_tab ht blt ex
        wd2 := fun _ y w2 w1 hw => by
          have hw : wds2Of blt ex tab y = some (w2, w1) := hw
          unfold wds2Of at hw
          cases e : tab y with
          | none => rw [e] at hw; cases hw
          | some d' =>
            rw [e] at hw
            dsimp only at hw
            split at hw
            · rename_i hl1
              split at hw
              · rename_i z w2' h2
                split at hw
                · rename_i w1' h1
                  cases hw
                  obtain ⟨f', fd', a, q⟩ := word_def ht e (by simpa using hl1)
                  obtain ⟨q1, q2, q3, q4, q5, q6⟩ := q
                  exact ⟨_, _, _, d'.N, a, f', fd', z, q1, q2, q3, q4, q5, q6, h2, word_tab ht blt ex z _ h1⟩
                · cases hw
              · cases hw
            · cases hw }
      exact ⟨_, (stmt_ok _ R m m G D.sc.kind rfl rfl (passes_of (X := cxOf (L2.CX P w) P w K mg base d.N x (defScope d.st) f cdv A outer t0 H E) rfl)).2 _, body_to D.le hsp⟩

/-- what an error class is that keeps a field -/
def FldOk (prog : Program) (K : PySem.W.Frag) (mg : Str → Option Value) (x f : Str) (C : Addr) : Prop := ∃ (fI : Addr) (B newId i : String) (bmB : List Value), PySem.MiX.BaseX B newId i bmB ∧ PySem.MiX.KtTxt prog K x f C fI B newId i bmB ∧
  mg x = some (.ref C) ∧ mg "super" = none ∧ XfC K C ∧ PySem.W.findIn K (.ref C) f = some none
/-- the classes' facts, as `tab_ok` asks for them -/
theorem cls_one {ca : Str → Addr} {ex : ExT} (h : ∀ x, ex.cls x = true → ClsOk K mg x (ca x)) (hn : ∀ x, ex.cls x = true → ex.fld x = none) : ∀ x, ex.cls x = true → ∃ c : Addr, mg x = some (.ref c) ∧ PySem.W.excIn K c [.type "ValueError", .type "Exception", .type "BaseException", .type "object"] "ValueError.__new__" = true ∧ PySem.W.keepIn K (.ref c) = true ∧ PySem.W.subIn K (.ref c) (.type "BaseException") = some true ∧
      PySem.W.typeIn K (.ref c) = some (.type "type") ∧ ∀ Z H, RXp K ca ex Z H (.ref c) none ⟨x, .none⟩ := fun x hx => by
  have q := h x hx
  exact ⟨ca x, q.gl, q.xc, q.kp, q.sb, q.ty, fun _ _ => .inl ⟨hx, hn x hx, rfl, rfl⟩⟩
theorem cls_two {ca : Str → Addr} {ex : ExT} (h : ∀ x, ex.known x = true → mg x = some (.ref (ca x))) (h2 : ∀ x y, ex.known x = true → ex.known y = true → PySem.W.exmOne K (.ref (ca x)) (.ref (ca y)) = some (ex.sub x y)) :
    ∀ Z H v d e y c, RXp K ca ex Z H v d e → ex.known y = true → mg y = some (.ref c) → PySem.W.exmOne K v (.ref c) = some (ex.sub e.cls y) := fun Z H v d e y c hR hy hc => by
  have e1 := h y hy
  rw [hc] at e1
  cases e1
  rcases hR with ⟨h3, _, rfl, _⟩ | ⟨f, d0, w, hf, rfl, _⟩
  · exact h2 _ _ (by unfold ExT.known; rw [h3]; rfl) hy
  · exact h2 _ _ (by unfold ExT.known; rw [hf]; simp) hy
theorem cls_three {ca : Str → Addr} {ex : ExT} (h : ∀ x f, ex.fld x = some f → FldOk P K mg x f (ca x)) : ∀ x f, ex.fld x = some f → FldX P K mg (RXp K ca ex) x f := fun x f hf => by
  obtain ⟨fI, B, newId, i, bmB, BX, T, gC, gs, xf, nof⟩ := h x f hf
  refine ⟨ca x, fI, B, newId, i, bmB, BX, T, gC, gs, xf, nof, fun Z H dd w arg hz hw => .inr ⟨f, dd, w, hf, rfl, rfl, hz, hw⟩, fun Z H cls dd arg hR => ?_⟩
  rcases hR with ⟨_, h4, _⟩ | ⟨f', d0, w, hf', e1, e2, e3, e4⟩
  · rw [hf] at h4; cases h4
  · have : f' = f := by
      have := hf'.symm.trans hf
      exact Option.some.inj this
    subst this
    exact ⟨e1, d0, w, e2, e3, e4⟩
/-! ### the law's call -/
/-- the caller shows nothing -/
theorem caller_gs : callerA.guards = some [] := rfl
theorem tabs_none {p : Addr × Str} (h : p ∈ tabs K) : K.lookup p.1 = none := by
  unfold tabs at h
  split at h
  · obtain ⟨e, _, he⟩ := List.mem_filterMap.mp h
    split at he
    · split at he
      · split at he
        · split at he
          · split at he
            · split at he
              · rename_i hn
                cases he
                simpa using hn
              · cases he
            · cases he
          · cases he
        · cases he
      · cases he
    · cases he
  · cases h
theorem law_callG {mb : Str → Option Value} {k : Nat} {fa a : Addr} {fd : FuncData} {x : Str} {sp : Sp} {t1 : Shared} {us : List Value} {zs : List Int}
    (KX : K.In t1.heap) (gns : t1.heap.Ns mainGlobals mg) (bns : t1.heap.Ns builtinsNs mb) (bts : ∀ y : Str, y ≠ "__name__" → mb y = bootBuiltins y) (nolim : t1.heap.NoLimit) (nog : t1.gens = #[])
    (tbs : ∀ p ∈ tabs K, t1.heap.get? p.1 = some { cls := .none, data := .fields #[] } ∧ ∃ c, PySem.W.codeHdIn K c p.1 = true)
    (bmod : ∃ (bm : Addr) (ob : Obj), mg "__builtins__" = some (.ref bm) ∧ bm ≠ builtinsNs ∧ t1.heap.get? bm = some ob ∧ ob.cls = .type "module" ∧ ob.dict = some builtinsNs ∧ ob.data = .plain)
    (la : t1.heap.get? a = some { cls := .type "list", data := .seq us.toArray }) (nums : IntsAre us zs) (short : zs.length ≤ sizeLine) (room : Room k callerA)
    (F : ∀ base : Heap, K.In base → base.Ns mainGlobals mg → (∀ c P, PySem.W.codeHdIn K c P = true → (∃ q, (P, q) ∈ tabs K) → LamX.TabB base mg c P) → FnG P w K mg base k fa fd [x] sp) (bnd : ∀ (s : Shared) (u : Value), BindsTo s fd ⟨[u], []⟩ [(x, u)])
    (nolist : ∀ b o, K.lookup b = some o → o.cls ≠ .type "list") (told : ∀ H : Hp, (∀ p ∈ tabs K, H p.1 = some (.tbl #[])) → Rd H a (.lst (zs.map V.int)) → sp [.ref a] H (fun v _ => v = .bl true) fun _ _ _ => False)
    (quiet : ∀ H e s', L2.CX P w [] H t1 (fun _ _ _ => False) e s' → False) :
    codeAny (model P w) callerA (.call (.ref fa) ⟨[.ref a], []⟩) (fun r s' => r = .ok (.ret (.bool true)) ∧ OldK t1.heap s'.heap ∧ s'.os = t1.os ∧ AllBare s'.gens) t1 := by
  have rel := vals_ints nums
  have len := nums.length
  have tbA : ∀ b, (∃ q, (b, q) ∈ tabs K) → t1.heap.get? b = some { cls := .none, data := .fields #[] } := fun b ⟨q, h⟩ => (tbs _ h).1
  have notA : ¬ ∃ q, (a, q) ∈ tabs K := fun h => by
    have e := tbA a h
    rw [la] at e
    have e2 : Data.seq us.toArray _ = Data.fields #[] := congrArg Obj.data (Option.some.inj e)
    cases e2
  have lk : K.lookup a = none := by
    cases lk : K.lookup a with
    | none => rfl
    | some o =>
      have e := KX a o lk
      rw [la] at e
      cases e
      exact absurd rfl (nolist a _ lk)
  have dec : ∀ b, (∃ q, (b, q) ∈ tabs K) ∨ ¬ ∃ q, (b, q) ∈ tabs K := fun b => Classical.em _
  have hit : ∀ b, b = a ∨ ¬ b = a := fun b => Decidable.em _
  -- the heap of what is told: the script, the tables
  have start : ∃ H : Hp, H a = some (.frz { cls := .type "list", data := .seq us.toArray } (.lst (zs.map V.int))) ∧ (∀ b, (∃ q, (b, q) ∈ tabs K) → H b = some (.tbl #[])) ∧ ∀ b, b ≠ a → (¬ ∃ q, (b, q) ∈ tabs K) → H b = none := by
    classical
    refine ⟨fun b => if b = a then some (.frz { cls := .type "list", data := .seq us.toArray } (.lst (zs.map V.int))) else if ∃ q, (b, q) ∈ tabs K then some (.tbl #[]) else none, if_pos rfl, fun b h => ?_, fun b n h => (if_neg n).trans (if_neg h)⟩
    have n : ¬ b = a := fun z => notA (z ▸ h)
    exact (if_neg n).trans (if_pos h)
  obtain ⟨H, Ha, Ht, Hn⟩ := start
  have hok : HOk P w H t1.heap := fun b u z => by
    rcases hit b with c | c
    · subst c
      rw [Ha] at z
      cases z
      exact ⟨la, (by rw [List.length_map]; exact short), us, _, rel, la⟩
    · rcases dec b with q | q
      · rw [Ht b q] at z
        cases z
        exact tbA b q
      · rw [Hn b c q] at z
        cases z
  have stays : ∀ {b : Addr} {o : Obj}, t1.heap.get? b = some o → H b = none → (hidT t1.heap H).get? b = some o := fun e n => hidT_get e n
  have free : ∀ {b : Addr} {o : Obj}, t1.heap.get? b = some o → (∀ vs n, o.data ≠ .seq vs n) → o.data ≠ .fields #[] → H b = none := fun {b o} e h1 h2 => by
    rcases hit b with c | c
    · subst c
      rw [la] at e
      cases e
      exact absurd rfl (h1 _ _)
    · rcases dec b with q | q
      · rw [tbA b q] at e
        cases e
        exact absurd rfl h2
      · exact Hn b c q
  have dict0 : ∀ {b : Addr} {o : Obj} {es : Array DictEntry} {ep : Nat}, t1.heap.get? b = some o → o.data = .dict es ep → H b = none := fun {b o es ep} e dd =>
    free e (fun _ _ z => by rw [dd] at z; cases z) fun z => by rw [dd] at z; cases z
  have nsT : ∀ {b : Addr} {m : Str → Option Value}, t1.heap.Ns b m → (hidT t1.heap H).Ns b m := fun {b m} ⟨o, es, ep, e, dd, r⟩ => ⟨o, es, ep, stays e (dict0 e dd), dd, r⟩
  have KT : K.In (hidT t1.heap H) := fun b o e => by
    refine stays (KX b o e) ?_
    rcases hit b with c | c
    · subst c; rw [lk] at e; cases e
    · rcases dec b with ⟨q, hq⟩ | q
      · rw [tabs_none hq] at e; cases e
      · exact Hn b c q
  have md : Mod K mg (hidT t1.heap H) := ⟨KT, nsT gns, ⟨mb, nsT bns, bts⟩, (by obtain ⟨mc, h1, h2⟩ := nolim; exact ⟨mc, nsT h1, h2⟩)⟩
  have ev : Env0 P w K mg (hidT t1.heap H) callerA [] t1 H := ⟨rfl, md, fun b o e => of_hidT e, Nat.le_of_eq (hidT_size _ _), trivial, (fun b hb => by cases hb), hok, .of_eq nog⟩
  have TB : ∀ c P, PySem.W.codeHdIn K c P = true → (∃ q, (P, q) ∈ tabs K) → LamX.TabB (hidT t1.heap H) mg c P := fun c P hc hP => by
    have hTp := tbA P hP
    refine ⟨PySem.W.codeHd_of_K KT hc, ?_, fun z => ?_⟩
    · obtain ⟨bm, ob, b1, b2, b3, b4, b5, b6⟩ := bmod
      refine ⟨bm, ob, b1, b2, fun q => ?_, fun q => ?_, stays b3 (free b3 (fun _ _ z => by rw [b6] at z; cases z) fun z => by rw [b6] at z; cases z), b4, b5, b6⟩
      · obtain ⟨o, es, ep, e, hd, _⟩ := gns
        rw [q, e] at b3
        cases b3
        rw [hd] at b6
        cases b6
      · rw [q, hTp] at b3
        cases b3
        cases b6
    · obtain ⟨o, es, ep, e, hd, _⟩ := gns
      rw [z, hTp] at e
      cases e
      cases hd
  refine codeAny_mono ((F _ KT (nsT gns) TB).run callerA [] t1 H ⟨[.ref a], []⟩ [.ref a] [.ref a] _ _ room caller_gs ev (bnd t1 (.ref a)) (.cons rfl .nil) (told H (fun p hp => Ht p.1 ⟨p.2, hp⟩) (.inr ⟨_, Ha⟩))) fun r s' out => ?_
  match r, out with
  | .error e, out => exact (quiet H e s' out).elim
  | .ok (.ret u), out =>
    obtain ⟨v, H', os, bare, un, hok', rv, q⟩ := out
    cases (show v = .bl true from q)
    cases (show u = Value.bool true from rv)
    have same : ∀ b o, (¬ ∃ q, (b, q) ∈ tabs K) → t1.heap.get? b = some o → s'.heap.get? b = some o := fun b o nb e => by
      rcases hit b with c | c
      · subst c
        obtain ⟨e1, _⟩ := hok b _ Ha
        obtain ⟨e2, _⟩ := hok' b _ (un.frzs b _ _ Ha)
        rw [e] at e1
        cases e1
        exact e2
      · exact un.keep b o e (Hn b c nb) (fun z => by cases z) (by simp)
    have more : ∀ b, (∃ q, (b, q) ∈ tabs K) → ∃ vs : Array Value, s'.heap.get? b = some { cls := .none, data := .fields vs } := fun b h => by
      obtain ⟨m, z⟩ := un.tbls b #[] (Ht b h)
      exact ⟨_, hok' b _ z⟩
    refine ⟨rfl, ⟨fun b o e => ?_, fun b o e => ?_⟩, os, bare⟩
    · rcases dec b with h | h
      · obtain ⟨vs, hm⟩ := more b h
        have hTb := tbA b h
        rw [hTb] at e
        cases e
        obtain ⟨q, hq⟩ := h
        obtain ⟨c, hc⟩ := (tbs _ hq).2
        exact .inr (.inl ⟨((PySem.W.codeHd_of_K KX hc).tab hTb).isCodeTable, rfl, #[], vs, rfl, by rw [Array.empty_append]; exact hm⟩)
      · exact .inl (same b o h e)
    · rcases dec b with h | h
      · obtain ⟨vs, hm⟩ := more b h
        exact ⟨_, hm⟩
      · exact ⟨o, same b o h e⟩
theorem walk_ofG {l : PySem.W.OpenLaw} {n k : Nat} {q : Program} {loose : List Str} {XP : (Str → Option Value) → Heap → Prop} {YP : World → Heap → Prop} {d : DefRec} {x : Str}
    (hn : l.most = some n) (few : n ≤ sizeLine) (nodef : d.params.defaults = []) (room : Room k callerA)
    (F : ∀ (w : World) (mg : Str → Option Value) (fa : Addr) (h : Heap), YP w h → h.Ns mainGlobals mg → mg d.name = some (.ref fa) →
      ∃ (K : PySem.W.Frag) (fd : FuncData) (sp : Sp), K.In h ∧ (∀ (s : Shared) (u : Value), BindsTo s fd ⟨[u], []⟩ [(x, u)]) ∧
        (∀ b o, K.lookup b = some o → o.cls ≠ .type "list") ∧ (∀ p ∈ tabs K, h.get? p.1 = some { cls := .none, data := .fields #[] } ∧ ∃ c, PySem.W.codeHdIn K c p.1 = true) ∧ (∀ (H : Hp) (a : Addr) (zs : List Int), zs.length ≤ n → (∀ p ∈ tabs K, H p.1 = some (.tbl #[])) → Rd H a (.lst (zs.map V.int)) → sp [.ref a] H (fun v _ => v = .bl true) fun _ _ _ => False) ∧
        ∀ base : Heap, K.In base → base.Ns mainGlobals mg → (∀ c P, PySem.W.codeHdIn K c P = true → (∃ q, (P, q) ∈ tabs K) → LamX.TabB base mg c P) → FnG l.prog w K mg base k fa fd [x] sp) :
    PySem.W.WalkO q loose XP YP l.row.toRowW d [] (fun f vs => PySem.call f vs) :=
  Att.attach_call hn nodef fun w s₀ t1 mg mb fa o pm cd doc a us zs G Y ho hd hcd hmg hobj hints hlen hg => by
    obtain ⟨K, fd, sp, KX, bnd, nol, tbs, told, hF⟩ := F w mg fa _ Y G.T.g hmg
    exact law_callG KX G.T.g G.T.b G.T.builtins G.T.nolimit hg tbs G.T.bmain hobj hints (Nat.le_trans hlen few) room hF bnd nol (fun H hT hS => told H a zs hlen hT hS) fun H e s' ⟨_, _, _, _, _, _, _, _, _, _, _, _, z⟩ => z
end
end Mi

set_option maxHeartbeats 1000000
namespace Mi
open PySem PySem.Spec PyProof.Rows L2
theorem lookup_mem {α : Type} : ∀ {l : List (Str × α)} {x : Str} {d : α}, l.lookup x = some d → (x, d) ∈ l
  | [], _, _, h => by cases h
  | (y, e) :: l, x, d, h => by
    rw [List.lookup_cons] at h
    cases c : x == y with
    | true => rw [c] at h; cases h; rw [eq_of_beq c]; exact List.mem_cons_self
    | false => rw [c] at h; exact List.mem_cons_of_mem _ (lookup_mem h)
theorem tab_each {K : PySem.W.Frag} {mg : Str → Option Value} {l : List (Str × Dfn)} (h : ∀ p ∈ l, ∃ f fd, DefOk K mg p.1 p.2 f fd) : ∀ x d, l.lookup x = some d → ∃ f fd, DefOk K mg x d f fd := fun x d e => h (x, d) (lookup_mem e)
/-- what a module's name holds: an int, a text; a tuple or a dict of such -/
def flatC : Da → Bool
  | .int _ => true
  | .str _ => true
  | .none => true
  | .bool _ => true
  | _ => false
def daV : Da → V
  | .int i => .int i
  | .str x => .str x
  | .bool b => .bl b
  | _ => .non
theorem daV_rp {K : PySem.W.Frag} {Z : Hp} {d : Da} (h : flatC d = true) : Rp K Z (daV d) d := by
  cases d <;> first | cases h | skip
  · exact .non
  · exact .bl _
  · exact .int _
  · exact .str _
theorem daV_all {K : PySem.W.Frag} {Z : Hp} : ∀ {ds : List Da}, ds.all flatC = true → RpAll K Z (ds.map daV) ds
  | [], _ => .nil
  | d :: ds, h => by
    rw [List.all_cons, Bool.and_eq_true] at h
    exact .cons (daV_rp h.1) (daV_all h.2)
def keyS : Da → Str
  | .str s => s
  | _ => ""
def isS : Da → Bool
  | .str _ => true
  | _ => false
/-- a tuple, a dict of the module, read off the head -/
def cdB (K : PySem.W.Frag) : Str × Da → Bool
  | (x, .tuple ds) => ds.all flatC && (match K.lookup (He.ga K x) with
    | some ⟨.type c, _, .seq its _, _⟩ => decide (c = "tuple") && decide (its.size ≤ sizeLine) && He.relAll (ds.map daV) its.toList
    | _ => false)
  | (x, .dict ps) => ps.all fun q => isS q.1 && flatC q.2 && (match PySem.W.nsIn K (He.ga K x) (keyS q.1) with
    | some (some u) => He.relB (daV q.2) u
    | _ => false)
  | _ => true
def dctsOf : List (Str × Da) → List (Str × List Str)
  | [] => []
  | (x, .dict ps) :: l => (x, ps.map fun q => keyS q.1) :: dctsOf l
  | _ :: l => dctsOf l
theorem dctsOf_mem {x : Str} {ps : List (Da × Da)} : ∀ {l : List (Str × Da)}, (x, PyData.dict ps) ∈ l → (x, ps.map fun q => keyS q.1) ∈ dctsOf l
  | [], h => by cases h
  | (y, d) :: l, h => by
    rcases List.mem_cons.mp h with e | e
    · cases e; exact List.mem_cons_self
    · have := dctsOf_mem e
      cases d <;> first | exact this | exact List.mem_cons_of_mem _ this
theorem keys_none {P : Params} {z : Str} : ∀ {l : List DictEntry} {ks : List Str}, l.map He.keyOf = He.keysIn P ks → z ∉ ks → l.find? (·.key.isStr z) = none ∧ l.any (·.refKey) = false
  | [], _, _, _ => ⟨rfl, rfl⟩
  | e :: r, [], h, _ => by cases h
  | e :: r, k :: ks, h, hz => by
    have h1 : He.keyOf e :: r.map He.keyOf = some (k, PyData.keyHash P k) :: He.keysIn P ks := h
    injection h1 with h2 h3
    obtain ⟨i1, i2⟩ := keys_none h3 fun q => hz (List.mem_cons_of_mem _ q)
    unfold He.keyOf at h2
    split at h2
    · rename_i x t q
      have h4 := Option.some.inj h2
      obtain ⟨h5, h6⟩ := Prod.mk.inj h4
      subst h5
      have ne : e.key.isStr z = false := by
        rw [q]
        show (x == z) = false
        exact beq_eq_false_iff_ne.mpr fun c => hz (by rw [c]; exact List.mem_cons_self)
      have nr : e.refKey = false := by
        unfold DictEntry.refKey
        rw [q]
      exact ⟨by rw [List.find?_cons, ne]; exact i1, by rw [List.any_cons, nr]; exact i2⟩
    · cases h2
theorem dct_of {K : PySem.W.Frag} {w : World} {mg : Str → Option Value} {x : Str} {ps : List (Da × Da)} (hm : mg x = some (.ref (He.ga K x))) (h1 : He.dicW K (He.ga K x) = some (He.keysIn w.params (ps.map fun q => keyS q.1))) (h2 : cdB K (x, .dict ps) = true) : DctK K w mg x ps := by
  obtain ⟨es, n, KD⟩ := He.dicW_ok h1
  refine ⟨_, es, n, hm, KD, fun z => ?_⟩
  have hk : es.toList.map He.keyOf = He.keysIn w.params (ps.map fun q => keyS q.1) := by
    unfold He.dicW at h1
    rw [KD.at_] at h1
    dsimp only at h1
    split at h1
    · exact Option.some.inj h1
    · cases h1
  have ha : ∀ q ∈ ps, isS q.1 = true ∧ flatC q.2 = true ∧ ∃ u, PySem.W.nsIn K (He.ga K x) (keyS q.1) = some (some u) ∧ RelV (daV q.2) u := fun q hq => by
    have := List.all_eq_true.mp h2 q hq
    rw [Bool.and_eq_true, Bool.and_eq_true] at this
    obtain ⟨⟨a, b⟩, c⟩ := this
    refine ⟨a, b, ?_⟩
    split at c
    · rename_i u e; exact ⟨u, e, He.relB_ok c⟩
    · cases c
  have hs : ∀ q : Da × Da, isS q.1 = true → keyIs z q = (keyS q.1 == z) := fun q hq => by
    obtain ⟨a, b⟩ := q
    cases a <;> first | rfl | cases hq
  cases e : ps.find? (keyIs z) with
  | some q =>
    have hq := List.mem_of_find?_eq_some e
    have hz := List.find?_some e
    obtain ⟨a, b, u, c, d⟩ := ha q hq
    rw [hs q a] at hz
    rw [eq_of_beq hz] at c
    exact ⟨_, u, c, d, fun Z => daV_rp b⟩
  | none =>
    have hn : z ∉ ps.map fun q => keyS q.1 := fun h => by
      obtain ⟨q, hq, ez⟩ := List.mem_map.mp h
      have := List.find?_eq_none.mp e q hq
      rw [hs q (ha q hq).1, ez] at this
      exact this (by simp)
    obtain ⟨i1, i2⟩ := keys_none hk hn
    show PySem.W.nsIn K (He.ga K x) z = some none
    unfold PySem.W.nsIn
    rw [KD.at_]
    dsimp only
    rw [i1]
    dsimp only
    rw [i2]
    rfl
theorem tup_of {K : PySem.W.Frag} {mg : Str → Option Value} {x : Str} {ds : List Da} (hm : mg x = some (.ref (He.ga K x))) (h2 : cdB K (x, .tuple ds) = true) : ∃ v u, mg x = some u ∧ RelV v u ∧ ∀ Z, Rp K Z v (.tuple ds) := by
  have h2 : (ds.all flatC && (match K.lookup (He.ga K x) with
    | some ⟨.type c, _, .seq its _, _⟩ => decide (c = "tuple") && decide (its.size ≤ sizeLine) && He.relAll (ds.map daV) its.toList
    | _ => false)) = true := h2
  rw [Bool.and_eq_true] at h2
  obtain ⟨a, b⟩ := h2
  split at b
  · rename_i c od its n sl e
    simp only [Bool.and_eq_true, decide_eq_true_eq] at b
    obtain ⟨⟨b1, b2⟩, b3⟩ := b
    subst b1
    exact ⟨.ref (He.ga K x), _, hm, rfl, fun Z => .tup (.inr ⟨_, its, n, e, rfl, rfl, b2, He.relAll_ok b3⟩) (daV_all a)⟩
  · cases b
def cOk (K : PySem.W.Frag) (mg : Str → Option Value) : Str × Da → Prop
  | (x, .int i) => ∃ t, mg x = some (.int i t)
  | (x, .str s) => ∃ t, mg x = some (.str s t)
  | (x, .tuple _) => mg x = some (.ref (He.ga K x))
  | (x, .dict _) => mg x = some (.ref (He.ga K x))
  | _ => False
theorem cst_each {K : PySem.W.Frag} {w : World} {mg : Str → Option Value} {l : List (Str × Da)} (h : ∀ p ∈ l, cOk K mg p) (hc : l.all (cdB K) = true) (hd : (dctsOf l).map (fun t => He.dicW K (He.ga K t.1)) = (dctsOf l).map fun t => some (He.keysIn w.params t.2)) :
    (∀ x d, l.lookup x = some d → plainD d = true → ∃ v u, mg x = some u ∧ RelV v u ∧ ∀ Z, Rp K Z v d) ∧ ∀ x ps, l.lookup x = some (.dict ps) → DctK K w mg x ps := by
  refine ⟨fun x d e hp => ?_, fun x ps e => ?_⟩
  · have q := h _ (lookup_mem e)
    have q2 := List.all_eq_true.mp hc _ (lookup_mem e)
    unfold cOk at q
    split at q
    · rename_i he; cases he
      obtain ⟨t, ht⟩ := q
      exact ⟨.int _, _, ht, ⟨_, rfl⟩, fun _ => .int _⟩
    · rename_i he; cases he
      obtain ⟨t, ht⟩ := q
      exact ⟨.str _, _, ht, ⟨_, rfl⟩, fun _ => .str _⟩
    · rename_i he; cases he
      exact tup_of q q2
    · rename_i he; cases he
      cases hp
    · exact q.elim
  · have q := h _ (lookup_mem e)
    have q2 := List.all_eq_true.mp hc _ (lookup_mem e)
    have m := dctsOf_mem (lookup_mem e)
    have q3 : He.dicW K (He.ga K x) = some (He.keysIn w.params (ps.map fun q => keyS q.1)) := List.map_inj_left.mp hd _ m
    exact dct_of q q3 q2
theorem blt_each {mg : Str → Option Value} {l : List Str} (h : ∀ p ∈ l, mg p = none) : ∀ x, l.contains x = true → mg x = none := fun x e => h x (by simpa using e)
/-- the error classes that the head knows: those without anything of their own, those that keep a field -/
def exOf (cl : List Str) (fl : List (Str × Str)) (sb : List (Str × Str)) : ExT := ⟨fun x => cl.contains x, fun x y => sb.contains (x, y), fun x => if cl.contains x then none else fl.lookup x⟩
theorem exOf_fld {cl : List Str} {fl sb : List (Str × Str)} {x f : Str} (h : (exOf cl fl sb).fld x = some f) : (x, f) ∈ fl := by
  unfold exOf at h
  dsimp only at h
  split at h
  · cases h
  · exact lookup_mem h
theorem exOf_none {cl : List Str} {fl sb : List (Str × Str)} : ∀ x, (exOf cl fl sb).cls x = true → (exOf cl fl sb).fld x = none := fun x h => if_pos h
theorem exOf_known {cl : List Str} {fl sb : List (Str × Str)} {x : Str} (h : (exOf cl fl sb).known x = true) : x ∈ cl ++ fl.map (·.1) := by
  unfold ExT.known at h
  rw [Bool.or_eq_true] at h
  rcases h with h | h
  · exact List.mem_append_left _ (by simpa [exOf] using h)
  · obtain ⟨f, hf⟩ := Option.isSome_iff_exists.mp h
    exact List.mem_append_right _ (List.mem_map.mpr ⟨_, exOf_fld hf, rfl⟩)
theorem exc_each {K : PySem.W.Frag} {mg : Str → Option Value} {cl : List Str} {fl sb : List (Str × Str)} (h : ∀ x ∈ cl, ClsOk K mg x (He.ga K x)) : ∀ x, (exOf cl fl sb).cls x = true → ClsOk K mg x (He.ga K x) := fun x hx => h x (by simpa [exOf] using hx)
theorem kno_each {K : PySem.W.Frag} {mg : Str → Option Value} {cl : List Str} {fl sb : List (Str × Str)} (h : ∀ x ∈ cl ++ fl.map (·.1), mg x = some (.ref (He.ga K x))) : ∀ x, (exOf cl fl sb).known x = true → mg x = some (.ref (He.ga K x)) := fun x hx => h x (exOf_known hx)
theorem exm_each {K : PySem.W.Frag} {cl : List Str} {fl sb : List (Str × Str)} (h : ∀ x ∈ cl ++ fl.map (·.1), ∀ y ∈ cl ++ fl.map (·.1), PySem.W.exmOne K (.ref (He.ga K x)) (.ref (He.ga K y)) = some (sb.contains (x, y))) :
    ∀ x y, (exOf cl fl sb).known x = true → (exOf cl fl sb).known y = true → PySem.W.exmOne K (.ref (He.ga K x)) (.ref (He.ga K y)) = some ((exOf cl fl sb).sub x y) := fun x y hx hy => h x (exOf_known hx) y (exOf_known hy)
theorem fld_each {prog : Program} {K : PySem.W.Frag} {mg : Str → Option Value} {cl : List Str} {fl sb : List (Str × Str)} (h : ∀ p ∈ fl, FldOk prog K mg p.1 p.2 (He.ga K p.1)) : ∀ x f, (exOf cl fl sb).fld x = some f → FldOk prog K mg x f (He.ga K x) := fun x f hf => h (x, f) (exOf_fld hf)
theorem fld_ok {prog : Program} {K : PySem.W.Frag} {mg : Str → Option Value} {h : Heap} {fl : Str} {d : PySem.MiX.KtD} (X : K.In h) (G : h.Ns mainGlobals mg) (BX : PySem.MiX.BaseX d.B d.newId d.i d.bmB) (hfl : ((prog.main.file : Str) == fl) = true) (hno : (prog.main.scope.names.lookup ("super" : Str)).isSome = false) (c : PySem.MiX.ktB fl K d = true) : FldOk prog K mg d.x d.f (He.ga K d.x) := by
  obtain ⟨T, xf, nof, gx, gs⟩ := PySem.MiX.ktB_ok hfl hno c
  exact ⟨_, _, _, _, _, BX, T, PySem.W.mg_of X G gx, PySem.W.mg_none_of X G gs, xf, nof⟩
theorem cls_ok {K : PySem.W.Frag} {mg : Str → Option Value} {h : Heap} (X : K.In h) (G : h.Ns mainGlobals mg) {x : Str} (c1 : (He.Fa.glo x).ok K = true) (c2 : (He.Fa.exc x).ok K = true) : ClsOk K mg x (He.ga K x) := by
  obtain ⟨q1, q2, q3, q4⟩ := He.exc_ok c2
  exact ⟨He.glo_ok X G c1, q1, q2, q3, q4⟩
/-! ### the head's facts, and that no list stands among them -/
def noLst (K : PySem.W.Frag) : Bool := K.all fun p => !decide (p.2.cls = .type "list")
theorem noLst_ok {K : PySem.W.Frag} (h : noLst K = true) : ∀ b o, K.lookup b = some o → o.cls ≠ .type "list" := by
  intro b o e
  have mem : ∀ {l : List (Addr × Obj)}, l.lookup b = some o → (b, o) ∈ l := by
    intro l
    induction l with
    | nil => intro h; cases h
    | cons q l ih =>
      obtain ⟨y, u⟩ := q
      intro h
      rw [List.lookup_cons] at h
      cases c : b == y with
      | true => rw [c] at h; cases h; rw [eq_of_beq c]; exact List.mem_cons_self
      | false => rw [c] at h; exact List.mem_cons_of_mem _ (ih h)
  have := List.all_eq_true.mp h _ (mem e)
  simpa using this
/-! the tables of the defs that hold lambdas are left out: they grow -/
def tblAt (K : PySem.W.Frag) (f : Addr) : Option Addr := match codeAt K f with
  | some (.ref c) => (match K.lookup c with
    | some ⟨_, _, .fields vs, _⟩ => (match (vs[11]? : Option Value) with
      | some (.ref P) => some P
      | _ => none)
    | _ => none)
  | _ => none
def cutK (lam : List Str) (K : PySem.W.Frag) : PySem.W.Frag := K.filter fun e => !((lam.filterMap fun x => tblAt K (He.ga K x)).contains e.1)
theorem lookup_filter {α : Type} {p : Addr → Bool} : ∀ {l : List (Addr × α)} {b : Addr} {o : α}, (l.filter fun e => p e.1).lookup b = some o → l.lookup b = some o
  | [], _, _, h => by cases h
  | (y, u) :: l, b, o, h => by
    rw [List.lookup_cons]
    cases hp : p y with
    | true =>
      rw [List.filter_cons_of_pos (by exact hp), List.lookup_cons] at h
      cases c : b == y with
      | true => rw [c] at h; exact h
      | false => rw [c] at h; exact lookup_filter h
    | false =>
      rw [List.filter_cons_of_neg (by rw [hp]; exact Bool.false_ne_true)] at h
      cases c : b == y with
      | true =>
        have hb : b = y := eq_of_beq c
        have mem : ∀ {l : List (Addr × α)}, l.lookup b = some o → (b, o) ∈ l := by
          intro l
          induction l with
          | nil => intro h; cases h
          | cons q l ih =>
            obtain ⟨z, u⟩ := q
            intro h
            rw [List.lookup_cons] at h
            cases c : b == z with
            | true => rw [c] at h; cases h; rw [eq_of_beq c]; exact List.mem_cons_self
            | false => rw [c] at h; exact List.mem_cons_of_mem _ (ih h)
        have hm := (List.mem_filter.mp (mem h)).2
        rw [hb, hp] at hm
        cases hm
      | false => exact lookup_filter h
theorem cut_in {lam : List Str} {K : PySem.W.Frag} {h : Heap} (X : K.In h) : (cutK lam K).In h := fun b o e => X b o (lookup_filter (p := fun b => !((lam.filterMap fun x => tblAt K (He.ga K x)).contains b)) e)
def tabEmp : Option Obj → Bool
  | some ⟨.none, none, .fields vs, sl⟩ => vs.isEmpty && sl.isEmpty
  | _ => false
theorem tabEmp_ok {o : Option Obj} (h : tabEmp o = true) : o = some { cls := .none, data := .fields #[] } := by
  unfold tabEmp at h
  split at h
  · rw [Bool.and_eq_true, Array.isEmpty_iff, Array.isEmpty_iff] at h
    rw [h.1, h.2]
  · cases h
def lamQ (x : Str) : Str := x ++ ".<locals>." ++ "<lambda>"
def lamB (K : PySem.W.Frag) (x : Str) : Bool := match codeAt K (He.ga K x), tblAt K (He.ga K x) with
  | some (.ref c), some P => PySem.W.codeHdIn K c P && (tabs K).contains (P, lamQ x) && (tabs K).all fun p => !(p.1 == P) || p.2 == lamQ x
  | _, _ => false
def tabB (lam : List Str) (K0 K : PySem.W.Frag) : Bool := ((tabs K).all fun p => tabEmp (K0.lookup p.1) && K.any fun e => PySem.W.codeHdIn K e.1 p.1) && lam.all (lamB K)
theorem tabB_ok {lam : List Str} {K0 : PySem.W.Frag} {h : Heap} (X : K0.In h) (c : tabB lam K0 (cutK lam K0) = true) : ∀ p ∈ tabs (cutK lam K0), h.get? p.1 = some { cls := .none, data := .fields #[] } ∧ ∃ c, PySem.W.codeHdIn (cutK lam K0) c p.1 = true := fun p hp => by
  unfold tabB at c
  rw [Bool.and_eq_true] at c
  have q := List.all_eq_true.mp c.1 p hp
  rw [Bool.and_eq_true] at q
  obtain ⟨e, _, he⟩ := List.any_eq_true.mp q.2
  exact ⟨X _ _ (tabEmp_ok q.1), e.1, he⟩
/-- a def that holds lambdas -/
def LamAt (K : PySem.W.Frag) (x : Str) : Prop := ∃ c P, codeAt K (He.ga K x) = some (.ref c) ∧ PySem.W.codeHdIn K c P = true ∧ (P, x ++ ".<locals>." ++ "<lambda>") ∈ tabs K ∧ ∀ p ∈ tabs K, p.1 = P → p.2 = x ++ ".<locals>." ++ "<lambda>"
theorem lamB_ok {lam : List Str} {K0 K : PySem.W.Frag} (c : tabB lam K0 K = true) : ∀ x ∈ lam, LamAt K x := fun x hx => by
  unfold tabB at c
  rw [Bool.and_eq_true] at c
  have q := List.all_eq_true.mp c.2 x hx
  unfold lamB at q
  split at q
  · rename_i cc P e1 e2
    simp only [Bool.and_eq_true] at q
    refine ⟨cc, P, e1, q.1.1, by have := q.1.2; simpa [lamQ] using this, fun p hp e => ?_⟩
    have := List.all_eq_true.mp q.2 p hp
    rw [Bool.or_eq_true] at this
    rcases this with z | z
    · rw [e] at z; simp at z
    · exact eq_of_beq z
  · cases q
abbrev AlN : Type := He.AlD × Bool × List (Option (List (Option (Str × Int))))
def ckN (fl : Str) (kt : List PySem.MiX.KtD) (lam : List Str) (cd : List (Str × Da)) (K0 K : PySem.W.Frag) : Bool := noLst K && kt.all (PySem.MiX.ktB fl K) && tabB lam K0 K && cd.all (cdB K)
def obsK (fa : List He.Fa) (fn : List He.DefD) (fl : Str) (kt : List PySem.MiX.KtD) (lam : List Str) (cd : List (Str × Da)) (K0 K : PySem.W.Frag) : AlN := (He.obsD fa fn K, ckN fl kt lam cd K0 K, (dctsOf cd).map fun t => He.dicW K (He.ga K t.1))
def obsN (n : Nat) (fa : List He.Fa) (fn : List He.DefD) (fl : Str) (kt : List PySem.MiX.KtD) (lam : List Str) (cd : List (Str × Da)) (g : Addr → Option Obj) : AlN :=
  obsK fa fn fl kt lam cd (He.frG g (cStatics :: He.asD g n)) (cutK lam (He.frG g (cStatics :: He.asD g n)))
def valN (fn : List He.DefD) (cd : List (Str × Da)) (w : World) : AlN := (He.valD fn, true, (dctsOf cd).map fun t => some (He.keysIn w.params t.2))
def hookN (n : Nat) (fa : List He.Fa) (fn : List He.DefD) (fl : Str) (kt : List PySem.MiX.KtD) (lam : List Str) (cd : List (Str × Da)) : PySem.W.Hook where
  α := AlN
  obs := fun s => obsN n fa fn fl kt lam cd s.heap.get?
  val := fun w => valN fn cd w
  says := fun w h => ∃ K : PySem.W.Frag, K.In h ∧ He.SaysD fa fn (cutK lam K) ∧ ckN fl kt lam cd K (cutK lam K) = true ∧ (dctsOf cd).map (fun t => He.dicW (cutK lam K) (He.ga (cutK lam K) t.1)) = (dctsOf cd).map fun t => some (He.keysIn w.params t.2)
  of := fun w s e => ⟨He.frG s.heap.get? (cStatics :: He.asD s.heap.get? n), He.frG_in, congrArg (fun z : AlN => z.1) e, congrArg (fun z : AlN => z.2.1) e, congrArg (fun z : AlN => z.2.2) e⟩
  keeps := fun _ _ _ ⟨K, hK, c⟩ k => ⟨K, PySem.W.Frag.In.keeps hK k, c⟩
theorem obsN_eq {n : Nat} {fa : List He.Fa} {fn : List He.DefD} {fl : Str} {kt : List PySem.MiX.KtD} {lam : List Str} {cd : List (Str × Da)} {g : Addr → Option Obj} {s : Shared} (h : ∀ a, g a = s.heap.get? a) : obsN n fa fn fl kt lam cd g = (hookN n fa fn fl kt lam cd).obs s := by
  have e : g = s.heap.get? := funext h
  rw [e] <;> rfl
theorem ckN_ok {fl : Str} {kt : List PySem.MiX.KtD} {lam : List Str} {cd : List (Str × Da)} {K0 K : PySem.W.Frag} (h : ckN fl kt lam cd K0 K = true) : noLst K = true ∧ kt.all (PySem.MiX.ktB fl K) = true ∧ tabB lam K0 K = true ∧ cd.all (cdB K) = true := by
  unfold ckN at h
  rw [Bool.and_eq_true, Bool.and_eq_true, Bool.and_eq_true] at h
  exact ⟨h.1.1.1, h.1.1.2, h.1.2, h.2⟩

/-- the law's promise, from what the small semantics says of it -/
theorem law_sp {K : PySem.W.Frag} {R : XR} {F : Fn} {n : Nat} (hF : ∀ zs : List Int, zs.length ≤ n → F [.val (.list (zs.map .int))] = .ret (.val (.bool true)) []) {H : Hp} {a : Addr} {zs : List Int} (hl : zs.length ≤ n) (ht : ∀ p ∈ tabs K, H p.1 = some (.tbl #[])) (hs : Rd H a (.lst (zs.map V.int))) :
    spF K R 1 F [.ref a] H (fun v _ => v = .bl true) fun _ _ _ => False := by
  have ra : ∀ (Z : Hp) (zs : List Int), RpAll K Z (zs.map V.int) (zs.map PyData.int) := fun Z zs => by
    induction zs with
    | nil => exact .nil
    | cons z zs ih => exact .cons (.int _) ih
  have only0 : ∀ {i : Nat} {v : Vl}, gt ([Vl.val (.list (zs.map .int))].map some) i = some v → i = 0 ∧ v = .val (.list (zs.map .int)) := fun {i v} h => by
    have e := gt_map' h
    cases i with
    | zero => simpa using e.symm
    | succ i => simp at e
  let Z : Hp := fun b => match H b with
    | some (.tbl _) => none
    | u => u
  have hz : ∀ b u, H b = some u → (∀ ps, u ≠ .tbl ps) → Z b = some u := fun b u e nt => by
    show (match H b with
      | some (.tbl _) => none
      | u => u) = some u
    rw [e]
    cases u <;> first | rfl | exact absurd rfl (nt _)
  have zt : ∀ b ps, H b = some (.tbl ps) → Z b = none := fun b ps e => by
    show (match H b with
      | some (.tbl _) => none
      | u => u) = none
    rw [e]
  have zle : Le Z H := fun b u e => by
    cases hb : H b with
    | none =>
      have : Z b = none := by
        show (match H b with
          | some (.tbl _) => none
          | u => u) = none
        rw [hb]
      rw [this] at e; cases e
    | some v =>
      by_cases c : ∃ ps, v = .tbl ps
      · obtain ⟨ps, rfl⟩ := c
        rw [zt b ps hb] at e; cases e
      · rw [hz b v hb fun ps q => c ⟨ps, q⟩] at e
        exact e
  have rz : Rd Z a (.lst (zs.map V.int)) := by
    rcases hs with h | ⟨o, h⟩
    · exact .inl (hz a _ h fun _ q => by cases q)
    · exact .inr ⟨o, hz a _ h fun _ q => by cases q⟩
  have tb : TbOk K Z H := ⟨fun p hp => LamX.TabS.nil (ht p hp), fun p hp => zt _ _ (ht p hp)⟩
  refine ⟨Z, [.val (.list (zs.map .int))], rfl, ⟨zle, tb, rfl, fun i v hi hv => ?_, fun i j b d d' h1 _ _ _ => ?_⟩, fun v hv => ?_, ?_⟩
  · obtain ⟨rfl, rfl⟩ := only0 hi
    exact ⟨.ref a, rfl, .lst rz (ra _ zs)⟩
  · rcases h1 with h1 | h1 <;> (obtain ⟨_, z⟩ := only0 h1; cases z)
  · cases hv with
    | head => rfl
    | tail _ h => cases h
  · rw [hF zs hl]
    intro x Z' H' _ nr
    cases nr
    rfl
end Mi

set_option maxHeartbeats 1000000
namespace Mi
open PySem PySem.Spec PyProof.Rows L2

/-! ## reckoning with the small semantics: what is applied is unfolded, step by step -/
def Out.bnd {α β : Type} (o : Out α) (f : α → Mm β) : Out β := match o with
  | .ok a r => f a r
  | .exc e r => .exc e r
  | .stuck => .stuck
section
variable {α β : Type} {r r' : Rho} {a : α} {d : Da} {v : Vl} {i j : Nat} {m m1 m2 : Mm Vl} {c c1 c2 : Mm Bool} {o o' : Opd} {os : List Opd} {F : Fn}
theorem Out.bnd_cg {o o' : Out α} {f : α → Mm β} (h : o = o') : o.bnd f = o'.bnd f := by rw [h]
@[simp] theorem bnd_ok {f : α → Mm β} : (Out.ok a r).bnd f = f a r := rfl
@[simp] theorem bnd_stuck {f : α → Mm β} : (Out.stuck : Out α).bnd f = .stuck := rfl
@[simp] theorem bnd_exc {f : α → Mm β} {e : Ex} : (Out.exc e r : Out α).bnd f = .exc e r := rfl
@[simp ↓] theorem ev_bnd {m : Mm α} {f : α → Mm β} : mBnd m f r = (m r).bnd f := rfl
@[simp ↓] theorem ev_ret : (mRet a : Mm α) r = .ok a r := rfl
@[simp ↓] theorem ev_stuck : (mStuck : Mm α) r = .stuck := rfl
@[simp ↓] theorem ev_opt : mOpt (some a) r = .ok a r := rfl
theorem ev_optN : mOpt (none : Option α) r = .stuck := rfl
def optE (x : Option α) (r : Rho) : Out α := match x with
  | some a => .ok a r
  | none => .stuck
@[simp] theorem optE_some : optE (some a) r = .ok a r := rfl
@[simp] theorem optE_none : optE (none : Option α) r = .stuck := rfl
theorem ev_optA {x : Option α} : mOpt x r = optE x r := by cases x <;> rfl
@[simp ↓] theorem ev_c : mC d r = .ok (.val d) r := rfl
@[simp] theorem gt_0 {x : Option Vl} : gt (x :: r) 0 = x := by cases x <;> rfl
@[simp] theorem gt_s {x : Option Vl} : gt (x :: r) (i + 1) = gt r i := rfl
def pkO (x : Option Vl) (r : Rho) : Out Da := match x with
  | some (.val d) => .ok d r
  | some (.own d) => .ok d r
  | some (.lent d) => .ok d r
  | _ => .stuck
@[simp] theorem pk_val : pkO (some (.val d)) r = .ok d r := rfl
@[simp] theorem pk_own : pkO (some (.own d)) r = .ok d r := rfl
@[simp] theorem pk_lent : pkO (some (.lent d)) r = .ok d r := rfl
@[simp ↓] theorem ev_peek : mPeek i r = pkO (gt r i) r := by
  unfold mPeek peek pkO
  cases gt r i with
  | none => rfl
  | some u => cases u <;> rfl
def vrO (x : Option Vl) (i : Nat) (r : Rho) : Out Vl := match x with
  | some (.val d) => .ok (.val d) r
  | some (.own d) => .ok (.val d) (r.set i (some (.val d)))
  | _ => .stuck
@[simp] theorem vr_val : vrO (some (.val d)) i r = .ok (.val d) r := rfl
@[simp] theorem vr_own : vrO (some (.own d)) i r = .ok (.val d) (r.set i (some (.val d))) := rfl
@[simp ↓] theorem ev_var : mVar i r = vrO (gt r i) i r := rfl
def mvO (x : Option Vl) (i : Nat) (r : Rho) : Out Vl := match x with
  | some (.val d) => .ok (.val d) r
  | some (.own d) => .ok (.own d) (r.set i none)
  | _ => .stuck
@[simp] theorem mv_val : mvO (some (.val d)) i r = .ok (.val d) r := rfl
@[simp] theorem mv_own : mvO (some (.own d)) i r = .ok (.own d) (r.set i none) := rfl
@[simp ↓] theorem ev_move : mMove i r = mvO (gt r i) i r := rfl
/-- a slot that is there and not lent -/
def stO (x : Option (Option Vl)) (i : Nat) (v : Vl) (r : Rho) : Out Unit := match x with
  | some (some (.lent _)) => .stuck
  | some (some .lck) => .stuck
  | some _ => .ok () (r.set i (some v))
  | none => .stuck
@[simp] theorem st_none : stO (some none) i v r = .ok () (r.set i (some v)) := rfl
@[simp] theorem st_val : stO (some (some (.val d))) i v r = .ok () (r.set i (some v)) := rfl
@[simp] theorem st_own : stO (some (some (.own d))) i v r = .ok () (r.set i (some v)) := rfl
@[simp ↓] theorem ev_set : mSet i v r = stO (r[i]?) i v r := rfl
def fzV : Vl → Mm Da
  | .val d => mRet d
  | .own d => mRet d
  | _ => mStuck
@[simp ↓] theorem fz_val : fzV (.val d) r = .ok d r := rfl
@[simp ↓] theorem fz_own : fzV (.own d) r = .ok d r := rfl
@[simp ↓] theorem ev_fz : mFz m r = (m r).bnd fzV := rfl
@[simp ↓] theorem ev_ops0 : mOps [] r = .ok [] r := rfl
@[simp ↓] theorem ev_opsS : mOps (.sl i :: os) r = (mPeek i r).bnd fun _ => mBnd (mOps os) fun ds => mBnd (mPeek i) fun d => mRet (d :: ds) := rfl
@[simp ↓] theorem ev_opsX : mOps (.ex m :: os) r = (mFz m r).bnd fun d => mBnd (mOps os) fun ds => mRet (d :: ds) := rfl
@[simp ↓] theorem ev_op {f : List Da → Option Vl} : mOp f os r = (mOps os r).bnd fun ds r => optE (f ds) r := by
  unfold mOp
  rw [ev_bnd]
  congr 1
  funext ds r
  exact ev_optA
@[simp ↓] theorem ev_all0 : mAll [] r = .ok [] r := rfl
@[simp ↓] theorem ev_all {ms : List (Mm Vl)} : mAll (m :: ms) r = (mFz m r).bnd fun d => mBnd (mAll ms) fun ds => mRet (d :: ds) := rfl
@[simp ↓] theorem ev_tup {ms : List (Mm Vl)} : mTup ms r = (mAll ms r).bnd fun ds => mRet (.val (.tuple ds)) := rfl
@[simp ↓] theorem ev_lst {ms : List (Mm Vl)} : mLst ms r = (mAll ms r).bnd fun ds => mRet (.own (.list ds)) := rfl
@[simp ↓] theorem ev_test : mTest m r = (mFz m r).bnd fun d r => optE (truth d) r := by
  unfold mTest
  rw [ev_bnd]
  congr 1
  funext ds r
  exact ev_optA
@[simp] theorem truth_b {b : Bool} : truth (.bool b) = some b := rfl
def ifB {α : Type} (a b : Mm α) (k : Bool) : Mm α := match k with
  | true => a
  | false => b
@[simp ↓] theorem if_t {a b : Mm α} : ifB a b true r = a r := rfl
@[simp ↓] theorem if_f {a b : Mm α} : ifB a b false r = b r := rfl
@[simp ↓] theorem ev_if {a b : Mm α} : mIf c a b r = (c r).bnd (ifB a b) := rfl
def andB (b : Mm Vl) (k : Bool) : Mm Vl := match k with
  | true => mBnd (mFz b) fun d => mRet (.val d)
  | false => mRet (.val (.bool false))
@[simp ↓] theorem and_t : andB m true r = (mFz m r).bnd fun d => mRet (.val d) := rfl
@[simp ↓] theorem and_f : andB m false r = .ok (.val (.bool false)) r := rfl
@[simp ↓] theorem ev_and : mAnd m1 m2 r = (mTest m1 r).bnd (andB m2) := rfl
def orB (b : Mm Vl) (k : Bool) : Mm Vl := match k with
  | true => mRet (.val (.bool true))
  | false => mBnd (mFz b) fun d => mRet (.val d)
@[simp ↓] theorem or_f : orB m false r = (mFz m r).bnd fun d => mRet (.val d) := rfl
@[simp ↓] theorem or_t : orB m true r = .ok (.val (.bool true)) r := rfl
@[simp ↓] theorem ev_or : mOr m1 m2 r = (mTest m1 r).bnd (orB m2) := rfl
@[simp ↓] theorem ev_not : mNot m r = (mTest m r).bnd fun k => mRet (.val (.bool (!k))) := rfl
@[simp ↓] theorem ev_notT : mNotT c r = (c r).bnd fun k => mRet (!k) := rfl
def andT (b : Mm Bool) (k : Bool) : Mm Bool := match k with
  | true => b
  | false => mRet false
@[simp ↓] theorem andT_t : andT c true r = c r := rfl
@[simp ↓] theorem andT_f : andT c false r = .ok false r := rfl
@[simp ↓] theorem ev_andT : mAndT c1 c2 r = (c1 r).bnd (andT c2) := by
  unfold mAndT; rw [ev_bnd]; congr 1
def orT (b : Mm Bool) (k : Bool) : Mm Bool := match k with
  | true => mRet true
  | false => b
@[simp ↓] theorem orT_f : orT c false r = c r := rfl
@[simp ↓] theorem orT_t : orT c true r = .ok true r := rfl
@[simp ↓] theorem ev_orT : mOrT c1 c2 r = (c1 r).bnd (orT c2) := by
  unfold mOrT; rw [ev_bnd]; congr 1
def sqF (b : Mm Fl) (f : Fl) : Mm Fl := match f with
  | .nx => b
  | .brk => mRet .brk
  | .cnt => mRet .cnt
  | .rt v => mRet (.rt v)
variable {s t : Mm Fl}
@[simp ↓] theorem sq_nx : sqF s .nx r = s r := rfl
@[simp ↓] theorem sq_brk : sqF s .brk r = .ok .brk r := rfl
@[simp ↓] theorem sq_cnt : sqF s .cnt r = .ok .cnt r := rfl
@[simp ↓] theorem sq_rt : sqF s (.rt v) r = .ok (.rt v) r := rfl
@[simp ↓] theorem ev_seq : mSeq s t r = (s r).bnd (sqF t) := by
  unfold mSeq; rw [ev_bnd]; congr 1
@[simp ↓] theorem ev_asg : mAsg i m r = (m r).bnd fun v => mBnd (mSet i v) fun _ => mRet .nx := rfl
@[simp ↓] theorem ev_rt : mRt m r = (m r).bnd fun v => mRet (.rt v) := rfl
@[simp ↓] theorem ev_drop : mDrop m r = (mFz m r).bnd fun _ => mRet .nx := rfl
@[simp ↓] theorem ev_tgn : mTg (.nm i) d r = mSet i (.val d) r := rfl
@[simp ↓] theorem ev_tgt {ts : List Tg} {ds : List Da} : mTg (.tp ts) (.tuple ds) r = mTgs ts ds r := rfl
@[simp ↓] theorem ev_tgl {ts : List Tg} {ds : List Da} : mTg (.tp ts) (.list ds) r = mTgs ts ds r := rfl
@[simp ↓] theorem ev_tgs0 : mTgs [] [] r = .ok () r := rfl
@[simp ↓] theorem ev_tgs {t : Tg} {ts : List Tg} {ds : List Da} : mTgs (t :: ts) (d :: ds) r = (mTg t d r).bnd fun _ => mTgs ts ds := rfl
@[simp ↓] theorem ev_asgT {t : Tg} : mAsgT t m r = (mFz m r).bnd fun d => mBnd (mTg t d) fun _ => mRet .nx := rfl
@[simp ↓] theorem ev_vls0 : mVls [] r = .ok [] r := rfl
@[simp ↓] theorem ev_vls {ms : List (Mm Vl)} : mVls (m :: ms) r = (m r).bnd fun v => mBnd (mVls ms) fun vs => mRet (v :: vs) := rfl
@[simp ↓] theorem ev_sets0 : mSets [] [] r = .ok () r := rfl
@[simp ↓] theorem ev_sets {is : List Nat} {vs : List Vl} : mSets (i :: is) (v :: vs) r = (mSet i v r).bnd fun _ => mSets is vs := rfl
@[simp ↓] theorem ev_par {is : List Nat} {ms : List (Mm Vl)} : mPar is ms r = (mVls ms r).bnd fun vs => mBnd (mSets is vs) fun _ => mRet .nx := rfl
def mdO (x : Option Vl) (j : Nat) (g : Da → Option (Da × Da)) (r : Rho) : Out Vl := match x with
  | some (.own d) => optE (g d) r |>.bnd fun p r => .ok (.val p.1) (r.set j (some (.own p.2)))
  | some (.lent d) => optE (g d) r |>.bnd fun p r => .ok (.val p.1) (r.set j (some (.lent p.2)))
  | _ => .stuck
@[simp] theorem md_own {g : Da → Option (Da × Da)} : mdO (some (.own d)) j g r = (optE (g d) r).bnd fun p r => .ok (.val p.1) (r.set j (some (.own p.2))) := rfl
@[simp] theorem md_lent {g : Da → Option (Da × Da)} : mdO (some (.lent d)) j g r = (optE (g d) r).bnd fun p r => .ok (.val p.1) (r.set j (some (.lent p.2))) := rfl
@[simp ↓] theorem ev_mod {g : Da → Option (Da × Da)} : mMod j g r = mdO (gt r j) j g r := by
  unfold mMod mdO
  cases gt r j with
  | none => rfl
  | some u =>
    cases u with
    | own d => dsimp only; cases g d <;> rfl
    | lent d => dsimp only; cases g d <;> rfl
    | _ => rfl
@[simp ↓] theorem ev_put {oi : Opd} : mPut j oi m r = (mFz m r).bnd fun d => mBnd (mPeek j) fun _ => mBnd (mOps [oi]) fun ds => mBnd (mMod j (putD ds d)) fun _ => mRet .nx := rfl
@[simp ↓] theorem ev_app : mApp j m r = (mPeek j r).bnd fun c => if isLst c then mBnd (mFz m) fun d => mMod j (appD d) else mStuck := rfl
@[simp ↓] theorem ev_meth {g : List Da → Da → Option (Da × Da)} : mMeth j os g r = (mPeek j r).bnd fun c => if isLst c then mBnd (mOps os) fun ds => mMod j (g ds) else mStuck := rfl
@[simp] theorem isLst_l {ds : List Da} : isLst (.list ds) = true := rfl
/-! calls -/
def clO (as : List (Bool × Opd)) (x : CRes) (r : Rho) : Out Vl := match x with
  | .ret v ls => endCall as v (clean v ls) ls r Out.ok
  | .exc e ls => endCall as e false ls r Out.exc
  | .stuck => .stuck
@[simp] theorem cl_ret {as : List (Bool × Opd)} {ls : List Da} : clO as (.ret v ls) r = endCall as v (clean v ls) ls r Out.ok := rfl
@[simp ↓] theorem ev_call {as : List (Bool × Opd)} : mCall F as r = if okArgs as then (mArgs as r).bnd fun vs r1 => clO as (F vs) r1 else .stuck := by
  unfold mCall
  cases okArgs as <;> rfl
@[simp ↓] theorem ev_args0 : mArgs [] r = .ok [] r := rfl
@[simp ↓] theorem ev_argsS {as : List (Bool × Opd)} : mArgs ((false, .sl i) :: as) r = (mPeek i r).bnd fun _ => mBnd (mArgs as) fun vs => mBnd (mPeek i) fun d => mRet (.val d :: vs) := rfl
def lnO (x : Option Vl) (vs : List Vl) (r : Rho) : Out (List Vl) := match x with
  | some (.own d) => .ok (.lent d :: vs) r
  | some (.lent d) => .ok (.lent d :: vs) r
  | _ => .stuck
@[simp] theorem ln_own {vs : List Vl} : lnO (some (.own d)) vs r = .ok (.lent d :: vs) r := rfl
@[simp] theorem ln_lent {vs : List Vl} : lnO (some (.lent d)) vs r = .ok (.lent d :: vs) r := rfl
@[simp ↓] theorem ev_argsL {as : List (Bool × Opd)} : mArgs ((true, .sl i) :: as) r = (mPeek i r).bnd fun _ => mBnd (mArgs as) fun vs r => lnO (gt r i) vs r := rfl
@[simp ↓] theorem ev_argsX {as : List (Bool × Opd)} : mArgs ((false, .ex m) :: as) r = (mFz m r).bnd fun d => mBnd (mArgs as) fun vs => mRet (.val d :: vs) := rfl
def lxV (as : List (Bool × Opd)) (v : Vl) : Mm (List Vl) := match v with
  | .own d => mBnd (mArgs as) fun vs => mRet (.lent d :: vs)
  | _ => mStuck
@[simp ↓] theorem lx_own {as : List (Bool × Opd)} : lxV as (.own d) r = (mArgs as r).bnd fun vs => mRet (.lent d :: vs) := rfl
@[simp ↓] theorem ev_argsT {as : List (Bool × Opd)} : mArgs ((true, .ex m) :: as) r = (m r).bnd (lxV as) := rfl
/-! a slot's def, called -/
def cvO (x : Option Vl) (tab : Str → Option (List Bool × Fn)) (os : List Opd) (r : Rho) : Out Vl := match x with
  | some (.val d) => (match fnOf d with
    | some y => (match tab y with
      | some (fl, F) => if fl.length == os.length then mCall F (sFlag fl os) r else .stuck
      | none => .stuck)
    | none => .stuck)
  | _ => .stuck
@[simp ↓] theorem ev_callV {tab : Str → Option (List Bool × Fn)} : mCallV i tab os r = cvO (gt r i) tab os r := rfl
theorem cv_fn {y : Str} {tab : Str → Option (List Bool × Fn)} {fl : List Bool} {F : Fn} (h : tab y = some (fl, F)) (hl : fl.length = os.length) : cvO (some (.val (fnD y))) tab os r = mCall F (sFlag fl os) r := by
  show (match tab y with
    | some (fl, F) => if fl.length == os.length then mCall F (sFlag fl os) r else .stuck
    | none => .stuck) = _
  rw [h]
  dsimp only
  rw [if_pos (by simpa using hl)]
@[simp] theorem sFlag_nil : sFlag [] os = [] := rfl
@[simp] theorem sFlag_cons {b : Bool} {bs : List Bool} : sFlag (b :: bs) (o :: os) = (b, o) :: sFlag bs os := rfl
@[simp ↓] theorem ev_get {m : Mm Vl} : mGet j o m r = (mPeek j r).bnd fun c => if isDc c then mBnd (mOps [o, .ex m]) fun ds => mBnd (mPeek j) fun c2 => mOpt (opGet (c2 :: ds)) else mStuck := rfl
@[simp] theorem isDc_d {ds : List (Da × Da)} : isDc (.dict ds) = keyed ds := rfl
@[simp] theorem keyed_nil : keyed [] = true := rfl
/-! chains of comparisons of ints -/
def chY (g : List Da → Option Vl) (b : Int) (es : List Da) (r : Rho) : Out Vl := match es with
  | [y] => optE (g [.int b, y]) r
  | _ => .stuck
@[simp] theorem chY_1 {g : List Da → Option Vl} {b : Int} {y : Da} : chY g b [y] r = optE (g [.int b, y]) r := rfl
def chX (f g : List Da → Option Vl) (oc : Opd) (ds : List Da) (r : Rho) : Out Vl := match ds with
  | [x, .int b] => match f [x, .int b] with
    | some (.val (.bool true)) => (mOps [oc] r).bnd (chY g b)
    | some (.val (.bool false)) => .ok (.val (.bool false)) r
    | _ => .stuck
  | _ => .stuck
@[simp ↓] theorem ev_chain {f g : List Da → Option Vl} {oa ob oc : Opd} : mChain f g oa ob oc r = (mOps [oa, ob] r).bnd (chX f g oc) := by
  unfold mChain
  rw [ev_bnd]
  congr 1
  funext ds r
  unfold chX
  split
  · rename_i x b
    rw [ev_bnd, ev_optA]
    try dsimp only
    cases f [x, .int b] with
    | none => rfl
    | some v =>
      cases v with
      | val d =>
        cases d with
        | bool k =>
          cases k with
          | true =>
            have e : (fun es : List Da => match es with
              | [z] => mOpt (g [.int b, z])
              | _ => mStuck) = chY g b := by
              funext es r
              unfold chY
              split
              · exact ev_optA
              · rfl
            exact congrArg ((mOps [oc] r).bnd) e
          | false => rfl
        | _ => rfl
      | _ => rfl
  · rename_i hne
    first
      | rfl
      | (split
         · exact absurd rfl (hne _ _)
         · rfl)
@[simp] theorem chX_lt {g : List Da → Option Vl} {oc : Opd} {a b : Int} : chX opLt g oc [.int a, .int b] r = if a < b then (mOps [oc] r).bnd (chY g b) else .ok (.val (.bool false)) r := by
  unfold chX opLt
  by_cases h : a < b
  · simp [h]
  · simp [h]
@[simp] theorem chX_le {g : List Da → Option Vl} {oc : Opd} {a b : Int} : chX opLe g oc [.int a, .int b] r = if a ≤ b then (mOps [oc] r).bnd (chY g b) else .ok (.val (.bool false)) r := by
  unfold chX opLe
  by_cases h : a ≤ b
  · simp [h]
  · simp [h]
def inB : Da → Mm Vl
  | .int i => mRet (.val (.int i))
  | _ => mStuck
@[simp] theorem inB_i {i : Int} : inB (.int i) r = .ok (.val (.int i)) r := rfl
@[simp ↓] theorem ev_mInt : mInt m r = (mFz m r).bnd inB := by
  unfold mInt
  rw [ev_bnd]
  congr 1
/-! chains of four -/
def chW (g h : List Da → Option Vl) (od : Opd) (j : Int) (es : List Da) (r : Rho) : Out Vl := match es with
  | [.int k] => chX g h od [.int j, .int k] r
  | _ => .stuck
@[simp] theorem chW_1 {g h : List Da → Option Vl} {od : Opd} {j k : Int} : chW g h od j [.int k] r = chX g h od [.int j, .int k] r := rfl
theorem ev_ch2 {g h : List Da → Option Vl} {oc od : Opd} {j : Int} : mCh2 g h j oc od r = (mOps [oc] r).bnd (chW g h od j) := by
  unfold mCh2
  rw [ev_bnd]
  congr 1
  funext es r
  match es with
  | [.int k] =>
    show mBnd (mOpt (g [.int j, .int k])) _ r = chX g h od [.int j, .int k] r
    unfold chX
    rw [ev_bnd, ev_optA]
    dsimp only
    cases g [.int j, .int k] with
    | none => rfl
    | some v =>
      cases v with
      | val d =>
        cases d with
        | bool q =>
          cases q with
          | true =>
            have e : (fun es : List Da => match es with
              | [z] => mOpt (h [.int k, z])
              | _ => mStuck) = chY h k := by
              funext es r
              unfold chY
              split
              · exact ev_optA
              · rfl
            exact congrArg ((mOps [od] r).bnd) e
          | false => rfl
        | _ => rfl
      | _ => rfl
  | [] => rfl
  | [.none] => rfl
  | [.bool _] => rfl
  | [.str _] => rfl
  | [.list _] => rfl
  | [.tuple _] => rfl
  | [.dict _] => rfl
  | d1 :: _ :: _ => cases d1 <;> rfl
def chX3 (f g h : List Da → Option Vl) (oc od : Opd) (ds : List Da) (r : Rho) : Out Vl := match ds with
  | [x, .int b] => match f [x, .int b] with
    | some (.val (.bool true)) => mCh2 g h b oc od r
    | some (.val (.bool false)) => .ok (.val (.bool false)) r
    | _ => .stuck
  | _ => .stuck
@[simp ↓] theorem ev_chain3 {f g h : List Da → Option Vl} {oa ob oc od : Opd} : mChain3 f g h oa ob oc od r = (mOps [oa, ob] r).bnd (chX3 f g h oc od) := by
  unfold mChain3
  rw [ev_bnd]
  congr 1
  funext ds r
  unfold chX3
  split
  · rename_i x b
    rw [ev_bnd, ev_optA]
    try dsimp only
    cases f [x, .int b] with
    | none => rfl
    | some v =>
      cases v with
      | val d =>
        cases d with
        | bool k => cases k <;> rfl
        | _ => rfl
      | _ => rfl
  · rename_i hne
    first
      | rfl
      | (split
         · exact absurd rfl (hne _ _)
         · rfl)
@[simp] theorem chX3_lt {g h : List Da → Option Vl} {oc od : Opd} {a b : Int} : chX3 opLt g h oc od [.int a, .int b] r = if a < b then (mOps [oc] r).bnd (chW g h od b) else .ok (.val (.bool false)) r := by
  unfold chX3 opLt
  by_cases h : a < b
  · simp [h, ev_ch2]
  · simp [h]
@[simp] theorem chX3_le {g h : List Da → Option Vl} {oc od : Opd} {a b : Int} : chX3 opLe g h oc od [.int a, .int b] r = if a ≤ b then (mOps [oc] r).bnd (chW g h od b) else .ok (.val (.bool false)) r := by
  unfold chX3 opLe
  by_cases h : a ≤ b
  · simp [h, ev_ch2]
  · simp [h]
end
/-! operations on ints -/
section
variable {a b : Int} {n : Nat} {s t : Str} {k : Bool} {d e : Da} {ds es : List Da} {r : Rho}
@[simp] theorem op_add_i : opAdd [.int a, .int b] = some (.val (.int (a + b))) := rfl
@[simp] theorem op_sub_i : opSub [.int a, .int b] = some (.val (.int (a - b))) := rfl
@[simp] theorem op_neg_i : opNeg [.int a] = some (.val (.int (-a))) := rfl
@[simp] theorem op_lt_i : opLt [.int a, .int b] = some (.val (.bool (decide (a < b)))) := rfl
@[simp] theorem op_le_i : opLe [.int a, .int b] = some (.val (.bool (decide (a ≤ b)))) := rfl
@[simp] theorem op_gt_i : opGt [.int a, .int b] = some (.val (.bool (decide (b < a)))) := rfl
@[simp] theorem op_ge_i : opGe [.int a, .int b] = some (.val (.bool (decide (b ≤ a)))) := rfl
@[simp] theorem op_len_l : opLen [.list ds] = some (.val (.int ds.length)) := rfl
@[simp] theorem op_len_t : opLen [.tuple ds] = some (.val (.int ds.length)) := rfl
@[simp] theorem op_int_i : opInt [.int a] = some (.val (.int a)) := rfl
@[simp] theorem op_int_b : opInt [.bool k] = some (.val (.int (if k then 1 else 0))) := rfl
@[simp] theorem op_abs_i : opAbs [.int a] = some (.val (.int (a.natAbs : Int))) := rfl
@[simp] theorem op_max_i : opMax [.int a, .int b] = some (.val (.int (max a b))) := rfl
@[simp] theorem op_min_i : opMin [.int a, .int b] = some (.val (.int (min a b))) := rfl
theorem op_mul_i (h : mulOk a b = true) : opMul [.int a, .int b] = some (.val (.int (a * b))) := if_pos h
theorem op_div_i (h : divOk b = true) : opDiv [.int a, .int b] = some (.val (.int (a.fdiv b))) := if_pos h
theorem op_mod_i (h : ¬ b = 0) : opMod [.int a, .int b] = some (.val (.int (a.fmod b))) := if_neg h
theorem op_pow_i (h : powOk a b = true) : opPow [.int a, .int b] = some (.val (.int (a ^ b.toNat))) := if_pos h
theorem mulOk_l (h : a.natAbs < 18446744073709551616) : mulOk a b = true := by
  unfold mulOk; rw [decide_eq_true (show a.natAbs < 2 ^ 64 from h)]; rfl
theorem mulOk_r (h : b.natAbs < 18446744073709551616) : mulOk a b = true := by
  unfold mulOk; rw [decide_eq_true (show b.natAbs < 2 ^ 64 from h), Bool.or_true]; rfl
theorem mulOk_n (ha : a.natAbs < 2 ^ 4000) (hb : b.natAbs < 2 ^ 4000) : mulOk a b = true := by
  have e : 2 ^ 4000 ≤ bigN := Nat.pow_le_pow_right (by decide) (by decide)
  unfold mulOk
  rw [decide_eq_true (Nat.lt_of_lt_of_le ha e), decide_eq_true (Nat.lt_of_lt_of_le hb e)]
  simp
@[simp] theorem mulOk_lit (h : n < 18446744073709551616) : mulOk (OfNat.ofNat n) b = true := mulOk_l h
@[simp] theorem mulOk_lit2 (h : n < 18446744073709551616) : mulOk b (OfNat.ofNat n) = true := mulOk_r h
theorem divOk_i (h : b ≠ 0) (h2 : b.natAbs < 2 ^ 9000) : divOk b = true := by
  unfold divOk; rw [decide_eq_true h, decide_eq_true h2]; rfl
@[simp] theorem item_l {i : Int} : opItem [.list ds, .int i] = (itemD ds i).map .val := rfl
@[simp] theorem item_t {i : Int} : opItem [.tuple ds, .int i] = (itemD ds i).map .val := rfl
@[simp] theorem isi_int : opIsi "int" [.int a] = some (.val (.bool true)) := rfl
@[simp] theorem isi_bool_i : opIsi "bool" [.int a] = some (.val (.bool false)) := rfl
@[simp] theorem rev_l : opRev [.list ds] = some (.own (.list ds.reverse)) := rfl
theorem op_mod_p (h : 0 < b) : opMod [.int a, .int b] = some (.val (.int (a % b))) := by
  rw [op_mod_i (by omega), Int.fmod_eq_emod_of_nonneg _ (by omega)]
theorem op_div_p (h : 0 < b) (h2 : b < 1809251394333065553493296640760748560207343510400633813116524750123642650624) : opDiv [.int a, .int b] = some (.val (.int (a / b))) := by
  rw [op_div_i (divOk_i (by omega) ?_), Int.fdiv_eq_ediv_of_nonneg _ (by omega)]
  have e : (1809251394333065553493296640760748560207343510400633813116524750123642650624 : Nat) ≤ 2 ^ 9000 := by
    have : (2 : Nat) ^ 250 ≤ 2 ^ 9000 := Nat.pow_le_pow_right (by decide) (by decide)
    exact Nat.le_trans (by decide) this
  omega
@[simp] theorem op_eq_i : opEq [.int a, .int b] = some (.val (.bool (decide (a = b)))) := by
  show (if SeqAt.shaped (.int a) && SeqAt.shaped (.int b) then some (Vl.val (.bool (PyData.eqv (.int a) (.int b)))) else none) = _
  have e1 : SeqAt.shaped (.int a) = true := rfl
  have e2 : SeqAt.shaped (.int b) = true := rfl
  have e3 : PyData.eqv (.int a) (.int b) = decide (a = b) := by unfold PyData.eqv; rfl
  rw [e1, e2, e3]
  rfl
@[simp] theorem op_ne_i : opNe [.int a, .int b] = some (.val (.bool (!decide (a = b)))) := by
  show (if SeqAt.shaped (.int a) && SeqAt.shaped (.int b) then some (Vl.val (.bool (!PyData.eqv (.int a) (.int b)))) else none) = _
  have e1 : SeqAt.shaped (.int a) = true := rfl
  have e2 : SeqAt.shaped (.int b) = true := rfl
  have e3 : PyData.eqv (.int a) (.int b) = decide (a = b) := by unfold PyData.eqv; rfl
  rw [e1, e2, e3]
  rfl
@[simp] theorem op_eq_s : opEq [.str s, .str t] = some (.val (.bool (decide (s = t)))) := rfl
@[simp] theorem op_ne_s : opNe [.str s, .str t] = some (.val (.bool (!decide (s = t)))) := rfl
theorem op_repr_i (h : reprOk d = true) : opRepr [d] = some (.val (.str d.shown)) := if_pos h
end
/-! what may be shown -/
mutual
def ai (B : Nat) : Da → Prop
  | .int i => i.natAbs < 2 ^ B
  | .none => True
  | .bool _ => True
  | .str s => rok (.str s) = true
  | .list ds => aiA B ds
  | .tuple ds => aiA B ds
  | .dict _ => False
def aiA (B : Nat) : List Da → Prop
  | [] => True
  | d :: ds => ai B d ∧ aiA B ds
end
mutual
def lv : Da → Nat
  | .int _ => 1
  | .none => 0
  | .bool _ => 0
  | .str s => s.cps.size
  | .list ds => lvA ds
  | .tuple ds => lvA ds
  | .dict _ => 0
def lvA : List Da → Nat
  | [] => 0
  | d :: ds => lv d + 1 + lvA ds
end
mutual
theorem ai_rok {B : Nat} (hB : B ≤ 1000) : ∀ d : Da, ai B d → rok d = true
  | .int i, h => by
    unfold rok
    exact decide_eq_true (Nat.lt_of_lt_of_le h (Nat.pow_le_pow_right (by decide) hB))
  | .none, _ => rfl
  | .bool _, _ => rfl
  | .str _, h => h
  | .list ds, h => by unfold rok; exact aiA_rok hB ds h
  | .tuple ds, h => by unfold rok; exact aiA_rok hB ds h
  | .dict _, h => h.elim
theorem aiA_rok {B : Nat} (hB : B ≤ 1000) : ∀ ds : List Da, aiA B ds → rokAll ds = true
  | [], _ => rfl
  | d :: ds, h => by
    unfold rokAll
    rw [ai_rok hB d h.1, aiA_rok hB ds h.2]; rfl
end
mutual
theorem ai_w {B : Nat} : ∀ d : Da, ai B d → d.bulk ≤ lv d
  | .int i, h => Nat.zero_le _
  | .none, _ => Nat.zero_le _
  | .bool _, _ => Nat.zero_le _
  | .str _, h => Nat.le_refl _
  | .list ds, h => by unfold PyData.bulk lv; exact aiA_w ds h
  | .tuple ds, h => by unfold PyData.bulk lv; exact aiA_w ds h
  | .dict _, h => h.elim
theorem aiA_w {B : Nat} : ∀ ds : List Da, aiA B ds → PyData.bulkAll ds ≤ lvA ds
  | [], _ => by unfold PyData.bulkAll; exact Nat.zero_le _
  | d :: ds, h => by
    have h1 := ai_w d h.1
    have h2 := aiA_w ds h.2
    unfold PyData.bulkAll lvA
    omega
end
theorem reprOk_w {d : Da} (B : Nat) (h : ai B d) (hB : B ≤ 1000) (hl : lv d ≤ 16000) (hd : d.depth ≤ 60) : reprOk d = true := by
  unfold reprOk
  rw [ai_rok hB d h, decide_eq_true (Nat.le_trans (ai_w d h) hl), decide_eq_true hd, Bool.or_eq_true]; exact .inr rfl
theorem reprOk_of {d : Da} (B : Nat) (h : ai B d) (hB : B ≤ 1000) (hl : lv d * (B + 1) ≤ 12000) (hd : d.depth ≤ 60) : reprOk d = true :=
  reprOk_w B h hB (by have h2 : lv d ≤ lv d * (B + 1) := Nat.le_mul_of_pos_right (lv d) (by omega); omega) hd
theorem seq_nx {s t : Mm Fl} {r r1 : Rho} (h : s r = .ok .nx r1) : mSeq s t r = t r1 := by rw [ev_seq, h, bnd_ok, sq_nx]
theorem seq_rt {s t : Mm Fl} {r r1 : Rho} {v : Vl} (h : s r = .ok (.rt v) r1) : mSeq s t r = .ok (.rt v) r1 := by rw [ev_seq, h, bnd_ok, sq_rt]
theorem run_ok {n : Nat} {fl : List Bool} {b : Mm Fl} {vs : List Vl} {v : Vl} {r' : Rho} {ls : List Da} (h : b (vs.map some ++ List.replicate (n - vs.length) none) = .ok (.rt v) r') (hl : lentsOf fl r' = some ls) : runF n fl b vs = .ret v ls := by
  unfold runF; rw [h]; dsimp only; rw [hl]
/-! loops -/
theorem while_go {c : Mm Bool} {b : Mm Fl} {r r1 r2 : Rho} (h : c r = .ok true r1) (h2 : b r1 = .ok .nx r2) : mWhile c b r = mWhile c b r2 := by
  show iter _ r = iter _ r2
  rw [iter_eq (whStep c b) r]
  unfold whStep
  rw [h]
  dsimp only
  rw [h2]
theorem while_end {c : Mm Bool} {b : Mm Fl} {r r1 : Rho} (h : c r = .ok false r1) : mWhile c b r = .ok .nx r1 := by
  show iter _ r = _
  rw [iter_eq]
  unfold whStep
  rw [h]
/-- over things that no slot holds alone -/
theorem for_ev {t : Tg} {f : List Da → Option (List Da)} {os : List Opd} {b : Mm Fl} {r r1 : Rho} {ds items : List Da} (h : mOps os r = .ok ds r1) (hf : f ds = some items) (hl : locks r1 os = []) : mFor t f os b r = forL t b items r1 := by
  show mOver f os (forL t b) r = _
  unfold mOver
  rw [h]
  dsimp only
  rw [hf]
  dsimp only
  rw [hl]
  show (forL t b items r1).mapR (fun r2 => r2) = _
  cases forL t b items r1 <;> rfl
theorem forL_nil {t : Tg} {b : Mm Fl} {r : Rho} : forL t b [] r = .ok .nx r := rfl
theorem forL_go {t : Tg} {b : Mm Fl} {d : Da} {ds : List Da} {r r1 r2 : Rho} (h : mTg t d r = .ok () r1) (h2 : b r1 = .ok .nx r2) : forL t b (d :: ds) r = forL t b ds r2 := by
  have e : forL t b (d :: ds) = mBnd (mTg t d) fun _ => mBnd b fun f => match f with
    | .nx => forL t b ds
    | .cnt => forL t b ds
    | .brk => mRet .nx
    | .rt v => mRet (.rt v) := rfl
  rw [e, ev_bnd, h, bnd_ok, ev_bnd, h2, bnd_ok]
theorem powmod (a m : Int) : ∀ n : Nat, (a % m) ^ n % m = a ^ n % m
  | 0 => by simp
  | n + 1 => by
    rw [Int.pow_succ, Int.pow_succ, Int.mul_emod, powmod a m n, Int.emod_emod, ← Int.mul_emod]
end Mi

set_option maxHeartbeats 1000000
namespace Mi
open PySem PySem.Spec PyProof.Rows L2

/-! ## what holds behind a run: one goal, stepped through -/
abbrev nX {α : Type} : Ex → α → Prop := fun _ _ => False
/-- (inductive, so that nobody reckons it out unasked) -/
inductive Wp {α : Type} (o : Out α) (Q : α → Rho → Prop) (E : Ex → Rho → Prop) : Prop where
  | ok (a : α) (r : Rho) : o = .ok a r → Q a r → Wp o Q E
  | exc (e : Ex) (r : Rho) : o = .exc e r → E e r → Wp o Q E
inductive Wc (c : CRes) (Q : Vl → List Da → Prop) (E : Ex → List Da → Prop) : Prop where
  | ret (v : Vl) (ls : List Da) : c = .ret v ls → Q v ls → Wc c Q E
  | exc (e : Ex) (ls : List Da) : c = .exc e ls → E e ls → Wc c Q E
section
variable {α β : Type} {r r' : Rho} {a : α} {d : Da} {v : Vl} {i j : Nat} {m m1 m2 : Mm Vl} {c c1 c2 : Mm Bool} {o : Out α} {Q Q' : α → Rho → Prop} {E E' : Ex → Rho → Prop}
@[simp] theorem wp_ok : Wp (Out.ok a r) Q E = Q a r := propext ⟨fun h => (by cases h with | ok b r' e q => (cases e; exact q) | exc x r' e q => cases e), fun h => .ok a r rfl h⟩
@[simp] theorem wp_exc {e : Ex} : Wp (Out.exc e r : Out α) Q E = E e r := propext ⟨fun h => (by cases h with | ok b r' e q => cases e | exc x r' e q => (cases e; exact q)), fun h => .exc e r rfl h⟩
@[simp] theorem wp_stuck : Wp (Out.stuck : Out α) Q E = False := propext ⟨fun h => (by cases h with | ok b r' e q => cases e | exc x r' e q => cases e), fun h => h.elim⟩
@[simp] theorem wp_bnd {f : α → Mm β} {Q : β → Rho → Prop} : Wp (o.bnd f) Q E = Wp o (fun a r => Wp (f a r) Q E) E := by cases o <;> simp
@[simp] theorem wp_optE {x : Option α} : Wp (optE x r) Q E = ∃ a, x = some a ∧ Q a r := by
  cases x with
  | none => simp [optE]
  | some a => simp [optE]
theorem Wp.mono (h : Wp o Q E) (f : ∀ a r, Q a r → Q' a r) (g : ∀ e r, E e r → E' e r) : Wp o Q' E' := by
  cases h with
  | ok a r e h => exact .ok a r e (f a r h)
  | exc x r e h => exact .exc x r e (g x r h)
theorem wp_eq (h : Wp o Q nX) : ∃ a r, o = .ok a r ∧ Q a r := by
  cases h with
  | ok a r e h => exact ⟨a, r, e, h⟩
  | exc x r e h => exact h.elim
theorem wp_of {a : α} {r : Rho} (h : o = .ok a r) (q : Q a r) : Wp o Q E := .ok a r h q
@[simp] theorem keyD_l {i : Int} : keyD (.inl i) = .int i := rfl
@[simp] theorem keyD_r {z : Str} : keyD (.inr z) = .str z := rfl
@[simp ↓] theorem ev_dct1 {k : Key} : mDct1 k d r = .ok (.own (.dict [(keyD k, d)])) r := rfl
@[simp ↓] theorem ev_dct0 : mDct0 r = .ok (.own (.dict [])) r := rfl
@[simp ↓] theorem ev_raise {x : Str} {r : Rho} : mRaise x d r = .exc ⟨x, d⟩ r := rfl
/-- the outcome behind a clause -/
def tryE (ex : ExT) (hs : List Hd) (Q : Fl → Rho → Prop) (E : Ex → Rho → Prop) (e : Ex) (r : Rho) : Prop := match pickH ex e.cls hs with
  | some h => (match h.out e r.length with
    | some d => Q (.rt (.val d)) r
    | none => False)
  | none => E e r
@[simp] theorem wp_try {ex : ExT} {hs : List Hd} {b : Mm Fl} {r : Rho} {Q : Fl → Rho → Prop} {E : Ex → Rho → Prop} : Wp (mTryC ex hs b r) Q E = Wp (b r) Q (tryE ex hs Q E) := by
  unfold mTryC
  cases b r with
  | ok f r' => simp
  | stuck => simp
  | exc e r' =>
    simp only [wp_exc, tryE]
    cases pickH ex e.cls hs with
    | none => simp
    | some h => cases ho : h.out e r'.length <;> simp [ho]
/-- the outcome behind a word -/
def wordE (ex : ExT) (w : Wd) (Q : Vl → Rho → Prop) (e : Ex) (r : Rho) : Prop := match pickH ex e.cls w.hs with
  | some h => (match h.out e w.n with
    | some d => Q (.val d) r
    | none => False)
  | none => False
@[simp] theorem wp_word {ex : ExT} {w : Wd} {m : Mm Vl} {r : Rho} {Q : Vl → Rho → Prop} {E : Ex → Rho → Prop} : Wp (mWord ex w m r) Q E = Wp (mFz m r) (fun d r => Q (.val (wbV w d)) r) (wordE ex w Q) := by
  unfold mWord
  cases mFz m r with
  | ok d r' => simp only [wp_ok, wbV]; cases w.b <;> simp
  | stuck => simp
  | exc e r' =>
    simp only [wp_exc, wordE]
    cases pickH ex e.cls w.hs with
    | none => simp
    | some h => cases ho : h.out e w.n <;> simp [ho]
/-- a word within a word -/
def wordPE (ex : ExT) (w : Wd) (Q : Vl → Rho → Prop) (E : Ex → Rho → Prop) (e : Ex) (r : Rho) : Prop := match pickH ex e.cls w.hs with
  | some h => (match h.out e w.n with
    | some d => Q (.val d) r
    | none => False)
  | none => E e r
@[simp] theorem wp_wordP {ex : ExT} {w : Wd} {m : Mm Vl} {r : Rho} {Q : Vl → Rho → Prop} {E : Ex → Rho → Prop} : Wp (mWordP ex w m r) Q E = Wp (mFz m r) (fun d r => Q (.val (wbV w d)) r) (wordPE ex w Q E) := by
  unfold mWordP
  cases mFz m r with
  | ok d r' => simp only [wp_ok, wbV]; cases w.b <;> simp
  | stuck => simp
  | exc e r' =>
    simp only [wp_exc, wordPE]
    cases pickH ex e.cls w.hs with
    | none => simp
    | some h => cases ho : h.out e w.n <;> simp [ho]
@[simp] theorem wp_raiseF {x : Str} {m : Mm Vl} {r : Rho} {Q : Fl → Rho → Prop} {E : Ex → Rho → Prop} : Wp (mRaiseF x m r) Q E = Wp (mFz m r) (fun d r => E ⟨x, d⟩ r) E := by
  unfold mRaiseF mBnd
  cases mFz m r <;> simp [mRaise]
/-! branches -/
@[simp] theorem wp_ifB {A B : Mm β} {k : Bool} {Q : β → Rho → Prop} : Wp (ifB A B k r) Q E = if k = true then Wp (A r) Q E else Wp (B r) Q E := by cases k <;> simp
@[simp] theorem wp_andB {k : Bool} {Q : Vl → Rho → Prop} : Wp (andB m k r) Q E = if k = true then Wp (m r) (fun v r => Wp (fzV v r) (fun d r => Q (.val d) r) E) E else Q (.val (.bool false)) r := by
  cases k with
  | true => simp
  | false => simp
@[simp] theorem wp_orB {k : Bool} {Q : Vl → Rho → Prop} : Wp (orB m k r) Q E = if k = true then Q (.val (.bool true)) r else Wp (m r) (fun v r => Wp (fzV v r) (fun d r => Q (.val d) r) E) E := by
  cases k with
  | true => simp
  | false => simp
@[simp] theorem wp_andT {k : Bool} {Q : Bool → Rho → Prop} : Wp (andT c k r) Q E = if k = true then Wp (c r) Q E else Q false r := by
  cases k with
  | true => simp
  | false => simp
@[simp] theorem wp_orT {k : Bool} {Q : Bool → Rho → Prop} : Wp (orT c k r) Q E = if k = true then Q true r else Wp (c r) Q E := by
  cases k with
  | true => simp
  | false => simp
/-! calls -/
theorem Wc.mono {x : CRes} {Q Q' : Vl → List Da → Prop} {E E' : Ex → List Da → Prop} (h : Wc x Q E) (f : ∀ v ls, Q v ls → Q' v ls) (g : ∀ e ls, E e ls → E' e ls) : Wc x Q' E' := by
  cases h with
  | ret v ls e h => exact .ret v ls e (f v ls h)
  | exc x ls e h => exact .exc x ls e (g x ls h)
@[simp] theorem wc_ret {v : Vl} {ls : List Da} {Q : Vl → List Da → Prop} {E : Ex → List Da → Prop} : Wc (.ret v ls) Q E = Q v ls := propext ⟨fun h => (by cases h with | ret b r' e q => (cases e; exact q) | exc x r' e q => cases e), fun h => .ret v ls rfl h⟩
@[simp] theorem wc_exc {x : Ex} {ls : List Da} {Q : Vl → List Da → Prop} {E : Ex → List Da → Prop} : Wc (.exc x ls) Q E = E x ls := propext ⟨fun h => (by cases h with | ret b r' e q => cases e | exc x r' e q => (cases e; exact q)), fun h => .exc x ls rfl h⟩
@[simp] theorem wc_stuck {Q : Vl → List Da → Prop} {E : Ex → List Da → Prop} : Wc .stuck Q E = False := propext ⟨fun h => (by cases h with | ret b r' e q => cases e | exc x r' e q => cases e), fun h => h.elim⟩
theorem wc_eq {x : CRes} {v : Vl} {ls : List Da} (h : Wc x (fun u us => u = v ∧ us = ls) nX) : x = .ret v ls := by
  cases h with
  | ret u us e h => obtain ⟨rfl, rfl⟩ := h; exact e
  | exc x us e h => exact h.elim
theorem wc_is {x : CRes} {Q : Vl → List Da → Prop} (h : Wc x Q nX) : ∃ v ls, x = .ret v ls ∧ Q v ls := by
  cases h with
  | ret u us e h => exact ⟨u, us, e, h⟩
  | exc x us e h => exact h.elim
theorem wp_cl {as : List (Bool × Opd)} {x : CRes} {P : Vl → List Da → Prop} {Q : Vl → Rho → Prop} (h : Wc x P nX) (k : ∀ v ls, P v ls → Wp (endCall as v (clean v ls) ls r Out.ok) Q E) : Wp (clO as x r) Q E := by
  obtain ⟨v, ls, rfl, q⟩ := wc_is h
  exact k v ls q
theorem wp_clx {as : List (Bool × Opd)} {x : CRes} {P : Vl → List Da → Prop} {PE : Ex → List Da → Prop} {Q : Vl → Rho → Prop} (h : Wc x P PE) (k : ∀ v ls, P v ls → Wp (endCall as v (clean v ls) ls r Out.ok) Q E)
    (ke : ∀ e ls, PE e ls → Wp (endCall as e false ls r Out.exc) Q E) : Wp (clO as x r) Q E := by
  cases h with
  | ret v ls e h => subst e; exact k v ls h
  | exc x ls e h => subst e; exact ke x ls h
@[simp] theorem cl_exc {as : List (Bool × Opd)} {e : Ex} {ls : List Da} : clO as (.exc e ls) r = endCall as e false ls r Out.exc := rfl
theorem wc_eqx {x : CRes} {e : Ex} {ls : List Da} (h : Wc x (fun _ _ => False) (fun u us => u = e ∧ us = ls)) : x = .exc e ls := by
  cases h with
  | ret u us e h => exact h.elim
  | exc y us e h => obtain ⟨rfl, rfl⟩ := h; exact e
def retQ (fl : List Bool) (Q : Vl → List Da → Prop) : Fl → Rho → Prop
  | .nx, r => ∃ ls, lentsOf fl r = some ls ∧ Q (.val .none) ls
  | .rt v, r => ∃ ls, lentsOf fl r = some ls ∧ Q v ls
  | _, _ => False
@[simp] theorem retQ_nx {fl : List Bool} {Q : Vl → List Da → Prop} : retQ fl Q .nx r = ∃ ls, lentsOf fl r = some ls ∧ Q (.val .none) ls := rfl
@[simp] theorem retQ_rt {fl : List Bool} {Q : Vl → List Da → Prop} : retQ fl Q (.rt v) r = ∃ ls, lentsOf fl r = some ls ∧ Q v ls := rfl
theorem wc_run {n : Nat} {fl : List Bool} {b : Mm Fl} {vs : List Vl} {Q : Vl → List Da → Prop} {E : Ex → List Da → Prop}
    (h : Wp (b (vs.map some ++ List.replicate (n - vs.length) none)) (retQ fl Q) (fun e r => ∃ ls, lentsOf fl r = some ls ∧ E e ls)) : Wc (runF n fl b vs) Q E := by
  unfold runF
  cases h with
  | exc x r e h =>
    rw [e]
    obtain ⟨ls, h1, h2⟩ := h
    dsimp only
    rw [h1]
    exact .exc x ls rfl h2
  | ok f r e h =>
    rw [e]
    cases f with
    | nx => obtain ⟨ls, h1, h2⟩ := h; dsimp only; rw [h1]; exact .ret _ ls rfl h2
    | rt v => obtain ⟨ls, h1, h2⟩ := h; dsimp only; rw [h1]; exact .ret _ ls rfl h2
    | brk => exact h.elim
    | cnt => exact h.elim
/-- a def's body, from its frame -/
theorem wc_fn {n : Nat} {fl : List Bool} {b : Mm Fl} {vs : List Vl} {Q : Vl → List Da → Prop} {E : Ex → List Da → Prop} (ho : okFl fl vs = true)
    (h : Wp (b (vs.map some ++ List.replicate (n - vs.length) none)) (retQ fl Q) (fun e r => ∃ ls, lentsOf fl r = some ls ∧ E e ls)) : Wc (if okFl fl vs then runF n fl b vs else .stuck) Q E := by
  rw [ho]; exact wc_run h
theorem wc_fn0 {n : Nat} {fl : List Bool} {b : Mm Fl} {vs : List Vl} {Q : Vl → List Da → Prop} (ho : okFl fl vs = true)
    (h : Wp (b (vs.map some ++ List.replicate (n - vs.length) none)) (retQ fl Q) nX) : Wc (if okFl fl vs then runF n fl b vs else .stuck) Q nX :=
  wc_fn ho (h.mono (fun _ _ q => q) fun _ _ q => q.elim)
/-! one statement after another -/
def sqQ (t : Mm Fl) (Q : Fl → Rho → Prop) (E : Ex → Rho → Prop) : Fl → Rho → Prop
  | .nx, r => Wp (t r) Q E
  | .brk, r => Q .brk r
  | .cnt, r => Q .cnt r
  | .rt v, r => Q (.rt v) r
section
variable {Q : Fl → Rho → Prop} {t : Mm Fl}
@[simp] theorem sqQ_nx : sqQ t Q E .nx r = Wp (t r) Q E := rfl
@[simp] theorem sqQ_brk : sqQ t Q E .brk r = Q .brk r := rfl
@[simp] theorem sqQ_cnt : sqQ t Q E .cnt r = Q .cnt r := rfl
@[simp] theorem sqQ_rt : sqQ t Q E (.rt v) r = Q (.rt v) r := rfl
theorem wp_seqG {s : Mm Fl} (h : ∀ T, T = t → Wp (s r) (sqQ T Q E) E) : Wp (mSeq s t r) Q E := by
  have h' := h t rfl
  rw [ev_seq, wp_bnd]
  refine h'.mono (fun f r q => ?_) fun _ _ q => q
  cases f with
  | nx => exact q
  | brk => simpa using q
  | cnt => simpa using q
  | rt v => simpa using q
end
/-! loops -/
def lpQ (J : Rho → Prop) (Q : Fl → Rho → Prop) : Fl → Rho → Prop
  | .nx, r => J r
  | .cnt, r => J r
  | .brk, r => Q .nx r
  | .rt v, r => Q (.rt v) r
section
variable {J : Rho → Prop} {Q : Fl → Rho → Prop}
@[simp] theorem lpQ_nx : lpQ J Q .nx r = J r := rfl
@[simp] theorem lpQ_cnt : lpQ J Q .cnt r = J r := rfl
@[simp] theorem lpQ_brk : lpQ J Q .brk r = Q .nx r := rfl
@[simp] theorem lpQ_rt : lpQ J Q (.rt v) r = Q (.rt v) r := rfl
theorem wp_while {b : Mm Fl} (I : Nat → Rho → Prop) {n : Nat} (h0 : I n r)
    (hs : ∀ n r, I n r → Wp (c r) (fun k r1 => if k = true then Wp (b r1) (lpQ (fun r2 => ∃ m, m < n ∧ I m r2) Q) E else Q .nx r1) E) : Wp (mWhile c b r) Q E := by
  induction n using Nat.strongRecOn generalizing r with
  | ind n ih =>
    have h := hs n r h0
    show Wp (iter (whStep c b) r) Q E
    rw [iter_eq]
    unfold whStep
    cases h with
    | exc x r1 e1 h => rw [e1]; exact .exc x r1 rfl h
    | ok k r1 e1 h =>
      rw [e1]
      cases k with
      | false => rw [if_neg (by decide)] at h; exact .ok _ _ rfl h
      | true =>
        rw [if_pos rfl] at h
        dsimp only
        cases h with
        | exc x r2 e2 h => rw [e2]; exact .exc x r2 rfl h
        | ok f r2 e2 h =>
          rw [e2]
          cases f with
          | nx => obtain ⟨m, hm, hi⟩ := h; exact ih m hm hi
          | cnt => obtain ⟨m, hm, hi⟩ := h; exact ih m hm hi
          | brk => exact .ok _ _ rfl h
          | rt v => exact .ok _ _ rfl h
theorem forL_wp {t : Tg} {b : Mm Fl} {ds : List Da} : Wp (forL t b (d :: ds) r) Q E = Wp (mTg t d r) (fun _ r1 => Wp (b r1) (lpQ (fun r2 => Wp (forL t b ds r2) Q E) Q) E) E := by
  have e : forL t b (d :: ds) = mBnd (mTg t d) fun _ => mBnd b fun f => match f with
    | .nx => forL t b ds
    | .cnt => forL t b ds
    | .brk => mRet .nx
    | .rt v => mRet (.rt v) := rfl
  rw [e, ev_bnd, wp_bnd]
  congr 1
  funext _ r1
  rw [ev_bnd, wp_bnd]
  congr 1
  funext f r2
  cases f <;> simp
theorem forL_wp0 {t : Tg} {b : Mm Fl} : Wp (forL t b [] r) Q E = Q .nx r := by
  show Wp (Out.ok Fl.nx r) Q E = _
  rw [wp_ok]
theorem wp_for {t : Tg} {b : Mm Fl} {items : List Da} (I : Nat → Rho → Prop) (h0 : I 0 r)
    (hs : ∀ k r, ∀ hk : k < items.length, I k r → Wp (mTg t items[k] r) (fun _ r1 => Wp (b r1) (lpQ (I (k + 1)) Q) E) E) (hd : ∀ r, I items.length r → Q .nx r) : Wp (forL t b items r) Q E := by
  induction items generalizing r I with
  | nil => exact .ok _ _ rfl (hd r h0)
  | cons d ds ih =>
    rw [forL_wp]
    refine (hs 0 r (Nat.zero_lt_succ _) h0).mono (fun _ r1 h1 => h1.mono (fun f r2 h2 => ?_) fun _ _ h => h) fun _ _ h => h
    have go : ∀ r2, I 1 r2 → Wp (forL t b ds r2) Q E := fun r2 h2 => ih (fun k => I (k + 1)) h2 (fun k r hk hi => hs (k + 1) r (Nat.succ_lt_succ hk) hi) hd
    cases f with
    | nx => exact go _ h2
    | cnt => exact go _ h2
    | brk => exact h2
    | rt v => exact h2
theorem wp_forM {γ : Type} {t : Tg} {b : Mm Fl} {l : List γ} {f : γ → Da} (I : Nat → Rho → Prop) (h0 : I 0 r)
    (hs : ∀ k r, ∀ hk : k < l.length, I k r → Wp (mTg t (f l[k]) r) (fun _ r1 => Wp (b r1) (lpQ (I (k + 1)) Q) E) E) (hd : ∀ r, I l.length r → Q .nx r) : Wp (forL t b (l.map f) r) Q E :=
  wp_for I h0 (fun k r hk hi => by
    have hk' : k < l.length := by simpa using hk
    rw [List.getElem_map]
    exact hs k r hk' hi) (fun r h => hd r (by simpa using h))
theorem wp_forR {t : Tg} {b : Mm Fl} {lo : Int} {n : Nat} (I : Nat → Rho → Prop) (h0 : I 0 r)
    (hs : ∀ (k : Nat) r, k < n → I k r → Wp (mTg t (.int (lo + (k : Int))) r) (fun _ r1 => Wp (b r1) (lpQ (I (k + 1)) Q) E) E) (hd : ∀ r, I n r → Q .nx r) : Wp (forL t b (rgD lo n) r) Q E :=
  wp_for I h0 (fun k r hk hi => by
    have hk' : k < n := by simpa [rgD] using hk
    have e : (rgD lo n)[k] = .int (lo + (k : Int)) := rgD_get (n := n) (i := k) (List.getElem?_eq_getElem hk)
    rw [e]
    exact hs k r hk' hi) (fun r h => hd r (by simpa [rgD] using h))
/-- from nought on -/
theorem wp_forN {t : Tg} {b : Mm Fl} {n : Nat} (I : Nat → Rho → Prop) (h0 : I 0 r)
    (hs : ∀ (k : Nat) r, k < n → I k r → Wp (mTg t (.int (k : Int)) r) (fun _ r1 => Wp (b r1) (lpQ (I (k + 1)) Q) E) E) (hd : ∀ r, I n r → Q .nx r) : Wp (forL t b (rgD 0 n) r) Q E :=
  wp_forR I h0 (fun k r hk hi => by rw [Int.zero_add]; exact hs k r hk hi) hd
end
/-! locks -/
def lkO (x : Option Vl) (i : Nat) (ls : List (Nat × Vl)) : List (Nat × Vl) := match x with
  | some (.own d) => (i, Vl.own d) :: ls
  | some (.lent d) => (i, Vl.lent d) :: ls
  | _ => ls
@[simp] theorem lk_own {ls : List (Nat × Vl)} : lkO (some (Vl.own d)) i ls = (i, Vl.own d) :: ls := rfl
@[simp] theorem lk_lent {ls : List (Nat × Vl)} : lkO (some (Vl.lent d)) i ls = (i, Vl.lent d) :: ls := rfl
@[simp] theorem lk_val {ls : List (Nat × Vl)} : lkO (some (Vl.val d)) i ls = ls := rfl
@[simp] theorem lk_none {ls : List (Nat × Vl)} : lkO none i ls = ls := rfl
@[simp] theorem locks_nil : locks r [] = [] := rfl
@[simp] theorem locks_ex {os : List Opd} : locks r (.ex m :: os) = locks r os := rfl
@[simp] theorem locks_sl {os : List Opd} : locks r (.sl i :: os) = lkO (gt r i) i (locks r os) := by
  show (match gt r i with
    | some (.own d) => (i, Vl.own d) :: locks r os
    | some (.lent d) => (i, Vl.lent d) :: locks r os
    | _ => locks r os) = _
  unfold lkO
  cases gt r i with
  | none => rfl
  | some v => cases v <;> rfl
@[simp] theorem lockAll_nil : lockAll r [] = r := rfl
@[simp] theorem lockAll_cons {ls : List (Nat × Vl)} : lockAll r ((i, v) :: ls) = lockAll (r.set i (some .lck)) ls := rfl
@[simp] theorem unlockAll_nil : unlockAll r [] = r := rfl
@[simp] theorem unlockAll_cons {ls : List (Nat × Vl)} : unlockAll r ((i, v) :: ls) = unlockAll (r.set i (some v)) ls := rfl
@[simp] theorem hide_nil : hide r [] = r := rfl
@[simp] theorem hide_cons {is : List Nat} : hide r (i :: is) = (hide r is).set i none := rfl
@[simp] theorem unhide_nil : unhide r r' [] = r' := rfl
@[simp] theorem unhide_cons {is : List Nat} : unhide r r' (i :: is) = (unhide r r' is).set i (gt r i) := rfl
theorem wp_mapR {f : Rho → Rho} : Wp (o.mapR f) Q E = Wp o (fun a r => Q a (f r)) (fun e r => E e (f r)) := by cases o <;> simp [Out.mapR]
@[simp] theorem wp_over {f : List Da → Option (List Da)} {os : List Opd} {body : List Da → Mm α} : Wp (mOver f os body r) Q E =
    Wp (mOps os r) (fun ds r1 => ∃ items, f ds = some items ∧ Wp (body items (lockAll r1 (locks r1 os))) (fun a r2 => Q a (unlockAll r2 (locks r1 os))) (fun e r2 => E e (unlockAll r2 (locks r1 os)))) E := by
  unfold mOver
  cases mOps os r with
  | stuck => simp
  | exc e r1 => simp
  | ok ds r1 =>
    dsimp only
    rw [wp_ok]
    cases f ds with
    | none => simp
    | some items => simp [wp_mapR]
@[simp] theorem wp_mFor {t : Tg} {f : List Da → Option (List Da)} {os : List Opd} {b : Mm Fl} {Q : Fl → Rho → Prop} : Wp (mFor t f os b r) Q E =
    Wp (mOps os r) (fun ds r1 => ∃ items, f ds = some items ∧ Wp (forL t b items (lockAll r1 (locks r1 os))) (fun a r2 => Q a (unlockAll r2 (locks r1 os))) (fun e r2 => E e (unlockAll r2 (locks r1 os)))) E := wp_over
@[simp] theorem wp_mLc {own : List Nat} {t : Tg} {f : List Da → Option (List Da)} {os : List Opd} {Q : Vl → Rho → Prop} : Wp (mLc own t f os c m r) Q E =
    Wp (mOps os r) (fun ds r1 => ∃ items, f ds = some items ∧ Wp (lcL own t c m [] items (lockAll r1 (locks r1 os))) (fun xs r2 => Q (.own (.list xs)) (unlockAll r2 (locks r1 os))) (fun e r2 => E e (unlockAll r2 (locks r1 os)))) E := by
  unfold mLc
  rw [wp_over]
  congr 1
  funext ds r1
  simp only [ev_bnd, wp_bnd, ev_ret, wp_ok]
def lcQ (own : List Nat) (r : Rho) (J : List Da → Rho → Prop) (acc : List Da) : Option Da → Rho → Prop
  | some x, r' => acc.length < 16777216 ∧ J (acc ++ [x]) (unhide r r' own)
  | none, r' => J acc (unhide r r' own)
@[simp] theorem lcQ_some {own : List Nat} {J : List Da → Rho → Prop} {acc : List Da} : lcQ own r J acc (some d) r' = (acc.length < 16777216 ∧ J (acc ++ [d]) (unhide r r' own)) := rfl
@[simp] theorem lcQ_none {own : List Nat} {J : List Da → Rho → Prop} {acc : List Da} : lcQ own r J acc none r' = J acc (unhide r r' own) := rfl
def lcE (e : Mm Vl) (k : Bool) : Mm (Option Da) := match k with
  | true => mBnd (mFz e) fun x => mRet (some x)
  | false => mRet none
@[simp ↓] theorem lcE_t : lcE m true r = (mFz m r).bnd fun x => mRet (some x) := rfl
@[simp ↓] theorem lcE_f : lcE m false r = .ok none r := rfl
@[simp] theorem wp_lcE {k : Bool} {Q : Option Da → Rho → Prop} : Wp (lcE m k r) Q E = if k = true then Wp (m r) (fun v r => Wp (fzV v r) (fun d r => Q (some d) r) E) E else Q none r := by
  cases k with
  | true => simp
  | false => simp
@[simp ↓] theorem ev_lcT {t : Tg} : lcT t c m d r = (mTg t d r).bnd fun _ => mBnd c (lcE m) := rfl
theorem wp_lc {own : List Nat} {t : Tg} {items : List Da} {Q : List Da → Rho → Prop} (I : Nat → List Da → Rho → Prop) (h0 : I 0 [] r)
    (hs : ∀ k acc r, ∀ hk : k < items.length, I k acc r → Wp (lcT t c m items[k] (hide r own)) (lcQ own r (I (k + 1)) acc) nX) (hd : ∀ acc r, I items.length acc r → Q acc r) : Wp (lcL own t c m [] items r) Q E := by
  have gen : ∀ (items : List Da) (I : Nat → List Da → Rho → Prop) (acc : List Da) (r : Rho), I 0 acc r →
      (∀ k acc r, ∀ hk : k < items.length, I k acc r → Wp (lcT t c m items[k] (hide r own)) (lcQ own r (I (k + 1)) acc) nX) → (∀ acc r, I items.length acc r → Q acc r) → Wp (lcL own t c m acc items r) Q E := by
    intro items
    induction items with
    | nil => intro I acc r h0 _ hd; exact .ok _ _ rfl (hd acc r h0)
    | cons d ds ih =>
      intro I acc r h0 hs hd
      have h := hs 0 acc r (Nat.zero_lt_succ _) h0
      obtain ⟨x, r', e, q⟩ := wp_eq h
      have e2 : mNx (mHide own (lcT t c m d)) r = .ok x (unhide r r' own) := by
        unfold mNx mHide
        have e' : lcT t c m d (hide r own) = .ok x r' := e
        rw [e']; rfl
      have e3 : lcL own t c m acc (d :: ds) = mBnd (mNx (mHide own (lcT t c m d))) fun o => match o with
        | some x => if acc.length < 16777216 then lcL own t c m (acc ++ [x]) ds else mStuck
        | none => lcL own t c m acc ds := rfl
      rw [e3, ev_bnd, e2, bnd_ok]
      cases x with
      | none => exact ih (fun k => I (k + 1)) acc _ q (fun k acc r hk => hs (k + 1) acc r (Nat.succ_lt_succ hk)) hd
      | some x =>
        obtain ⟨q1, q2⟩ := q
        dsimp only
        rw [if_pos q1]
        exact ih (fun k => I (k + 1)) _ _ q2 (fun k acc r hk => hs (k + 1) acc r (Nat.succ_lt_succ hk)) hd
  exact gen items I [] r h0 hs hd
/-- over what stands written -/
theorem lc_nil {own : List Nat} {t : Tg} {acc : List Da} {Q : List Da → Rho → Prop} : Wp (lcL own t c m acc [] r) Q E = Q acc r := by
  show Wp (Out.ok acc r) Q E = _
  rw [wp_ok]
theorem lc_cons {own : List Nat} {t : Tg} {acc ds : List Da} {Q : List Da → Rho → Prop} : Wp (lcL own t c m acc (d :: ds) r) Q E =
    Wp (lcT t c m d (hide r own)) (lcQ own r (fun acc r => Wp (lcL own t c m acc ds r) Q E) acc) nX := by
  have e3 : lcL own t c m acc (d :: ds) = mBnd (mNx (mHide own (lcT t c m d))) fun o => match o with
    | some x => if acc.length < 16777216 then lcL own t c m (acc ++ [x]) ds else mStuck
    | none => lcL own t c m acc ds := rfl
  rw [e3, ev_bnd, wp_bnd]
  unfold mNx mHide
  cases e : lcT t c m d (hide r own) with
  | stuck => simp [Out.mapR]
  | exc x r2 => simp [Out.mapR]
  | ok o r2 =>
    simp only [Out.mapR, wp_ok]
    cases o with
    | none => simp
    | some x =>
      by_cases q : acc.length < 16777216
      · simp [q]
      · simp [q]
/-- nothing is changed: each item by itself -/
theorem wp_lcM {γ : Type} {own : List Nat} {t : Tg} {l : List γ} {f : γ → Da} {Q : List Da → Rho → Prop} (g : γ → Da) (hn : l.length ≤ 16777216)
    (hs : ∀ x, x ∈ l → Wp (lcT t c m (f x) (hide r own)) (fun o r' => o = some (g x) ∧ unhide r r' own = r) nX) (hd : Q (l.map g) r) : Wp (lcL own t c m [] (l.map f) r) Q E := by
  refine wp_lc (fun k acc r' => r' = r ∧ acc = (l.take k).map g) ⟨rfl, by simp⟩ (fun k acc r' hk ⟨hr, ha⟩ => ?_) (fun acc r' ⟨hr, ha⟩ => ?_)
  · subst hr
    have hk' : k < l.length := by simpa using hk
    rw [List.getElem_map]
    refine (hs l[k] (List.getElem_mem hk')).mono (fun o r2 ⟨h1, h2⟩ => ?_) fun _ _ h => h
    subst h1
    rw [lcQ_some]
    refine ⟨by rw [ha]; simp; omega, h2, ?_⟩
    rw [ha, List.take_add_one, List.getElem?_eq_getElem hk', List.map_append]
    rfl
  · subst hr
    rw [ha]
    simpa using hd
theorem wp_lcF {γ : Type} {own : List Nat} {t : Tg} {l : List γ} {f : γ → Da} {Q : List Da → Rho → Prop} (g : γ → Option Da) (hn : l.length ≤ 16777216)
    (hs : ∀ x, x ∈ l → Wp (lcT t c m (f x) (hide r own)) (fun o r' => o = g x ∧ unhide r r' own = r) nX) (hd : Q (l.filterMap g) r) : Wp (lcL own t c m [] (l.map f) r) Q E := by
  refine wp_lc (fun k acc r' => r' = r ∧ acc = (l.take k).filterMap g) ⟨rfl, by simp⟩ (fun k acc r' hk ⟨hr, ha⟩ => ?_) (fun acc r' ⟨hr, ha⟩ => ?_)
  · subst hr
    have hk' : k < l.length := by simpa using hk
    rw [List.getElem_map]
    refine (hs l[k] (List.getElem_mem hk')).mono (fun o r2 ⟨h1, h2⟩ => ?_) fun _ _ h => h
    have e : (l.take (k + 1)).filterMap g = (l.take k).filterMap g ++ (g l[k]).toList := by
      rw [List.take_add_one, List.getElem?_eq_getElem hk', List.filterMap_append]
      cases q : g l[k] <;> simp [q]
    cases o with
    | none =>
      rw [lcQ_none]
      refine ⟨h2, ?_⟩
      rw [e, ← h1, ha]; simp
    | some x =>
      rw [lcQ_some]
      refine ⟨?_, h2, ?_⟩
      · have := List.length_filterMap_le g (l.take k)
        rw [ha]; simp at this ⊢; omega
      · rw [e, ← h1, ha]; rfl
  · subst hr
    rw [ha]
    simpa using hd
/-- the same over a range -/
theorem wp_lcN {own : List Nat} {t : Tg} {n : Nat} {Q : List Da → Rho → Prop} (g : Nat → Da) (hn : n ≤ 16777216)
    (hs : ∀ x, x < n → Wp (lcT t c m (.int (x : Int)) (hide r own)) (fun o r' => o = some (g x) ∧ unhide r r' own = r) nX) (hd : Q ((List.range n).map g) r) : Wp (lcL own t c m [] (rgD 0 n) r) Q E := by
  have e : rgD 0 n = (List.range n).map fun i : Nat => PyData.int (i : Int) := by unfold rgD; simp
  rw [e]
  exact wp_lcM g (by simpa using hn) (fun x hx => hs x (by simpa using hx)) hd
theorem wp_lcNF {own : List Nat} {t : Tg} {n : Nat} {Q : List Da → Rho → Prop} (g : Nat → Option Da) (hn : n ≤ 16777216)
    (hs : ∀ x, x < n → Wp (lcT t c m (.int (x : Int)) (hide r own)) (fun o r' => o = g x ∧ unhide r r' own = r) nX) (hd : Q ((List.range n).filterMap g) r) : Wp (lcL own t c m [] (rgD 0 n) r) Q E := by
  have e : rgD 0 n = (List.range n).map fun i : Nat => PyData.int (i : Int) := by unfold rgD; simp
  rw [e]
  exact wp_lcF g (by simpa using hn) (fun x hx => hs x (by simpa using hx)) hd
end
/-! a slot that may be set -/
def stb (x : Option Vl) : Prop := x = none ∨ (∃ d, x = some (.val d)) ∨ ∃ d, x = some (.own d)
@[simp] theorem stb_none : stb none := .inl rfl
@[simp] theorem stb_val {d : Da} : stb (some (.val d)) := .inr (.inl ⟨d, rfl⟩)
@[simp] theorem stb_own {d : Da} : stb (some (.own d)) := .inr (.inr ⟨d, rfl⟩)
theorem st_stb {x : Option Vl} (h : stb x) {i : Nat} {v : Vl} {r : Rho} : stO (some x) i v r = .ok () (r.set i (some v)) := by
  rcases h with rfl | ⟨d, rfl⟩ | ⟨d, rfl⟩ <;> rfl
/-! ranges -/
@[simp] theorem rg_ok {n : Int} (h0 : 0 ≤ n) (h : n < 4611686018427387904) : itRange [.int n] = some (rgD 0 n.toNat) := by
  have hr : rgIn n = true := by unfold rgIn; simp; omega
  unfold itRange
  simp [hr]
theorem rg_nat {n : Nat} (h : n < 4611686018427387904) : itRange [.int (n : Int)] = some (rgD 0 n) := by
  have := rg_ok (n := (n : Int)) (Int.natCast_nonneg n) (by omega)
  exact this
theorem rg2_ok {lo hi : Int} (h0 : -4611686018427387904 ≤ lo) (h1 : lo < 4611686018427387904) (h2 : -4611686018427387904 ≤ hi) (h3 : hi < 4611686018427387904) : itRange [.int lo, .int hi] = some (rgD lo (hi - lo).toNat) := by
  have a : rgIn lo = true := by unfold rgIn; simp; omega
  have b : rgIn hi = true := by unfold rgIn; simp; omega
  unfold itRange
  simp [a, b]
/-! how great -/
def Bd (n : Nat) (x : Int) : Prop := x.natAbs < 2 ^ n
theorem Bd.mono {n m : Nat} {x : Int} (h : Bd n x) (hm : n ≤ m) : Bd m x := Nat.lt_of_lt_of_le h (Nat.pow_le_pow_right (by decide) hm)
theorem Bd.neg {n : Nat} {x : Int} (h : Bd n x) : Bd n (-x) := by unfold Bd at *; rw [Int.natAbs_neg]; exact h
theorem Bd.add {n : Nat} {x y : Int} (h : Bd n x) (g : Bd n y) : Bd (n + 1) (x + y) := by
  unfold Bd at *
  have := Int.natAbs_add_le x y
  rw [Nat.pow_succ]; omega
theorem Bd.sub {n : Nat} {x y : Int} (h : Bd n x) (g : Bd n y) : Bd (n + 1) (x - y) := by
  rw [Int.sub_eq_add_neg]; exact h.add g.neg
theorem Bd.mul {n m : Nat} {x y : Int} (h : Bd n x) (g : Bd m y) : Bd (n + m) (x * y) := by
  unfold Bd at *
  rw [Int.natAbs_mul, Nat.pow_add]; exact Nat.mul_lt_mul'' h g
theorem Bd.mulOk {n m : Nat} {x y : Int} (h : Bd n x) (g : Bd m y) (hn : n ≤ 499999) (hm : m ≤ 499999) : mulOk x y = true := by
  have h1 : x.natAbs < bigN := h.mono hn
  have h2 : y.natAbs < bigN := g.mono hm
  unfold Mi.mulOk
  rw [decide_eq_true h1, decide_eq_true h2]
  simp
theorem Bd.divOk {n : Nat} {x : Int} (h : Bd n x) (hn : n ≤ 9000) (h0 : x ≠ 0) : divOk x = true := divOk_i h0 (h.mono hn)
theorem Bd.of_lt {n : Nat} {x y : Int} (h : Bd n y) (h1 : x.natAbs ≤ y.natAbs) : Bd n x := Nat.lt_of_le_of_lt h1 h
theorem Bd.ofNat {n : Nat} {k : Nat} (h : k < 2 ^ n) : Bd n (k : Int) := by unfold Bd; simpa using h
end Mi

set_option maxHeartbeats 1000000
namespace Mi
open PySem PySem.Spec PyProof.Rows L2
/-! ## operations on lists and tuples of data -/
section
variable {a b : Int} {n : Nat} {s t : Str} {k : Bool} {d e : Da} {ds es : List Da} {r : Rho} {xs ys : List Int}
@[simp] theorem op_list_l : opList [.list ds] = some (.own (.list ds)) := rfl
@[simp] theorem op_list_t : opList [.tuple ds] = some (.own (.list ds)) := rfl
@[simp] theorem op_tuple_l : opTuple [.list ds] = some (.val (.tuple ds)) := rfl
@[simp] theorem op_tuple_t : opTuple [.tuple ds] = some (.val (.tuple ds)) := rfl
theorem intsD_map : ∀ xs : List Int, intsD (xs.map .int) = some xs
  | [] => rfl
  | x :: xs => by simp [intsD, intsD_map xs]
theorem intsD_mapf {γ : Type} (f : γ → Int) : ∀ l : List γ, intsD (l.map fun x => .int (f x)) = some (l.map f)
  | [] => rfl
  | x :: xs => by simp [intsD, intsD_mapf f xs]
@[simp] theorem op_sum_i : opSum [.list (xs.map .int)] = some (.val (.int xs.sum)) := by simp only [opSum, intsD_map]
@[simp] theorem op_sum_f {γ : Type} {f : γ → Int} {l : List γ} : opSum [.list (l.map fun x => .int (f x))] = some (.val (.int (l.map f).sum)) := by simp only [opSum, intsD_mapf]
theorem boolsD_mapf {γ : Type} (f : γ → Bool) : ∀ l : List γ, boolsD (l.map fun x => .bool (f x)) = some (l.map f)
  | [] => rfl
  | x :: xs => by simp [boolsD, boolsD_mapf f xs]
@[simp] theorem op_all_f {γ : Type} {f : γ → Bool} {l : List γ} : opAll [.list (l.map fun x => .bool (f x))] = some (.val (.bool (l.all f))) := by
  simp [opAll, boolsD_mapf, List.all_map]
@[simp] theorem op_any_f {γ : Type} {f : γ → Bool} {l : List γ} : opAny [.list (l.map fun x => .bool (f x))] = some (.val (.bool (l.any f))) := by
  simp [opAny, boolsD_mapf, List.any_map]
@[simp] theorem it_any_l : itAny [.list ds] = some ds := rfl
@[simp] theorem it_any_t : itAny [.tuple ds] = some ds := rfl
theorem op_add_l (h : ds.length + es.length ≤ 16777216) : opAdd [.list ds, .list es] = some (.own (.list (ds ++ es))) := if_pos h
theorem op_add_t (h : ds.length + es.length ≤ 16777216) : opAdd [.tuple ds, .tuple es] = some (.val (.tuple (ds ++ es))) := if_pos h
@[simp] theorem isFn_nil : isFn (.dict []) = false := rfl
@[simp] theorem isFn_none : isFn .none = false := rfl
@[simp] theorem isFn_bool : isFn (.bool k) = false := rfl
@[simp] theorem isFn_int : isFn (.int a) = false := rfl
@[simp] theorem isFn_str : isFn (.str s) = false := rfl
@[simp] theorem isFn_list : isFn (.list ds) = false := rfl
@[simp] theorem isFn_tuple : isFn (.tuple ds) = false := rfl
@[simp] theorem isi_int_none : opIsi "int" [.none] = some (.val (.bool false)) := rfl
@[simp] theorem isi_int_bool : opIsi "int" [(.bool k)] = some (.val (.bool true)) := rfl
@[simp] theorem isi_int_int : opIsi "int" [(.int a)] = some (.val (.bool true)) := rfl
@[simp] theorem isi_int_str : opIsi "int" [(.str s)] = some (.val (.bool false)) := rfl
@[simp] theorem isi_int_list : opIsi "int" [(.list ds)] = some (.val (.bool false)) := rfl
@[simp] theorem isi_int_tuple : opIsi "int" [(.tuple ds)] = some (.val (.bool false)) := rfl
@[simp] theorem isi_int_dict (h : isFn (.dict ks) = false) : opIsi "int" [(.dict ks)] = some (.val (.bool false)) := by simp [opIsi, h, isD, tyD]
@[simp] theorem isi_bool_none : opIsi "bool" [.none] = some (.val (.bool false)) := rfl
@[simp] theorem isi_bool_bool : opIsi "bool" [(.bool k)] = some (.val (.bool true)) := rfl
@[simp] theorem isi_bool_int : opIsi "bool" [(.int a)] = some (.val (.bool false)) := rfl
@[simp] theorem isi_bool_str : opIsi "bool" [(.str s)] = some (.val (.bool false)) := rfl
@[simp] theorem isi_bool_list : opIsi "bool" [(.list ds)] = some (.val (.bool false)) := rfl
@[simp] theorem isi_bool_tuple : opIsi "bool" [(.tuple ds)] = some (.val (.bool false)) := rfl
@[simp] theorem isi_bool_dict (h : isFn (.dict ks) = false) : opIsi "bool" [(.dict ks)] = some (.val (.bool false)) := by simp [opIsi, h, isD, tyD]
@[simp] theorem isi_str_none : opIsi "str" [.none] = some (.val (.bool false)) := rfl
@[simp] theorem isi_str_bool : opIsi "str" [(.bool k)] = some (.val (.bool false)) := rfl
@[simp] theorem isi_str_int : opIsi "str" [(.int a)] = some (.val (.bool false)) := rfl
@[simp] theorem isi_str_str : opIsi "str" [(.str s)] = some (.val (.bool true)) := rfl
@[simp] theorem isi_str_list : opIsi "str" [(.list ds)] = some (.val (.bool false)) := rfl
@[simp] theorem isi_str_tuple : opIsi "str" [(.tuple ds)] = some (.val (.bool false)) := rfl
@[simp] theorem isi_str_dict (h : isFn (.dict ks) = false) : opIsi "str" [(.dict ks)] = some (.val (.bool false)) := by simp [opIsi, h, isD, tyD]
@[simp] theorem isi_list_none : opIsi "list" [.none] = some (.val (.bool false)) := rfl
@[simp] theorem isi_list_bool : opIsi "list" [(.bool k)] = some (.val (.bool false)) := rfl
@[simp] theorem isi_list_int : opIsi "list" [(.int a)] = some (.val (.bool false)) := rfl
@[simp] theorem isi_list_str : opIsi "list" [(.str s)] = some (.val (.bool false)) := rfl
@[simp] theorem isi_list_list : opIsi "list" [(.list ds)] = some (.val (.bool true)) := rfl
@[simp] theorem isi_list_tuple : opIsi "list" [(.tuple ds)] = some (.val (.bool false)) := rfl
@[simp] theorem isi_list_dict (h : isFn (.dict ks) = false) : opIsi "list" [(.dict ks)] = some (.val (.bool false)) := by simp [opIsi, h, isD, tyD]
@[simp] theorem isi_tuple_none : opIsi "tuple" [.none] = some (.val (.bool false)) := rfl
@[simp] theorem isi_tuple_bool : opIsi "tuple" [(.bool k)] = some (.val (.bool false)) := rfl
@[simp] theorem isi_tuple_int : opIsi "tuple" [(.int a)] = some (.val (.bool false)) := rfl
@[simp] theorem isi_tuple_str : opIsi "tuple" [(.str s)] = some (.val (.bool false)) := rfl
@[simp] theorem isi_tuple_list : opIsi "tuple" [(.list ds)] = some (.val (.bool false)) := rfl
@[simp] theorem isi_tuple_tuple : opIsi "tuple" [(.tuple ds)] = some (.val (.bool true)) := rfl
@[simp] theorem isi_tuple_dict (h : isFn (.dict ks) = false) : opIsi "tuple" [(.dict ks)] = some (.val (.bool false)) := by simp [opIsi, h, isD, tyD]
@[simp] theorem isi_dict_none : opIsi "dict" [.none] = some (.val (.bool false)) := rfl
@[simp] theorem isi_dict_bool : opIsi "dict" [(.bool k)] = some (.val (.bool false)) := rfl
@[simp] theorem isi_dict_int : opIsi "dict" [(.int a)] = some (.val (.bool false)) := rfl
@[simp] theorem isi_dict_str : opIsi "dict" [(.str s)] = some (.val (.bool false)) := rfl
@[simp] theorem isi_dict_list : opIsi "dict" [(.list ds)] = some (.val (.bool false)) := rfl
@[simp] theorem isi_dict_tuple : opIsi "dict" [(.tuple ds)] = some (.val (.bool false)) := rfl
@[simp] theorem isi_dict_dict (h : isFn (.dict ks) = false) : opIsi "dict" [(.dict ks)] = some (.val (.bool true)) := by simp [opIsi, h, isD, tyD]
@[simp] theorem op_isnot_n : opIsNot [d, .none] = some (.val (.bool (!isNone d))) := by cases d <;> rfl
@[simp] theorem op_is_n : opIs [d, .none] = some (.val (.bool (isNone d))) := by cases d <;> rfl
theorem is_bb {x y : Bool} : opIs [.bool x, .bool y] = some (.val (.bool (decide (x = y)))) := by cases x <;> cases y <;> rfl
@[simp] theorem op_is_b {x y : Bool} : opIs [.bool x, .bool y] = some (.val (.bool (decide (x = y)))) := is_bb
@[simp] theorem op_isnot_b {x y : Bool} : opIsNot [.bool x, .bool y] = some (.val (.bool (!decide (x = y)))) := by cases x <;> cases y <;> rfl
@[simp] theorem repr_b {k : Bool} : opRepr [.bool k] = some (.val (.str (PyData.shown (.bool k)))) := by cases k <;> rfl
@[simp] theorem rev_t : opRev [.tuple ds] = some (.val (.tuple ds.reverse)) := rfl
/-! items -/
theorem item_nat {i : Nat} (h : i < ds.length) : itemD ds (i : Int) = some ds[i] := by
  unfold itemD
  rw [if_pos (Int.natCast_nonneg i)]
  simp [h]
theorem item_map {γ : Type} {f : γ → Da} {l : List γ} {i : Nat} (h : i < l.length) : itemD (l.map f) (i : Int) = some (f l[i]) := by
  rw [item_nat (by simpa using h)]; simp
@[simp] theorem item_0 : itemD (d :: ds) 0 = some d := rfl
@[simp] theorem item_1 : itemD (d :: e :: ds) 1 = some e := rfl
@[simp] theorem item_2 {c : Da} : itemD (d :: e :: c :: ds) 2 = some c := rfl
theorem putD_nat {i : Nat} (h : i < ds.length) : putD [.int (i : Int)] d (.list ds) = some (.none, .list (ds.set i d)) := by
  have e : L2.ixN ds.length (i : Int) = some i := by unfold L2.ixN; simp [h]
  simp only [putD, e, Option.map_some]
/-! parts -/
theorem cut_lo (k : Nat) : cutD ds (some (k : Int)) none = ds.drop k := by
  unfold cutD
  rw [HT.sIx_nat, HT.sIx_none]
  by_cases h : k ≤ ds.length
  · rw [Nat.min_eq_left h, List.take_of_length_le (by simp)]
  · rw [Nat.min_eq_right (by omega), List.drop_eq_nil_of_le (Nat.le_refl _), List.drop_eq_nil_of_le (by omega)]; simp
theorem cut_hi (k : Nat) : cutD ds none (some (k : Int)) = ds.take k := by
  unfold cutD
  rw [HT.sIx_nat, HT.sIx_none, List.drop_zero, Nat.sub_zero]
  by_cases h : k ≤ ds.length
  · rw [Nat.min_eq_left h]
  · rw [Nat.min_eq_right (by omega), List.take_of_length_le (Nat.le_refl _), List.take_of_length_le (by omega)]
theorem cut_hiN : cutD ds none (some (-1)) = ds.dropLast := by
  show ((ds.drop 0).take ((if (-1 : Int) < 0 then ((-1 : Int) + ds.length).toNat else min (-1 : Int).toNat ds.length) - 0)) = _
  rw [if_pos (by decide), List.drop_zero, Nat.sub_zero, List.dropLast_eq_take]
  congr 1
  omega
theorem slL_l (k : Nat) : opSlL [.list ds, .int (k : Int)] = some (.own (.list (ds.drop k))) := by
  show some (Vl.own (.list (cutD ds (some (k : Int)) none))) = _
  rw [cut_lo]
theorem slL_t (k : Nat) : opSlL [.tuple ds, .int (k : Int)] = some (.val (.tuple (ds.drop k))) := by
  show some (Vl.val (.tuple (cutD ds (some (k : Int)) none))) = _
  rw [cut_lo]
@[simp] theorem slL_l1 : opSlL [.list ds, .int 1] = some (.own (.list (ds.drop 1))) := slL_l 1
@[simp] theorem slL_t1 : opSlL [.tuple ds, .int 1] = some (.val (.tuple (ds.drop 1))) := slL_t 1
theorem slH_l (k : Nat) : opSlH [.list ds, .int (k : Int)] = some (.own (.list (ds.take k))) := by
  show some (Vl.own (.list (cutD ds none (some (k : Int))))) = _
  rw [cut_hi]
theorem slH_t (k : Nat) : opSlH [.tuple ds, .int (k : Int)] = some (.val (.tuple (ds.take k))) := by
  show some (Vl.val (.tuple (cutD ds none (some (k : Int))))) = _
  rw [cut_hi]
@[simp] theorem slH_ln : opSlH [.list ds, .int (-1)] = some (.own (.list ds.dropLast)) := by
  show some (Vl.own (.list (cutD ds none (some (-1))))) = _
  rw [cut_hiN]
@[simp] theorem slH_tn : opSlH [.tuple ds, .int (-1)] = some (.val (.tuple ds.dropLast)) := by
  show some (Vl.val (.tuple (cutD ds none (some (-1))))) = _
  rw [cut_hiN]
@[simp] theorem it_zip_l : itZip [.list ds, .list es] = some (prD2 ds es) := rfl
@[simp] theorem it_zip_t : itZip [.tuple ds, .tuple es] = some (prD2 ds es) := rfl
theorem prD2_map {γ δ : Type} {f : γ → Da} {g : δ → Da} : ∀ (l : List γ) (l' : List δ), prD2 (l.map f) (l'.map g) = (l.zip l').map fun p => .tuple [f p.1, g p.2]
  | [], _ => by simp [prD2]
  | _ :: _, [] => rfl
  | x :: l, y :: l' => by simp [prD2, prD2_map l l']
/-! alike -/
theorem eqvAll_ints : ∀ xs ys : List Int, PyData.eqvAll (xs.map .int) (ys.map .int) = decide (xs = ys)
  | [], [] => rfl
  | [], _ :: _ => rfl
  | _ :: _, [] => rfl
  | x :: xs, y :: ys => by
    simp only [List.map_cons, PyData.eqvAll, PyData.eqv, eqvAll_ints xs ys]
    by_cases h1 : x = y <;> by_cases h2 : xs = ys <;> simp [h1, h2]
theorem canLay_ints : ∀ xs : List Int, PyData.canLayAll0 (xs.map .int) = true
  | [] => rfl
  | x :: xs => by simp [PyData.canLayAll0, PyData.canLay0, canLay_ints xs]
theorem depth_ints : ∀ xs : List Int, PyData.depthAll (xs.map .int) = 0
  | [] => rfl
  | x :: xs => by simp [PyData.depthAll, PyData.depth, depth_ints xs]
theorem shaped_l : SeqAt.shaped (.list (xs.map .int)) = true := by
  unfold SeqAt.shaped
  simp [PyData.canLay0, PyData.depth, canLay_ints, depth_ints]
theorem shaped_t : SeqAt.shaped (.tuple (xs.map .int)) = true := by
  unfold SeqAt.shaped
  simp [PyData.canLay0, PyData.depth, canLay_ints, depth_ints]
theorem op_eq_is : opEq [.list (xs.map .int), .list (ys.map .int)] = some (.val (.bool (decide (xs = ys)))) := by
  show (if SeqAt.shaped (.list (xs.map .int)) && SeqAt.shaped (.list (ys.map .int)) then some (Vl.val (.bool (PyData.eqv (.list (xs.map .int)) (.list (ys.map .int))))) else if lenNe (.list (xs.map .int)) (.list (ys.map .int)) then some (Vl.val (.bool false)) else none) = _
  rw [shaped_l, shaped_l]
  simp only [PyData.eqv, eqvAll_ints]
  rfl
theorem op_ne_is : opNe [.list (xs.map .int), .list (ys.map .int)] = some (.val (.bool (!decide (xs = ys)))) := by
  show (if SeqAt.shaped (.list (xs.map .int)) && SeqAt.shaped (.list (ys.map .int)) then some (Vl.val (.bool (!PyData.eqv (.list (xs.map .int)) (.list (ys.map .int))))) else if lenNe (.list (xs.map .int)) (.list (ys.map .int)) then some (Vl.val (.bool true)) else none) = _
  rw [shaped_l, shaped_l]
  simp only [PyData.eqv, eqvAll_ints]
  rfl
/-- what is shaped and alike at sight -/
theorem shaped_d {d : Da} (h1 : d.canLay0 = true) (h2 : d.depth ≤ 64) : SeqAt.shaped d = true := by
  unfold SeqAt.shaped; rw [h1, decide_eq_true h2]; rfl
mutual
theorem eqv_refl : ∀ d : Da, d.canLay0 = true → PyData.eqv d d = true
  | .none, _ => rfl
  | .bool b, _ => by simp [PyData.eqv]
  | .int i, _ => by simp [PyData.eqv]
  | .str s, _ => by simp [PyData.eqv]
  | .list ds, h => by simp only [PyData.eqv]; exact eqvA_refl ds (by simpa [PyData.canLay0] using h)
  | .tuple ds, h => by simp only [PyData.eqv]; exact eqvA_refl ds (by simpa [PyData.canLay0] using h)
  | .dict _, h => by simp [PyData.canLay0] at h
theorem eqvA_refl : ∀ ds : List Da, PyData.canLayAll0 ds = true → PyData.eqvAll ds ds = true
  | [], _ => rfl
  | d :: ds, h => by
    have h' : d.canLay0 = true ∧ PyData.canLayAll0 ds = true := by simpa [PyData.canLayAll0] using h
    simp only [PyData.eqvAll, eqv_refl d h'.1, eqvA_refl ds h'.2]; rfl
end
theorem op_eq_refl (h : SeqAt.shaped d = true) : opEq [d, d] = some (.val (.bool true)) := by
  have hc : d.canLay0 = true := by
    unfold SeqAt.shaped at h; simp at h; exact h.1
  unfold opEq
  split
  · rename_i he; cases he; simp
  · rename_i he; cases he; rw [h, eqv_refl d hc]; rfl
  · rename_i h1 h2; exact absurd rfl (h2 d d)
theorem op_ne_refl (h : SeqAt.shaped d = true) : opNe [d, d] = some (.val (.bool false)) := by
  have hc : d.canLay0 = true := by
    unfold SeqAt.shaped at h; simp at h; exact h.1
  unfold opNe
  split
  · rename_i he; cases he; simp
  · rename_i he; cases he; rw [h, eqv_refl d hc]; rfl
  · rename_i h1 h2; exact absurd rfl (h2 d d)
theorem op_ne_l0 : opNe [.list (xs.map .int), .list []] = some (.val (.bool (!decide (xs = [])))) := by
  have := op_ne_is (xs := xs) (ys := [])
  exact this
theorem op_eq_l0 : opEq [.list (xs.map .int), .list []] = some (.val (.bool (decide (xs = [])))) := by
  have := op_eq_is (xs := xs) (ys := [])
  exact this
@[simp] theorem op_ne_00 : opNe [.list [], .list []] = some (.val (.bool false)) := by
  have := op_ne_is (xs := []) (ys := [])
  exact this
@[simp] theorem op_eq_00 : opEq [.list [], .list []] = some (.val (.bool true)) := by
  have := op_eq_is (xs := []) (ys := [])
  exact this
/-! what may be shown -/
theorem aiA_map {γ : Type} {B : Nat} {f : γ → Da} : ∀ {l : List γ}, (∀ x ∈ l, ai B (f x)) → aiA B (l.map f)
  | [], _ => trivial
  | x :: l, h => ⟨h x List.mem_cons_self, aiA_map fun y hy => h y (List.mem_cons_of_mem _ hy)⟩
theorem lvA_ints : ∀ xs : List Int, lvA (xs.map .int) = 2 * xs.length
  | [] => rfl
  | x :: xs => by simp [lvA, lv, lvA_ints xs]; omega
theorem repr_is (h : ∀ x ∈ xs, Bd 1000 x) (hl : xs.length ≤ 8000) : reprOk (.tuple (xs.map .int)) = true :=
  reprOk_w 1000 (by unfold ai; exact aiA_map fun x hx => h x hx) (Nat.le_refl _) (by unfold lv; rw [lvA_ints]; omega) (by simp [PyData.depth, depth_ints])
theorem repr_ls (h : ∀ x ∈ xs, Bd 1000 x) (hl : xs.length ≤ 8000) : reprOk (.list (xs.map .int)) = true :=
  reprOk_w 1000 (by unfold ai; exact aiA_map fun x hx => h x hx) (Nat.le_refl _) (by unfold lv; rw [lvA_ints]; omega) (by simp [PyData.depth, depth_ints])
end
theorem op_ne_cons {d : Da} {ds : List Da} : opNe [.list (d :: ds), .list []] = some (.val (.bool true)) := by
  unfold opNe
  dsimp only
  by_cases h : (SeqAt.shaped (.list (d :: ds)) && SeqAt.shaped (.list [])) = true
  · rw [if_pos h]; rfl
  · rw [if_neg h]; rfl
theorem op_eq_cons {d : Da} {ds : List Da} : opEq [.list (d :: ds), .list []] = some (.val (.bool false)) := by
  unfold opEq
  dsimp only
  by_cases h : (SeqAt.shaped (.list (d :: ds)) && SeqAt.shaped (.list [])) = true
  · rw [if_pos h]; rfl
  · rw [if_neg h]; rfl
theorem op_mul_ti {ds : List Da} {k : Int} (h : repIn ds.length k = true) : opMul [.tuple ds, .int k] = some (.val (.tuple (repL ds k))) := if_pos h
theorem op_mul_li {ds : List Da} {k : Int} (h : repIn ds.length k = true) : opMul [.list ds, .int k] = some (.own (.list (repL ds k))) := if_pos h
theorem op_mul_si {z : Str} {k : Int} (h : repIn z.length k = true) : opMul [.str z, .int k] = some (.val (.str (repS z k))) := if_pos h
theorem repL_mem {α : Type} {xs : List α} {k : Int} {x : α} (h : x ∈ repL xs k) : x ∈ xs := by
  unfold repL at h
  obtain ⟨l, h1, h2⟩ := List.mem_flatten.mp h
  rw [(List.mem_replicate.mp h1).2] at h2
  exact h2
theorem repL_sing {α : Type} (x : α) (n : Nat) : repL [x] (n : Int) = List.replicate n x := by
  unfold repL
  rw [Int.toNat_natCast]
  induction n with
  | zero => rfl
  | succ n ih => rw [List.replicate_succ, List.flatten_cons, ih, List.replicate_succ]; rfl
theorem op_len_s {z : Str} (h : z.length ≤ 16777216) : opLen [.str z] = some (.val (.int (z.length : Nat))) := if_pos h
@[simp] theorem it_any_s {z : Str} : itAny [.str z] = some (z.cps.toList.map fun c => .str ⟨#[c]⟩) := rfl
theorem wp_lcD {m : Mm Vl} {c : Mm Bool} {t : Tg} {own : List Nat} {r : Rho} {ds : List Da} {Q : List Da → Rho → Prop} {E : Ex → Rho → Prop} (g : Da → Da) (hn : ds.length ≤ 16777216)
    (hs : ∀ x, x ∈ ds → Wp (lcT t c m x (hide r own)) (fun o r' => o = some (g x) ∧ unhide r r' own = r) nX) (hd : Q (ds.map g) r) : Wp (lcL own t c m [] ds r) Q E := by
  have h := wp_lcM (f := fun x : Da => x) (l := ds) (E := E) g hn hs hd
  rwa [List.map_id'] at h
theorem wp_lcFD {m : Mm Vl} {c : Mm Bool} {t : Tg} {own : List Nat} {r : Rho} {ds : List Da} {Q : List Da → Rho → Prop} {E : Ex → Rho → Prop} (g : Da → Option Da) (hn : ds.length ≤ 16777216)
    (hs : ∀ x, x ∈ ds → Wp (lcT t c m x (hide r own)) (fun o r' => o = g x ∧ unhide r r' own = r) nX) (hd : Q (ds.filterMap g) r) : Wp (lcL own t c m [] ds r) Q E := by
  have h := wp_lcF (f := fun x : Da => x) (l := ds) (E := E) g hn hs hd
  rwa [List.map_id'] at h
theorem repr_big {z : Int} (h : Bd 1900 z) : reprOk (.int z) = true := by
  unfold reprOk
  rw [show bigI (.int z) = true from decide_eq_true h, Bool.or_true, Bool.true_or]
/-- what a drawing leaves: dice -/
theorem map_map_int {γ : Type} {f : γ → Int} {l : List γ} : l.map (fun x => PyData.int (f x)) = (l.map f).map .int := by rw [List.map_map]; rfl
/-! zip(range(n), list), list(range(n)) -/
theorem zr_nat {n : Nat} {bs : List Da} (h : n < 4611686018427387904) : itZipR [.int (n : Int), .list bs] = some (prD2 (rgD 0 n) bs) := by
  have e : (rgIn (n : Int) && decide (0 ≤ (n : Int))) = true := by
    unfold rgIn
    rw [Bool.and_eq_true, Bool.and_eq_true, decide_eq_true_eq, decide_eq_true_eq, decide_eq_true_eq]
    omega
  simp only [itZipR, e, if_true, Int.toNat_natCast]
theorem lr_nat {n : Nat} (h : n ≤ 16777216) : opLRange [.int (n : Int)] = some (.own (.list (rgD 0 n))) := by
  have e1 : decide ((n : Int) ≤ 16777216) = true := decide_eq_true (by omega)
  have e2 : decide (-(2 ^ 62) ≤ (n : Int)) = true := decide_eq_true (by omega)
  simp only [opLRange, e1, e2, Bool.and_self, if_true, Int.toNat_natCast]
end Mi

set_option maxHeartbeats 1000000
/-! ## what the kernel can reckon out: a small meaning with bounded loops, and that it agrees with the true one wherever it gives an answer -/
namespace Mi
open PySem
def Ay {α : Type} (m m' : Mm α) : Prop := ∀ r, m r = .stuck ∨ m' r = m r
def AyF (g g' : Fn) : Prop := ∀ vs, g vs = .stuck ∨ g' vs = g vs
inductive AyO : Opd → Opd → Prop
  | sl (i : Nat) : AyO (.sl i) (.sl i)
  | ex {m m' : Mm Vl} (h : Ay m m') : AyO (.ex m) (.ex m')
inductive AyOs : List Opd → List Opd → Prop
  | nil : AyOs [] []
  | cons {o o' : Opd} {os os' : List Opd} (h : AyO o o') (t : AyOs os os') : AyOs (o :: os) (o' :: os')
inductive AyA : List (Bool × Opd) → List (Bool × Opd) → Prop
  | nil : AyA [] []
  | cons {b : Bool} {o o' : Opd} {os os' : List (Bool × Opd)} (h : AyO o o') (t : AyA os os') : AyA ((b, o) :: os) ((b, o') :: os')
inductive AyMs : List (Mm Vl) → List (Mm Vl) → Prop
  | nil : AyMs [] []
  | cons {m m' : Mm Vl} {ms ms' : List (Mm Vl)} (h : Ay m m') (t : AyMs ms ms') : AyMs (m :: ms) (m' :: ms')
section
variable {α β : Type}
theorem Ay.same {m : Mm α} : Ay m m := fun _ => .inr (Eq.refl _)
theorem Ay.bnd {m m' : Mm α} {f f' : α → Mm β} (h : Ay m m') (k : ∀ a, Ay (f a) (f' a)) : Ay (mBnd m f) (mBnd m' f') := by
  intro r
  unfold mBnd
  rcases h r with e | e
  · rw [e]; exact .inl (Eq.refl _)
  · rw [e]
    cases m r with
    | ok a r' => exact k a r'
    | exc e r' => exact .inr (Eq.refl _)
    | stuck => exact .inl (Eq.refl _)
theorem Ay.fz {m m' : Mm Vl} (h : Ay m m') : Ay (mFz m) (mFz m') := h.bnd fun _ => Ay.same
theorem Ay.ops : ∀ {os os' : List Opd}, AyOs os os' → Ay (mOps os) (mOps os')
  | _, _, .nil => Ay.same
  | _, _, .cons (.sl i) t => Ay.bnd Ay.same fun _ => (Ay.ops t).bnd fun _ => Ay.same
  | _, _, .cons (.ex h) t => h.fz.bnd fun _ => (Ay.ops t).bnd fun _ => Ay.same
theorem Ay.op {f : List Da → Option Vl} {os os' : List Opd} (h : AyOs os os') : Ay (mOp f os) (mOp f os') := (Ay.ops h).bnd fun _ => Ay.same
theorem Ay.all : ∀ {ms ms' : List (Mm Vl)}, AyMs ms ms' → Ay (mAll ms) (mAll ms')
  | _, _, .nil => Ay.same
  | _, _, .cons h t => h.fz.bnd fun _ => (Ay.all t).bnd fun _ => Ay.same
theorem Ay.vls : ∀ {ms ms' : List (Mm Vl)}, AyMs ms ms' → Ay (mVls ms) (mVls ms')
  | _, _, .nil => Ay.same
  | _, _, .cons h t => h.bnd fun _ => (Ay.vls t).bnd fun _ => Ay.same
theorem Ay.tup {ms ms' : List (Mm Vl)} (h : AyMs ms ms') : Ay (mTup ms) (mTup ms') := (Ay.all h).bnd fun _ => Ay.same
theorem Ay.lst {ms ms' : List (Mm Vl)} (h : AyMs ms ms') : Ay (mLst ms) (mLst ms') := (Ay.all h).bnd fun _ => Ay.same
theorem Ay.par {is : List Nat} {ms ms' : List (Mm Vl)} (h : AyMs ms ms') : Ay (mPar is ms) (mPar is ms') := (Ay.vls h).bnd fun _ => Ay.same
theorem Ay.test {m m' : Mm Vl} (h : Ay m m') : Ay (mTest m) (mTest m') := h.fz.bnd fun _ => Ay.same
theorem Ay.ifm {c c' : Mm Bool} {a a' b b' : Mm α} (h : Ay c c') (ha : Ay a a') (hb : Ay b b') : Ay (mIf c a b) (mIf c' a' b') := h.bnd fun k => by cases k; exact hb; exact ha
theorem Ay.and {a a' b b' : Mm Vl} (ha : Ay a a') (hb : Ay b b') : Ay (mAnd a b) (mAnd a' b') := ha.test.bnd fun k => by cases k; exact Ay.same; exact hb.fz.bnd fun _ => Ay.same
theorem Ay.or {a a' b b' : Mm Vl} (ha : Ay a a') (hb : Ay b b') : Ay (mOr a b) (mOr a' b') := ha.test.bnd fun k => by cases k; exact hb.fz.bnd fun _ => Ay.same; exact Ay.same
theorem Ay.not {a a' : Mm Vl} (ha : Ay a a') : Ay (mNot a) (mNot a') := ha.test.bnd fun _ => Ay.same
theorem Ay.andT {a a' b b' : Mm Bool} (ha : Ay a a') (hb : Ay b b') : Ay (mAndT a b) (mAndT a' b') := ha.bnd fun k => by cases k; exact Ay.same; exact hb
theorem Ay.orT {a a' b b' : Mm Bool} (ha : Ay a a') (hb : Ay b b') : Ay (mOrT a b) (mOrT a' b') := ha.bnd fun k => by cases k; exact hb; exact Ay.same
theorem Ay.notT {a a' : Mm Bool} (ha : Ay a a') : Ay (mNotT a) (mNotT a') := ha.bnd fun _ => Ay.same
theorem Ay.seq {a a' b b' : Mm Fl} (ha : Ay a a') (hb : Ay b b') : Ay (mSeq a b) (mSeq a' b') := ha.bnd fun f => by cases f <;> first | exact hb | exact Ay.same
theorem Ay.asg {i : Nat} {m m' : Mm Vl} (h : Ay m m') : Ay (mAsg i m) (mAsg i m') := h.bnd fun _ => Ay.same
theorem Ay.asgT {t : Tg} {m m' : Mm Vl} (h : Ay m m') : Ay (mAsgT t m) (mAsgT t m') := h.fz.bnd fun _ => Ay.same
theorem Ay.rt {m m' : Mm Vl} (h : Ay m m') : Ay (mRt m) (mRt m') := h.bnd fun _ => Ay.same
theorem Ay.drop {m m' : Mm Vl} (h : Ay m m') : Ay (mDrop m) (mDrop m') := h.fz.bnd fun _ => Ay.same
theorem Ay.raiseF {c : Str} {m m' : Mm Vl} (h : Ay m m') : Ay (mRaiseF c m) (mRaiseF c m') := h.fz.bnd fun _ => Ay.same
theorem Ay.put {j : Nat} {o o' : Opd} {m m' : Mm Vl} (ho : AyO o o') (h : Ay m m') : Ay (mPut j o m) (mPut j o' m') := h.fz.bnd fun _ => Ay.bnd Ay.same fun _ => (Ay.ops (.cons ho .nil)).bnd fun _ => Ay.same
theorem Ay.app {j : Nat} {m m' : Mm Vl} (h : Ay m m') : Ay (mApp j m) (mApp j m') := Ay.bnd Ay.same fun c => by
  cases isLst c
  · exact Ay.same
  · exact h.fz.bnd fun _ => Ay.same
theorem Ay.meth {j : Nat} {g : List Da → Da → Option (Da × Da)} {os os' : List Opd} (h : AyOs os os') : Ay (mMeth j os g) (mMeth j os' g) := Ay.bnd Ay.same fun c => by
  cases isLst c
  · exact Ay.same
  · exact (Ay.ops h).bnd fun _ => Ay.same
theorem Ay.get {j : Nat} {o o' : Opd} {m m' : Mm Vl} (ho : AyO o o') (h : Ay m m') : Ay (mGet j o m) (mGet j o' m') := Ay.bnd Ay.same fun c => by
  cases isDc c
  · exact Ay.same
  · exact (Ay.ops (.cons ho (.cons (.ex h) .nil))).bnd fun _ => Ay.same
theorem Ay.chain {f g : List Da → Option Vl} {a a' b b' c c' : Opd} (ha : AyO a a') (hb : AyO b b') (hc : AyO c c') : Ay (mChain f g a b c) (mChain f g a' b' c') := (Ay.ops (.cons ha (.cons hb .nil))).bnd fun ds => by
  split
  · refine Ay.bnd Ay.same fun v => ?_
    split
    · exact (Ay.ops (.cons hc .nil)).bnd fun _ => Ay.same
    · exact Ay.same
    · exact Ay.same
  · exact Ay.same
theorem AyOs.locks : ∀ {os os' : List Opd}, AyOs os os' → ∀ r, locks r os' = locks r os
  | _, _, .nil, _ => rfl
  | _, _, .cons (.sl i) t, r => by
    unfold Mi.locks
    rw [t.locks r]
  | _, _, .cons (.ex h) t, r => t.locks r
theorem Ay.over {f : List Da → Option (List Da)} {os os' : List Opd} {b b' : List Da → Mm α} (h : AyOs os os') (hb : ∀ ds, Ay (b ds) (b' ds)) : Ay (mOver f os b) (mOver f os' b') := by
  intro r
  unfold mOver
  rcases Ay.ops h r with e | e
  · rw [e]; exact .inl rfl
  · rw [e]
    cases mOps os r with
    | ok ds r1 =>
      dsimp only
      cases f ds with
      | none => exact .inl rfl
      | some items =>
        dsimp only
        rw [h.locks r1]
        rcases hb items (lockAll r1 (locks r1 os)) with e | e
        · rw [e]; exact .inl rfl
        · rw [e]; exact .inr rfl
    | exc e r1 => exact .inr rfl
    | stuck => exact .inl rfl
theorem Ay.forL {t : Tg} {b b' : Mm Fl} (h : Ay b b') : ∀ ds, Ay (forL t b ds) (forL t b' ds)
  | [] => Ay.same
  | d :: ds => Ay.bnd Ay.same fun _ => h.bnd fun f => by
    cases f
    · exact Ay.forL h ds
    · exact Ay.same
    · exact Ay.forL h ds
    · exact Ay.same
theorem Ay.for {t : Tg} {f : List Da → Option (List Da)} {os os' : List Opd} {b b' : Mm Fl} (h : AyOs os os') (hb : Ay b b') : Ay (mFor t f os b) (mFor t f os' b') := Ay.over h fun ds => Ay.forL hb ds
theorem Ay.lcT {t : Tg} {c c' : Mm Bool} {e e' : Mm Vl} {d : Da} (hc : Ay c c') (he : Ay e e') : Ay (lcT t c e d) (lcT t c' e' d) := Ay.bnd Ay.same fun _ => hc.bnd fun k => by
  cases k
  · exact Ay.same
  · exact he.fz.bnd fun _ => Ay.same
theorem Ay.nxh {is : List Nat} {m m' : Mm α} (h : Ay m m') : Ay (mNx (mHide is m)) (mNx (mHide is m')) := by
  intro r
  unfold mNx mHide
  rcases h (hide r is) with e | e
  · rw [e]; exact .inl rfl
  · rw [e]; exact .inr rfl
theorem Ay.lcL {own : List Nat} {t : Tg} {c c' : Mm Bool} {e e' : Mm Vl} (hc : Ay c c') (he : Ay e e') : ∀ ds acc, Ay (lcL own t c e acc ds) (lcL own t c' e' acc ds)
  | [], _ => Ay.same
  | d :: ds, acc => (Ay.nxh (Ay.lcT hc he)).bnd fun o => by
    cases o with
    | none => exact Ay.lcL hc he ds acc
    | some x =>
      dsimp only
      by_cases q : acc.length < 16777216
      · rw [if_pos q, if_pos q]
        exact Ay.lcL hc he ds _
      · rw [if_neg q, if_neg q]
        exact Ay.same
theorem Ay.lc {own : List Nat} {t : Tg} {f : List Da → Option (List Da)} {os os' : List Opd} {c c' : Mm Bool} {e e' : Mm Vl} (h : AyOs os os') (hc : Ay c c') (he : Ay e e') : Ay (mLc own t f os c e) (mLc own t f os' c' e') :=
  Ay.over h fun ds => (Ay.lcL hc he ds []).bnd fun _ => Ay.same
/-! calls -/
theorem Ay.args : ∀ {as as' : List (Bool × Opd)}, AyA as as' → Ay (mArgs as) (mArgs as')
  | _, _, .nil => Ay.same
  | _, _, .cons (b := false) (.sl i) t => Ay.bnd Ay.same fun _ => (Ay.args t).bnd fun _ => Ay.same
  | _, _, .cons (b := true) (.sl i) t => Ay.bnd Ay.same fun _ => (Ay.args t).bnd fun _ => Ay.same
  | _, _, .cons (b := false) (.ex h) t => h.fz.bnd fun _ => (Ay.args t).bnd fun _ => Ay.same
  | _, _, .cons (b := true) (.ex h) t => h.bnd fun v => by
    cases v with
    | own d => exact (Ay.args t).bnd fun _ => Ay.same
    | _ => exact Ay.same
theorem AyO.apart {a b : Bool} {o o' p p' : Opd} (h : AyO o o') (q : AyO p p') : Mi.apart (a, o') (b, p') = Mi.apart (a, o) (b, p) := by
  cases h <;> cases q <;> cases a <;> cases b <;> rfl
theorem AyA.allA {a : Bool} {o o' : Opd} (h : AyO o o') : ∀ {as as' : List (Bool × Opd)}, AyA as as' → as'.all (Mi.apart (a, o')) = as.all (Mi.apart (a, o))
  | _, _, .nil => rfl
  | _, _, .cons q t => by rw [List.all_cons, List.all_cons, h.apart q, t.allA h]
theorem AyA.okA : ∀ {as as' : List (Bool × Opd)}, AyA as as' → okArgs as' = okArgs as
  | _, _, .nil => rfl
  | _, _, .cons q t => by unfold okArgs; rw [t.allA q, t.okA]
theorem AyA.peek : ∀ {as as' : List (Bool × Opd)}, AyA as as' → peekSl as' = peekSl as
  | _, _, .nil => rfl
  | _, _, .cons (b := false) (.sl i) t => by unfold peekSl; rw [t.peek]
  | _, _, .cons (b := true) (.sl i) t => t.peek
  | _, _, .cons (b := false) (.ex h) t => t.peek
  | _, _, .cons (b := true) (.ex h) t => t.peek
theorem AyA.back : ∀ {as as' : List (Bool × Opd)}, AyA as as' → ∀ ls r, backLents as' ls r = backLents as ls r
  | _, _, .nil, _, _ => rfl
  | _, _, .cons (b := false) (.sl i) t, ls, r => by cases ls <;> (unfold backLents; exact t.back _ _)
  | _, _, .cons (b := false) (.ex h) t, ls, r => by cases ls <;> (unfold backLents; exact t.back _ _)
  | _, _, .cons (b := true) (.ex h) t, ls, r => by
    cases ls with
    | nil => rfl
    | cons d ds => unfold backLents; exact t.back _ _
  | _, _, .cons (b := true) (.sl i) t, ls, r => by
    cases ls with
    | nil => rfl
    | cons d ds => unfold backLents; simp only [t.back]
theorem AyA.endC {as as' : List (Bool × Opd)} (h : AyA as as') (a : α) (k : Bool) (ls : List Da) (r : Rho) (f : α → Rho → Out Vl) : endCall as' a k ls r f = endCall as a k ls r f := by
  unfold endCall
  rw [h.back, h.peek]
theorem Ay.call {F F' : Fn} {as as' : List (Bool × Opd)} (hF : AyF F F') (h : AyA as as') : Ay (mCall F as) (mCall F' as') := by
  unfold mCall
  rw [h.okA]
  cases okArgs as with
  | false => exact Ay.same
  | true =>
    refine (Ay.args h).bnd fun vs r1 => ?_
    rcases hF vs with e | e
    · rw [e]; exact .inl rfl
    · rw [e]
      right
      cases F vs with
      | ret v ls => exact h.endC ..
      | exc e ls => exact h.endC ..
      | stuck => rfl
/-! loops -/
def itB {β : Type} (step : Rho → Rho ⊕ Out β) : Nat → Rho → Rho ⊕ Out β
  | 0, r => step r
  | k + 1, r => match itB step k r with
    | .inl r' => itB step k r'
    | .inr o => .inr o
def mWhB (n : Nat) (c : Mm Bool) (b : Mm Fl) : Mm Fl := fun r => match itB (whStep c b) n r with
  | .inl _ => .stuck
  | .inr o => o
theorem itB_iter {s s' : Rho → Rho ⊕ Out β} (h : ∀ r, s r = .inr .stuck ∨ s' r = s r) : ∀ k r, (∀ r', itB s k r = .inl r' → iter s' r = iter s' r') ∧ (∀ o, itB s k r = .inr o → o = .stuck ∨ iter s' r = o)
  | 0, r => by
    refine ⟨fun r' e => ?_, fun o e => ?_⟩
    · unfold itB at e
      rcases h r with q | q
      · rw [q] at e; cases e
      · rw [iter_eq, q, e]
    · unfold itB at e
      rcases h r with q | q
      · rw [q] at e; cases e; exact .inl rfl
      · right; rw [iter_eq, q, e]
  | k + 1, r => by
    obtain ⟨a, b⟩ := itB_iter h k r
    refine ⟨fun r' e => ?_, fun o e => ?_⟩
    · unfold itB at e
      cases q : itB s k r with
      | inl r1 => rw [q] at e; rw [a r1 q]; exact (itB_iter h k r1).1 r' e
      | inr o => rw [q] at e; cases e
    · unfold itB at e
      cases q : itB s k r with
      | inl r1 => rw [q] at e; rw [a r1 q]; exact (itB_iter h k r1).2 o e
      | inr o1 =>
        rw [q] at e
        cases e
        exact b _ q
theorem whStep_ap {c c' : Mm Bool} {b b' : Mm Fl} (hc : Ay c c') (hb : Ay b b') (r : Rho) : whStep c b r = .inr .stuck ∨ whStep c' b' r = whStep c b r := by
  unfold whStep
  rcases hc r with e | e
  · rw [e]; exact .inl rfl
  · rw [e]
    cases c r with
    | ok k r' =>
      cases k with
      | false => exact .inr rfl
      | true =>
        dsimp only
        rcases hb r' with e | e
        · rw [e]; exact .inl rfl
        · rw [e]; exact .inr rfl
    | exc e r' => exact .inr rfl
    | stuck => exact .inl rfl
theorem Ay.while {n : Nat} {c c' : Mm Bool} {b b' : Mm Fl} (hc : Ay c c') (hb : Ay b b') : Ay (mWhB n c b) (mWhile c' b') := by
  intro r
  unfold mWhB mWhile
  obtain ⟨_, k⟩ := itB_iter (whStep_ap hc hb) n r
  cases q : itB (whStep c b) n r with
  | inl r' => exact .inl rfl
  | inr o =>
    rcases k o q with e | e
    · subst e; exact .inl rfl
    · exact .inr e
theorem AyF.run {n : Nat} {fl : List Bool} {b b' : Mm Fl} (h : Ay b b') : AyF (fun vs => if okFl fl vs then runF n fl b vs else .stuck) (fun vs => if okFl fl vs then runF n fl b' vs else .stuck) := by
  intro vs
  dsimp only
  cases okFl fl vs with
  | false => exact .inl rfl
  | true =>
    rw [if_pos rfl, if_pos rfl]
    unfold runF
    rcases h (vs.map some ++ List.replicate (n - vs.length) none) with e | e
    · rw [e]; exact .inl rfl
    · rw [e]; exact .inr rfl
theorem AyF.none {g : Fn} : AyF (fun _ => .stuck) g := fun _ => .inl rfl
/-- the word of what a call gives -/
def wordR (ex : ExT) (w : Wd) (x : CRes) : Option Da := match x with
  | .ret (.val d) [] => some (wbV w d)
  | .exc e [] => match pickH ex e.cls w.hs with
    | some h => h.out e w.n
    | none => none
  | _ => none
theorem wordR_of {ex : ExT} {w : Wd} {x : CRes} {d : Da} (h : wordR ex w x = some d) : (∃ u, x = .ret (.val u) [] ∧ wbV w u = d) ∨ (∃ e, x = .exc e [] ∧ ∀ Q r, wordE ex w Q e r = Q (.val d) r) := by
  unfold wordR at h
  split at h
  · cases h; exact .inl ⟨_, rfl, rfl⟩
  · rename_i e
    right
    refine ⟨e, rfl, fun Q r => ?_⟩
    cases q : pickH ex e.cls w.hs with
    | none => rw [q] at h; cases h
    | some hd =>
      rw [q] at h
      dsimp only at h
      unfold wordE
      rw [q]
      dsimp only
      rw [h]
  · cases h
theorem AyF.word {ex : ExT} {w : Wd} {g g' : Fn} {vs : List Vl} {d : Da} (h : AyF g g') (q : wordR ex w (g vs) = some d) : wordR ex w (g' vs) = some d := by
  rcases h vs with e | e
  · rw [e] at q; cases q
  · rw [e]; exact q
end
end Mi

set_option maxHeartbeats 0
namespace Lw
open PySem PySem.Spec PyProof.Rows L2 Mi
/-! ## the text: its defs, by their places -/
def top (i : Nat) : Stmt := PySem.Challenge.pw_forevern_k21_errors_of_units.main.body.getD i (.Pass ⟨0, 0, 0, 0⟩)
def d_is_whole : Dfn := ⟨top 10, [false], ["value"], false⟩
def d_is_short : Dfn := ⟨top 11, [false], ["value"], false⟩
def d_is_within : Dfn := ⟨top 12, [false, false, false], ["value", "least", "most"], false⟩
def d_is_short_from : Dfn := ⟨top 13, [false, false], ["value", "least"], false⟩
def d_require_short : Dfn := ⟨top 14, [false], ["value"], false⟩
def d_require_from : Dfn := ⟨top 15, [false, false], ["value", "least"], false⟩
def d_require_within : Dfn := ⟨top 16, [false, false, false], ["value", "least", "most"], false⟩
def d_require_modulus : Dfn := ⟨top 17, [false], ["value"], false⟩
def d_raised : Dfn := ⟨top 18, [false, false], ["base", "exponent", "found", "here", "left"], false⟩
def d_raised_modulo : Dfn := ⟨top 19, [false, false, false], ["base", "exponent", "modulus", "found", "here", "left"], false⟩
def d_euclid : Dfn := ⟨top 21, [false, false], ["a", "b", "rests", "left", "right", "many"], false⟩
def d_divisor_of_two : Dfn := ⟨top 22, [false, false], ["a", "b"], false⟩
def d_undone : Dfn := ⟨top 23, [false, false], ["a", "m", "shared", "one", "other"], false⟩
def d_parts_in : Dfn := ⟨top 26, [false], ["n", "found", "left", "divisor", "many"], false⟩
def d_does_make : Dfn := ⟨top 27, [false, false, false], ["n", "base", "parts", "q", "many"], false⟩
def d_prime_paper : Dfn := ⟨top 28, [false], ["n", "parts", "base", "q", "many"], false⟩
def d_parts_paper : Dfn := ⟨top 30, [false], ["n", "row", "p", "e"], false⟩
def d_phi_of_parts : Dfn := ⟨top 31, [false], ["row", "found", "p", "e"], false⟩
def d_units_number : Dfn := ⟨top 36, [false, false], ["p", "f"], false⟩
def d_require_unit : Dfn := ⟨top 37, [false, false], ["a", "m"], false⟩
def d_order_within : Dfn := ⟨top 38, [false, false, false], ["a", "m", "many", "found", "p", "e"], false⟩
def d_order_of : Dfn := ⟨top 39, [false, false], ["a", "m"], false⟩
def d_order_answer : Dfn := ⟨top 40, [false, false], ["a", "m", "order"], false⟩
def d_least_generator : Dfn := ⟨top 41, [false, false], ["p", "f", "modulus", "many", "found", "exponents", "q", "e", "exponent"], false⟩
def d_own_generators : Dfn := ⟨top 42, [false, false], ["p", "f"], false⟩
def d_residue_with : Dfn := ⟨top 43, [false, false, false], ["part", "g", "m", "other"], false⟩
def d_generators_of : Dfn := ⟨top 44, [false], ["m", "found", "p", "f", "g", "order"], false⟩
def d_units_answer : Dfn := ⟨top 45, [false], ["m", "rows", "g", "order"], false⟩
def d_exponent_to : Dfn := ⟨top 46, [false, false, false], ["g", "a", "modulus", "here", "found"], false⟩
def d_part_exponents : Dfn := ⟨top 47, [false, false, false], ["p", "f", "a", "part", "side"], false⟩
def d_exponents_of : Dfn := ⟨top 48, [false, false], ["a", "m", "found", "p", "f"], false⟩
def d_unit_with : Dfn := ⟨top 49, [false, false], ["m", "row", "rows", "one", "found", "g", "order", "exponent"], false⟩
def d_group_of : Dfn := ⟨top 50, [false], ["m", "powers", "g", "order", "p", "e", "found", "at", "power"], false⟩
def d_greatest_order : Dfn := ⟨top 51, [false], ["m", "group"], false⟩
def d_order_count : Dfn := ⟨top 52, [false, false], ["m", "t", "group", "found", "p", "e", "most", "less", "one"], false⟩
def d__law_dice : Dfn := ⟨top 54, [false, false], ["script", "spot", "cell", "great", "seed"], false⟩
def d__law_up : Dfn := ⟨top 55, [true, false], ["dice", "total", "found"], false⟩
def d__law_pick : Dfn := ⟨top 56, [true, false], ["dice", "some"], false⟩
def d__law_gcd : Dfn := ⟨top 57, [false, false], ["one", "other", "left", "right"], false⟩
def d__law_is_whole : Dfn := ⟨top 58, [false], ["value"], false⟩
def d__law_met : Dfn := ⟨top 59, [false], ["call", "e"], false⟩
def d__law_is_short : Dfn := ⟨top 60, [false], ["value"], false⟩
def d__law_due : Dfn := ⟨top 61, [false], ["pairs", "found", "word", "does_hold"], false⟩
def d__law_odd : Dfn := ⟨top 62, [true], ["dice", "some"], false⟩
def d__law_right : Dfn := ⟨top 63, [true], ["dice", "a", "m", "is_modulus", "is_few", "is_unit", "pairs", "call", "t", "many", "some", "row", "is_row", "one"], true⟩
def d_law : Dfn := ⟨top 64, [false], ["script", "spot", "dice", "turn", "told"], true⟩
def defs : List (Str × Dfn) := [(Str.ofString "is_whole", d_is_whole), (Str.ofString "is_short", d_is_short), (Str.ofString "is_within", d_is_within), (Str.ofString "is_short_from", d_is_short_from), (Str.ofString "require_short", d_require_short), (Str.ofString "require_from", d_require_from), (Str.ofString "require_within", d_require_within), (Str.ofString "require_modulus", d_require_modulus), (Str.ofString "raised", d_raised), (Str.ofString "raised_modulo", d_raised_modulo), (Str.ofString "euclid", d_euclid), (Str.ofString "divisor_of_two", d_divisor_of_two), (Str.ofString "undone", d_undone), (Str.ofString "parts_in", d_parts_in), (Str.ofString "does_make", d_does_make), (Str.ofString "prime_paper", d_prime_paper), (Str.ofString "parts_paper", d_parts_paper), (Str.ofString "phi_of_parts", d_phi_of_parts), (Str.ofString "units_number", d_units_number), (Str.ofString "require_unit", d_require_unit), (Str.ofString "order_within", d_order_within), (Str.ofString "order_of", d_order_of), (Str.ofString "order_answer", d_order_answer), (Str.ofString "least_generator", d_least_generator), (Str.ofString "own_generators", d_own_generators), (Str.ofString "residue_with", d_residue_with), (Str.ofString "generators_of", d_generators_of), (Str.ofString "units_answer", d_units_answer), (Str.ofString "exponent_to", d_exponent_to), (Str.ofString "part_exponents", d_part_exponents), (Str.ofString "exponents_of", d_exponents_of), (Str.ofString "unit_with", d_unit_with), (Str.ofString "group_of", d_group_of), (Str.ofString "greatest_order", d_greatest_order), (Str.ofString "order_count", d_order_count), (Str.ofString "_law_dice", d__law_dice), (Str.ofString "_law_up", d__law_up), (Str.ofString "_law_pick", d__law_pick), (Str.ofString "_law_gcd", d__law_gcd), (Str.ofString "_law_is_whole", d__law_is_whole), (Str.ofString "_law_met", d__law_met), (Str.ofString "_law_is_short", d__law_is_short), (Str.ofString "_law_due", d__law_due), (Str.ofString "_law_odd", d__law_odd), (Str.ofString "_law_right", d__law_right), (Str.ofString "law", d_law)]
def tab (x : Str) : Option Dfn := defs.lookup x
def consts : List (Str × Da) := [(Str.ofString "MAX_MODULUS", .int (10 ^ 6)), (Str.ofString "FAR", .int (10 ^ 60)), (Str.ofString "LEAST_PRIME", .int (2)), (Str.ofString "MAX_GENERATED", .int (20000)), (Str.ofString "ORDER", .str (Str.ofString "order")), (Str.ofString "UNITS", .str (Str.ofString "units"))]
def cst (x : Str) : Option Da := consts.lookup x
def blts : List Str := [Str.ofString "abs", Str.ofString "len", Str.ofString "max", Str.ofString "min", Str.ofString "int", Str.ofString "tuple", Str.ofString "all", Str.ofString "repr", Str.ofString "isinstance", Str.ofString "bool", Str.ofString "range", Str.ofString "zip", Str.ofString "enumerate", Str.ofString "sorted", Str.ofString "super"]
def blt (x : Str) : Bool := blts.contains x
def exl : List Str := [Str.ofString "NumberError", Str.ofString "InvalidRow", Str.ofString "InvalidPoly", Str.ofString "InvalidOperation"]
def exb : List (Str × Str) := [(Str.ofString "NumberError", Str.ofString "NumberError"), (Str.ofString "InvalidRow", Str.ofString "NumberError"), (Str.ofString "InvalidRow", Str.ofString "InvalidRow"), (Str.ofString "InvalidPoly", Str.ofString "NumberError"), (Str.ofString "InvalidPoly", Str.ofString "InvalidPoly"), (Str.ofString "InvalidOperation", Str.ofString "NumberError"), (Str.ofString "InvalidOperation", Str.ofString "InvalidOperation"), (Str.ofString "InvalidNumber", Str.ofString "InvalidNumber"), (Str.ofString "TooMany", Str.ofString "TooMany")]
def exf : List (Str × Str) := [(Str.ofString "InvalidNumber", Str.ofString "value"), (Str.ofString "TooMany", Str.ofString "number")]
def exs : ExT := exOf exl exf exb
def kt_InvalidNumber : PySem.MiX.KtD := ⟨Str.ofString "InvalidNumber", Str.ofString "value", "IndexError", "IndexError.__new__", "IndexError.__init__", [.type "IndexError", .type "LookupError", .type "Exception", .type "BaseException", .type "object"]⟩
def kt_TooMany : PySem.MiX.KtD := ⟨Str.ofString "TooMany", Str.ofString "number", "OverflowError", "OverflowError.__new__", "OverflowError.__init__", [.type "OverflowError", .type "ArithmeticError", .type "Exception", .type "BaseException", .type "object"]⟩
def kts : List PySem.MiX.KtD := [kt_InvalidNumber, kt_TooMany]
def fl : Str := PySem.Challenge.pw_forevern_k21_errors_of_units.main.file
def lams : List Str := [Str.ofString "_law_right", Str.ofString "law"]
/-! ## what stands behind the top -/
def h_is_whole : He.DefD := ⟨("is_whole", none), "is_whole", "is_whole", defArgs (top 10), defBody (top 10), defScope (top 10), [], []⟩
def h_is_short : He.DefD := ⟨("is_short", none), "is_short", "is_short", defArgs (top 11), defBody (top 11), defScope (top 11), [], []⟩
def h_is_within : He.DefD := ⟨("is_within", none), "is_within", "is_within", defArgs (top 12), defBody (top 12), defScope (top 12), [], []⟩
def h_is_short_from : He.DefD := ⟨("is_short_from", none), "is_short_from", "is_short_from", defArgs (top 13), defBody (top 13), defScope (top 13), [], []⟩
def h_require_short : He.DefD := ⟨("require_short", none), "require_short", "require_short", defArgs (top 14), defBody (top 14), defScope (top 14), [], []⟩
def h_require_from : He.DefD := ⟨("require_from", none), "require_from", "require_from", defArgs (top 15), defBody (top 15), defScope (top 15), [], []⟩
def h_require_within : He.DefD := ⟨("require_within", none), "require_within", "require_within", defArgs (top 16), defBody (top 16), defScope (top 16), [], []⟩
def h_require_modulus : He.DefD := ⟨("require_modulus", none), "require_modulus", "require_modulus", defArgs (top 17), defBody (top 17), defScope (top 17), [], []⟩
def h_raised : He.DefD := ⟨("raised", none), "raised", "raised", defArgs (top 18), defBody (top 18), defScope (top 18), [], []⟩
def h_raised_modulo : He.DefD := ⟨("raised_modulo", none), "raised_modulo", "raised_modulo", defArgs (top 19), defBody (top 19), defScope (top 19), [], []⟩
def h_euclid : He.DefD := ⟨("euclid", none), "euclid", "euclid", defArgs (top 21), defBody (top 21), defScope (top 21), [], []⟩
def h_divisor_of_two : He.DefD := ⟨("divisor_of_two", none), "divisor_of_two", "divisor_of_two", defArgs (top 22), defBody (top 22), defScope (top 22), [], []⟩
def h_undone : He.DefD := ⟨("undone", none), "undone", "undone", defArgs (top 23), defBody (top 23), defScope (top 23), [], []⟩
def h_parts_in : He.DefD := ⟨("parts_in", none), "parts_in", "parts_in", defArgs (top 26), defBody (top 26), defScope (top 26), [], []⟩
def h_does_make : He.DefD := ⟨("does_make", none), "does_make", "does_make", defArgs (top 27), defBody (top 27), defScope (top 27), [], []⟩
def h_prime_paper : He.DefD := ⟨("prime_paper", none), "prime_paper", "prime_paper", defArgs (top 28), defBody (top 28), defScope (top 28), [], []⟩
def h_parts_paper : He.DefD := ⟨("parts_paper", none), "parts_paper", "parts_paper", defArgs (top 30), defBody (top 30), defScope (top 30), [], []⟩
def h_phi_of_parts : He.DefD := ⟨("phi_of_parts", none), "phi_of_parts", "phi_of_parts", defArgs (top 31), defBody (top 31), defScope (top 31), [], []⟩
def h_units_number : He.DefD := ⟨("units_number", none), "units_number", "units_number", defArgs (top 36), defBody (top 36), defScope (top 36), [], []⟩
def h_require_unit : He.DefD := ⟨("require_unit", none), "require_unit", "require_unit", defArgs (top 37), defBody (top 37), defScope (top 37), [], []⟩
def h_order_within : He.DefD := ⟨("order_within", none), "order_within", "order_within", defArgs (top 38), defBody (top 38), defScope (top 38), [], []⟩
def h_order_of : He.DefD := ⟨("order_of", none), "order_of", "order_of", defArgs (top 39), defBody (top 39), defScope (top 39), [], []⟩
def h_order_answer : He.DefD := ⟨("order_answer", none), "order_answer", "order_answer", defArgs (top 40), defBody (top 40), defScope (top 40), [], []⟩
def h_least_generator : He.DefD := ⟨("least_generator", none), "least_generator", "least_generator", defArgs (top 41), defBody (top 41), defScope (top 41), [], []⟩
def h_own_generators : He.DefD := ⟨("own_generators", none), "own_generators", "own_generators", defArgs (top 42), defBody (top 42), defScope (top 42), [], []⟩
def h_residue_with : He.DefD := ⟨("residue_with", none), "residue_with", "residue_with", defArgs (top 43), defBody (top 43), defScope (top 43), [], []⟩
def h_generators_of : He.DefD := ⟨("generators_of", none), "generators_of", "generators_of", defArgs (top 44), defBody (top 44), defScope (top 44), [], []⟩
def h_units_answer : He.DefD := ⟨("units_answer", none), "units_answer", "units_answer", defArgs (top 45), defBody (top 45), defScope (top 45), [], []⟩
def h_exponent_to : He.DefD := ⟨("exponent_to", none), "exponent_to", "exponent_to", defArgs (top 46), defBody (top 46), defScope (top 46), [], []⟩
def h_part_exponents : He.DefD := ⟨("part_exponents", none), "part_exponents", "part_exponents", defArgs (top 47), defBody (top 47), defScope (top 47), [], []⟩
def h_exponents_of : He.DefD := ⟨("exponents_of", none), "exponents_of", "exponents_of", defArgs (top 48), defBody (top 48), defScope (top 48), [], []⟩
def h_unit_with : He.DefD := ⟨("unit_with", none), "unit_with", "unit_with", defArgs (top 49), defBody (top 49), defScope (top 49), [], []⟩
def h_group_of : He.DefD := ⟨("group_of", none), "group_of", "group_of", defArgs (top 50), defBody (top 50), defScope (top 50), [], []⟩
def h_greatest_order : He.DefD := ⟨("greatest_order", none), "greatest_order", "greatest_order", defArgs (top 51), defBody (top 51), defScope (top 51), [], []⟩
def h_order_count : He.DefD := ⟨("order_count", none), "order_count", "order_count", defArgs (top 52), defBody (top 52), defScope (top 52), [], []⟩
def h__law_dice : He.DefD := ⟨("_law_dice", none), "_law_dice", "_law_dice", defArgs (top 54), defBody (top 54), defScope (top 54), [], []⟩
def h__law_up : He.DefD := ⟨("_law_up", none), "_law_up", "_law_up", defArgs (top 55), defBody (top 55), defScope (top 55), [], []⟩
def h__law_pick : He.DefD := ⟨("_law_pick", none), "_law_pick", "_law_pick", defArgs (top 56), defBody (top 56), defScope (top 56), [], []⟩
def h__law_gcd : He.DefD := ⟨("_law_gcd", none), "_law_gcd", "_law_gcd", defArgs (top 57), defBody (top 57), defScope (top 57), [], []⟩
def h__law_is_whole : He.DefD := ⟨("_law_is_whole", none), "_law_is_whole", "_law_is_whole", defArgs (top 58), defBody (top 58), defScope (top 58), [], []⟩
def h__law_met : He.DefD := ⟨("_law_met", none), "_law_met", "_law_met", defArgs (top 59), defBody (top 59), defScope (top 59), [], []⟩
def h__law_is_short : He.DefD := ⟨("_law_is_short", none), "_law_is_short", "_law_is_short", defArgs (top 60), defBody (top 60), defScope (top 60), [], []⟩
def h__law_due : He.DefD := ⟨("_law_due", none), "_law_due", "_law_due", defArgs (top 61), defBody (top 61), defScope (top 61), [], []⟩
def h__law_odd : He.DefD := ⟨("_law_odd", none), "_law_odd", "_law_odd", defArgs (top 62), defBody (top 62), defScope (top 62), [], []⟩
def h__law_right : He.DefD := ⟨("_law_right", none), "_law_right", "_law_right", defArgs (top 63), defBody (top 63), defScope (top 63), [], []⟩
def h_law : He.DefD := ⟨("law", none), "law", "law", defArgs (top 64), defBody (top 64), defScope (top 64), [], []⟩
def fn : List He.DefD := [h_is_whole, h_is_short, h_is_within, h_is_short_from, h_require_short, h_require_from, h_require_within, h_require_modulus, h_raised, h_raised_modulo, h_euclid, h_divisor_of_two, h_undone, h_parts_in, h_does_make, h_prime_paper, h_parts_paper, h_phi_of_parts, h_units_number, h_require_unit, h_order_within, h_order_of, h_order_answer, h_least_generator, h_own_generators, h_residue_with, h_generators_of, h_units_answer, h_exponent_to, h_part_exponents, h_exponents_of, h_unit_with, h_group_of, h_greatest_order, h_order_count, h__law_dice, h__law_up, h__law_pick, h__law_gcd, h__law_is_whole, h__law_met, h__law_is_short, h__law_due, h__law_odd, h__law_right, h_law]
def fa : List He.Fa := [.glo "is_whole", .glo "is_short", .glo "is_within", .glo "is_short_from", .glo "require_short", .glo "require_from", .glo "require_within", .glo "require_modulus", .glo "raised", .glo "raised_modulo", .glo "euclid", .glo "divisor_of_two", .glo "undone", .glo "parts_in", .glo "does_make", .glo "prime_paper", .glo "parts_paper", .glo "phi_of_parts", .glo "units_number", .glo "require_unit", .glo "order_within", .glo "order_of", .glo "order_answer", .glo "least_generator", .glo "own_generators", .glo "residue_with", .glo "generators_of", .glo "units_answer", .glo "exponent_to", .glo "part_exponents", .glo "exponents_of", .glo "unit_with", .glo "group_of", .glo "greatest_order", .glo "order_count", .glo "_law_dice", .glo "_law_up", .glo "_law_pick", .glo "_law_gcd", .glo "_law_is_whole", .glo "_law_met", .glo "_law_is_short", .glo "_law_due", .glo "_law_odd", .glo "_law_right", .glo "law", .int "MAX_MODULUS" (10 ^ 6), .int "FAR" (10 ^ 60), .int "LEAST_PRIME" (2), .int "MAX_GENERATED" (20000), .str "ORDER" (Str.ofString "order"), .str "UNITS" (Str.ofString "units"), .free "abs", .free "len", .free "max", .free "min", .free "int", .free "tuple", .free "all", .free "repr", .free "isinstance", .free "bool", .free "range", .free "zip", .free "enumerate", .free "sorted", .free "super", .glo "NumberError", .exc "NumberError", .glo "InvalidRow", .exc "InvalidRow", .glo "InvalidPoly", .exc "InvalidPoly", .glo "InvalidOperation", .exc "InvalidOperation", .glo "InvalidNumber", .glo "TooMany", .exm "NumberError" "NumberError" true, .exm "NumberError" "InvalidRow" false, .exm "NumberError" "InvalidPoly" false, .exm "NumberError" "InvalidOperation" false, .exm "NumberError" "InvalidNumber" false, .exm "NumberError" "TooMany" false, .exm "InvalidRow" "NumberError" true, .exm "InvalidRow" "InvalidRow" true, .exm "InvalidRow" "InvalidPoly" false, .exm "InvalidRow" "InvalidOperation" false, .exm "InvalidRow" "InvalidNumber" false, .exm "InvalidRow" "TooMany" false, .exm "InvalidPoly" "NumberError" true, .exm "InvalidPoly" "InvalidRow" false, .exm "InvalidPoly" "InvalidPoly" true, .exm "InvalidPoly" "InvalidOperation" false, .exm "InvalidPoly" "InvalidNumber" false, .exm "InvalidPoly" "TooMany" false, .exm "InvalidOperation" "NumberError" true, .exm "InvalidOperation" "InvalidRow" false, .exm "InvalidOperation" "InvalidPoly" false, .exm "InvalidOperation" "InvalidOperation" true, .exm "InvalidOperation" "InvalidNumber" false, .exm "InvalidOperation" "TooMany" false, .exm "InvalidNumber" "NumberError" false, .exm "InvalidNumber" "InvalidRow" false, .exm "InvalidNumber" "InvalidPoly" false, .exm "InvalidNumber" "InvalidOperation" false, .exm "InvalidNumber" "InvalidNumber" true, .exm "InvalidNumber" "TooMany" false, .exm "TooMany" "NumberError" false, .exm "TooMany" "InvalidRow" false, .exm "TooMany" "InvalidPoly" false, .exm "TooMany" "InvalidOperation" false, .exm "TooMany" "InvalidNumber" false, .exm "TooMany" "TooMany" true]
abbrev Rw : PySem.W.OpenRow := PySem.W.OpenLaw.row PySem.Challenge.rw_forevern_k21_errors_of_units
abbrev hk : PySem.W.Hook := hookN 4 fa fn fl kts lams consts
def ob (s : PySem.W.SharedT) : AlN := obsN 4 fa fn fl kts lams consts (HandSHeadRun.getT s)
theorem ob_eq (s : PySem.W.SharedT) : ob s = hk.obs s.abs := obsN_eq (HandSHeadRun.getT_eq s)
theorem run (w : World) : HandSHeadRun.RunEq Rw (PySem.W.view Rw.prog [64]) hk ob 4300 [Str.ofString "is_whole", Str.ofString "is_short", Str.ofString "is_within", Str.ofString "is_short_from", Str.ofString "require_short", Str.ofString "require_from", Str.ofString "require_within", Str.ofString "require_modulus", Str.ofString "raised", Str.ofString "raised_modulo", Str.ofString "euclid", Str.ofString "divisor_of_two", Str.ofString "undone", Str.ofString "parts_in", Str.ofString "does_make", Str.ofString "prime_paper", Str.ofString "parts_paper", Str.ofString "phi_of_parts", Str.ofString "units_number", Str.ofString "require_unit", Str.ofString "order_within", Str.ofString "order_of", Str.ofString "order_answer", Str.ofString "least_generator", Str.ofString "own_generators", Str.ofString "residue_with", Str.ofString "generators_of", Str.ofString "units_answer", Str.ofString "exponent_to", Str.ofString "part_exponents", Str.ofString "exponents_of", Str.ofString "unit_with", Str.ofString "group_of", Str.ofString "greatest_order", Str.ofString "order_count", Str.ofString "_law_dice", Str.ofString "_law_up", Str.ofString "_law_pick", Str.ofString "_law_gcd", Str.ofString "_law_is_whole", Str.ofString "_law_met", Str.ofString "_law_is_short", Str.ofString "_law_due", Str.ofString "_law_odd", Str.ofString "_law_right", Str.ofString "NumberError", Str.ofString "InvalidRow", Str.ofString "InvalidPoly", Str.ofString "InvalidOperation", Str.ofString "InvalidNumber", Str.ofString "TooMany", Str.ofString "MAX_MODULUS", Str.ofString "FAR", Str.ofString "LEAST_PRIME", Str.ofString "MAX_GENERATED", Str.ofString "ORDER", Str.ofString "UNITS"] w := by
  intro os
  kernel_rfl
section
variable {K : PySem.W.Frag} {mg : Str → Option Value} {h : Heap}
theorem ok_is_whole (X : K.In h) (G : h.Ns mainGlobals mg) (c : He.SaysD fa fn K) (lm : ∀ x ∈ lams, LamAt K x) : ∃ f fd, DefOk K mg "is_whole" d_is_whole f fd := by
  obtain ⟨fd, F⟩ := c.def_ 0 (d := h_is_whole) rfl
  have b := FunD.bindsN (ps := d_is_whole.N.take d_is_whole.fl.length) F fun _ _ _ _ _ _ us hl => match us, hl with | [_], _ => rfl
  exact ⟨_, fd, rfl, He.glo_ok X G (c.fact 0 (f := .glo "is_whole") rfl), F, b, ⟨rfl, rfl, rfl, by decide +kernel, rfl, by decide +kernel, by decide +kernel⟩, by decide, fun z => absurd z (by decide)⟩
theorem ok_is_short (X : K.In h) (G : h.Ns mainGlobals mg) (c : He.SaysD fa fn K) (lm : ∀ x ∈ lams, LamAt K x) : ∃ f fd, DefOk K mg "is_short" d_is_short f fd := by
  obtain ⟨fd, F⟩ := c.def_ 1 (d := h_is_short) rfl
  have b := FunD.bindsN (ps := d_is_short.N.take d_is_short.fl.length) F fun _ _ _ _ _ _ us hl => match us, hl with | [_], _ => rfl
  exact ⟨_, fd, rfl, He.glo_ok X G (c.fact 1 (f := .glo "is_short") rfl), F, b, ⟨rfl, rfl, rfl, by decide +kernel, rfl, by decide +kernel, by decide +kernel⟩, by decide, fun z => absurd z (by decide)⟩
theorem ok_is_within (X : K.In h) (G : h.Ns mainGlobals mg) (c : He.SaysD fa fn K) (lm : ∀ x ∈ lams, LamAt K x) : ∃ f fd, DefOk K mg "is_within" d_is_within f fd := by
  obtain ⟨fd, F⟩ := c.def_ 2 (d := h_is_within) rfl
  have b := FunD.bindsN (ps := d_is_within.N.take d_is_within.fl.length) F fun _ _ _ _ _ _ us hl => match us, hl with | [_, _, _], _ => rfl
  exact ⟨_, fd, rfl, He.glo_ok X G (c.fact 2 (f := .glo "is_within") rfl), F, b, ⟨rfl, rfl, rfl, by decide +kernel, rfl, by decide +kernel, by decide +kernel⟩, by decide, fun z => absurd z (by decide)⟩
theorem ok_is_short_from (X : K.In h) (G : h.Ns mainGlobals mg) (c : He.SaysD fa fn K) (lm : ∀ x ∈ lams, LamAt K x) : ∃ f fd, DefOk K mg "is_short_from" d_is_short_from f fd := by
  obtain ⟨fd, F⟩ := c.def_ 3 (d := h_is_short_from) rfl
  have b := FunD.bindsN (ps := d_is_short_from.N.take d_is_short_from.fl.length) F fun _ _ _ _ _ _ us hl => match us, hl with | [_, _], _ => rfl
  exact ⟨_, fd, rfl, He.glo_ok X G (c.fact 3 (f := .glo "is_short_from") rfl), F, b, ⟨rfl, rfl, rfl, by decide +kernel, rfl, by decide +kernel, by decide +kernel⟩, by decide, fun z => absurd z (by decide)⟩
theorem ok_require_short (X : K.In h) (G : h.Ns mainGlobals mg) (c : He.SaysD fa fn K) (lm : ∀ x ∈ lams, LamAt K x) : ∃ f fd, DefOk K mg "require_short" d_require_short f fd := by
  obtain ⟨fd, F⟩ := c.def_ 4 (d := h_require_short) rfl
  have b := FunD.bindsN (ps := d_require_short.N.take d_require_short.fl.length) F fun _ _ _ _ _ _ us hl => match us, hl with | [_], _ => rfl
  exact ⟨_, fd, rfl, He.glo_ok X G (c.fact 4 (f := .glo "require_short") rfl), F, b, ⟨rfl, rfl, rfl, by decide +kernel, rfl, by decide +kernel, by decide +kernel⟩, by decide, fun z => absurd z (by decide)⟩
theorem ok_require_from (X : K.In h) (G : h.Ns mainGlobals mg) (c : He.SaysD fa fn K) (lm : ∀ x ∈ lams, LamAt K x) : ∃ f fd, DefOk K mg "require_from" d_require_from f fd := by
  obtain ⟨fd, F⟩ := c.def_ 5 (d := h_require_from) rfl
  have b := FunD.bindsN (ps := d_require_from.N.take d_require_from.fl.length) F fun _ _ _ _ _ _ us hl => match us, hl with | [_, _], _ => rfl
  exact ⟨_, fd, rfl, He.glo_ok X G (c.fact 5 (f := .glo "require_from") rfl), F, b, ⟨rfl, rfl, rfl, by decide +kernel, rfl, by decide +kernel, by decide +kernel⟩, by decide, fun z => absurd z (by decide)⟩
theorem ok_require_within (X : K.In h) (G : h.Ns mainGlobals mg) (c : He.SaysD fa fn K) (lm : ∀ x ∈ lams, LamAt K x) : ∃ f fd, DefOk K mg "require_within" d_require_within f fd := by
  obtain ⟨fd, F⟩ := c.def_ 6 (d := h_require_within) rfl
  have b := FunD.bindsN (ps := d_require_within.N.take d_require_within.fl.length) F fun _ _ _ _ _ _ us hl => match us, hl with | [_, _, _], _ => rfl
  exact ⟨_, fd, rfl, He.glo_ok X G (c.fact 6 (f := .glo "require_within") rfl), F, b, ⟨rfl, rfl, rfl, by decide +kernel, rfl, by decide +kernel, by decide +kernel⟩, by decide, fun z => absurd z (by decide)⟩
theorem ok_require_modulus (X : K.In h) (G : h.Ns mainGlobals mg) (c : He.SaysD fa fn K) (lm : ∀ x ∈ lams, LamAt K x) : ∃ f fd, DefOk K mg "require_modulus" d_require_modulus f fd := by
  obtain ⟨fd, F⟩ := c.def_ 7 (d := h_require_modulus) rfl
  have b := FunD.bindsN (ps := d_require_modulus.N.take d_require_modulus.fl.length) F fun _ _ _ _ _ _ us hl => match us, hl with | [_], _ => rfl
  exact ⟨_, fd, rfl, He.glo_ok X G (c.fact 7 (f := .glo "require_modulus") rfl), F, b, ⟨rfl, rfl, rfl, by decide +kernel, rfl, by decide +kernel, by decide +kernel⟩, by decide, fun z => absurd z (by decide)⟩
theorem ok_raised (X : K.In h) (G : h.Ns mainGlobals mg) (c : He.SaysD fa fn K) (lm : ∀ x ∈ lams, LamAt K x) : ∃ f fd, DefOk K mg "raised" d_raised f fd := by
  obtain ⟨fd, F⟩ := c.def_ 8 (d := h_raised) rfl
  have b := FunD.bindsN (ps := d_raised.N.take d_raised.fl.length) F fun _ _ _ _ _ _ us hl => match us, hl with | [_, _], _ => rfl
  exact ⟨_, fd, rfl, He.glo_ok X G (c.fact 8 (f := .glo "raised") rfl), F, b, ⟨rfl, rfl, rfl, by decide +kernel, rfl, by decide +kernel, by decide +kernel⟩, by decide, fun z => absurd z (by decide)⟩
theorem ok_raised_modulo (X : K.In h) (G : h.Ns mainGlobals mg) (c : He.SaysD fa fn K) (lm : ∀ x ∈ lams, LamAt K x) : ∃ f fd, DefOk K mg "raised_modulo" d_raised_modulo f fd := by
  obtain ⟨fd, F⟩ := c.def_ 9 (d := h_raised_modulo) rfl
  have b := FunD.bindsN (ps := d_raised_modulo.N.take d_raised_modulo.fl.length) F fun _ _ _ _ _ _ us hl => match us, hl with | [_, _, _], _ => rfl
  exact ⟨_, fd, rfl, He.glo_ok X G (c.fact 9 (f := .glo "raised_modulo") rfl), F, b, ⟨rfl, rfl, rfl, by decide +kernel, rfl, by decide +kernel, by decide +kernel⟩, by decide, fun z => absurd z (by decide)⟩
theorem ok_euclid (X : K.In h) (G : h.Ns mainGlobals mg) (c : He.SaysD fa fn K) (lm : ∀ x ∈ lams, LamAt K x) : ∃ f fd, DefOk K mg "euclid" d_euclid f fd := by
  obtain ⟨fd, F⟩ := c.def_ 10 (d := h_euclid) rfl
  have b := FunD.bindsN (ps := d_euclid.N.take d_euclid.fl.length) F fun _ _ _ _ _ _ us hl => match us, hl with | [_, _], _ => rfl
  exact ⟨_, fd, rfl, He.glo_ok X G (c.fact 10 (f := .glo "euclid") rfl), F, b, ⟨rfl, rfl, rfl, by decide +kernel, rfl, by decide +kernel, by decide +kernel⟩, by decide, fun z => absurd z (by decide)⟩
theorem ok_divisor_of_two (X : K.In h) (G : h.Ns mainGlobals mg) (c : He.SaysD fa fn K) (lm : ∀ x ∈ lams, LamAt K x) : ∃ f fd, DefOk K mg "divisor_of_two" d_divisor_of_two f fd := by
  obtain ⟨fd, F⟩ := c.def_ 11 (d := h_divisor_of_two) rfl
  have b := FunD.bindsN (ps := d_divisor_of_two.N.take d_divisor_of_two.fl.length) F fun _ _ _ _ _ _ us hl => match us, hl with | [_, _], _ => rfl
  exact ⟨_, fd, rfl, He.glo_ok X G (c.fact 11 (f := .glo "divisor_of_two") rfl), F, b, ⟨rfl, rfl, rfl, by decide +kernel, rfl, by decide +kernel, by decide +kernel⟩, by decide, fun z => absurd z (by decide)⟩
theorem ok_undone (X : K.In h) (G : h.Ns mainGlobals mg) (c : He.SaysD fa fn K) (lm : ∀ x ∈ lams, LamAt K x) : ∃ f fd, DefOk K mg "undone" d_undone f fd := by
  obtain ⟨fd, F⟩ := c.def_ 12 (d := h_undone) rfl
  have b := FunD.bindsN (ps := d_undone.N.take d_undone.fl.length) F fun _ _ _ _ _ _ us hl => match us, hl with | [_, _], _ => rfl
  exact ⟨_, fd, rfl, He.glo_ok X G (c.fact 12 (f := .glo "undone") rfl), F, b, ⟨rfl, rfl, rfl, by decide +kernel, rfl, by decide +kernel, by decide +kernel⟩, by decide, fun z => absurd z (by decide)⟩
theorem ok_parts_in (X : K.In h) (G : h.Ns mainGlobals mg) (c : He.SaysD fa fn K) (lm : ∀ x ∈ lams, LamAt K x) : ∃ f fd, DefOk K mg "parts_in" d_parts_in f fd := by
  obtain ⟨fd, F⟩ := c.def_ 13 (d := h_parts_in) rfl
  have b := FunD.bindsN (ps := d_parts_in.N.take d_parts_in.fl.length) F fun _ _ _ _ _ _ us hl => match us, hl with | [_], _ => rfl
  exact ⟨_, fd, rfl, He.glo_ok X G (c.fact 13 (f := .glo "parts_in") rfl), F, b, ⟨rfl, rfl, rfl, by decide +kernel, rfl, by decide +kernel, by decide +kernel⟩, by decide, fun z => absurd z (by decide)⟩
theorem ok_does_make (X : K.In h) (G : h.Ns mainGlobals mg) (c : He.SaysD fa fn K) (lm : ∀ x ∈ lams, LamAt K x) : ∃ f fd, DefOk K mg "does_make" d_does_make f fd := by
  obtain ⟨fd, F⟩ := c.def_ 14 (d := h_does_make) rfl
  have b := FunD.bindsN (ps := d_does_make.N.take d_does_make.fl.length) F fun _ _ _ _ _ _ us hl => match us, hl with | [_, _, _], _ => rfl
  exact ⟨_, fd, rfl, He.glo_ok X G (c.fact 14 (f := .glo "does_make") rfl), F, b, ⟨rfl, rfl, rfl, by decide +kernel, rfl, by decide +kernel, by decide +kernel⟩, by decide, fun z => absurd z (by decide)⟩
theorem ok_prime_paper (X : K.In h) (G : h.Ns mainGlobals mg) (c : He.SaysD fa fn K) (lm : ∀ x ∈ lams, LamAt K x) : ∃ f fd, DefOk K mg "prime_paper" d_prime_paper f fd := by
  obtain ⟨fd, F⟩ := c.def_ 15 (d := h_prime_paper) rfl
  have b := FunD.bindsN (ps := d_prime_paper.N.take d_prime_paper.fl.length) F fun _ _ _ _ _ _ us hl => match us, hl with | [_], _ => rfl
  exact ⟨_, fd, rfl, He.glo_ok X G (c.fact 15 (f := .glo "prime_paper") rfl), F, b, ⟨rfl, rfl, rfl, by decide +kernel, rfl, by decide +kernel, by decide +kernel⟩, by decide, fun z => absurd z (by decide)⟩
theorem ok_parts_paper (X : K.In h) (G : h.Ns mainGlobals mg) (c : He.SaysD fa fn K) (lm : ∀ x ∈ lams, LamAt K x) : ∃ f fd, DefOk K mg "parts_paper" d_parts_paper f fd := by
  obtain ⟨fd, F⟩ := c.def_ 16 (d := h_parts_paper) rfl
  have b := FunD.bindsN (ps := d_parts_paper.N.take d_parts_paper.fl.length) F fun _ _ _ _ _ _ us hl => match us, hl with | [_], _ => rfl
  exact ⟨_, fd, rfl, He.glo_ok X G (c.fact 16 (f := .glo "parts_paper") rfl), F, b, ⟨rfl, rfl, rfl, by decide +kernel, rfl, by decide +kernel, by decide +kernel⟩, by decide, fun z => absurd z (by decide)⟩
theorem ok_phi_of_parts (X : K.In h) (G : h.Ns mainGlobals mg) (c : He.SaysD fa fn K) (lm : ∀ x ∈ lams, LamAt K x) : ∃ f fd, DefOk K mg "phi_of_parts" d_phi_of_parts f fd := by
  obtain ⟨fd, F⟩ := c.def_ 17 (d := h_phi_of_parts) rfl
  have b := FunD.bindsN (ps := d_phi_of_parts.N.take d_phi_of_parts.fl.length) F fun _ _ _ _ _ _ us hl => match us, hl with | [_], _ => rfl
  exact ⟨_, fd, rfl, He.glo_ok X G (c.fact 17 (f := .glo "phi_of_parts") rfl), F, b, ⟨rfl, rfl, rfl, by decide +kernel, rfl, by decide +kernel, by decide +kernel⟩, by decide, fun z => absurd z (by decide)⟩
theorem ok_units_number (X : K.In h) (G : h.Ns mainGlobals mg) (c : He.SaysD fa fn K) (lm : ∀ x ∈ lams, LamAt K x) : ∃ f fd, DefOk K mg "units_number" d_units_number f fd := by
  obtain ⟨fd, F⟩ := c.def_ 18 (d := h_units_number) rfl
  have b := FunD.bindsN (ps := d_units_number.N.take d_units_number.fl.length) F fun _ _ _ _ _ _ us hl => match us, hl with | [_, _], _ => rfl
  exact ⟨_, fd, rfl, He.glo_ok X G (c.fact 18 (f := .glo "units_number") rfl), F, b, ⟨rfl, rfl, rfl, by decide +kernel, rfl, by decide +kernel, by decide +kernel⟩, by decide, fun z => absurd z (by decide)⟩
theorem ok_require_unit (X : K.In h) (G : h.Ns mainGlobals mg) (c : He.SaysD fa fn K) (lm : ∀ x ∈ lams, LamAt K x) : ∃ f fd, DefOk K mg "require_unit" d_require_unit f fd := by
  obtain ⟨fd, F⟩ := c.def_ 19 (d := h_require_unit) rfl
  have b := FunD.bindsN (ps := d_require_unit.N.take d_require_unit.fl.length) F fun _ _ _ _ _ _ us hl => match us, hl with | [_, _], _ => rfl
  exact ⟨_, fd, rfl, He.glo_ok X G (c.fact 19 (f := .glo "require_unit") rfl), F, b, ⟨rfl, rfl, rfl, by decide +kernel, rfl, by decide +kernel, by decide +kernel⟩, by decide, fun z => absurd z (by decide)⟩
theorem ok_order_within (X : K.In h) (G : h.Ns mainGlobals mg) (c : He.SaysD fa fn K) (lm : ∀ x ∈ lams, LamAt K x) : ∃ f fd, DefOk K mg "order_within" d_order_within f fd := by
  obtain ⟨fd, F⟩ := c.def_ 20 (d := h_order_within) rfl
  have b := FunD.bindsN (ps := d_order_within.N.take d_order_within.fl.length) F fun _ _ _ _ _ _ us hl => match us, hl with | [_, _, _], _ => rfl
  exact ⟨_, fd, rfl, He.glo_ok X G (c.fact 20 (f := .glo "order_within") rfl), F, b, ⟨rfl, rfl, rfl, by decide +kernel, rfl, by decide +kernel, by decide +kernel⟩, by decide, fun z => absurd z (by decide)⟩
theorem ok_order_of (X : K.In h) (G : h.Ns mainGlobals mg) (c : He.SaysD fa fn K) (lm : ∀ x ∈ lams, LamAt K x) : ∃ f fd, DefOk K mg "order_of" d_order_of f fd := by
  obtain ⟨fd, F⟩ := c.def_ 21 (d := h_order_of) rfl
  have b := FunD.bindsN (ps := d_order_of.N.take d_order_of.fl.length) F fun _ _ _ _ _ _ us hl => match us, hl with | [_, _], _ => rfl
  exact ⟨_, fd, rfl, He.glo_ok X G (c.fact 21 (f := .glo "order_of") rfl), F, b, ⟨rfl, rfl, rfl, by decide +kernel, rfl, by decide +kernel, by decide +kernel⟩, by decide, fun z => absurd z (by decide)⟩
theorem ok_order_answer (X : K.In h) (G : h.Ns mainGlobals mg) (c : He.SaysD fa fn K) (lm : ∀ x ∈ lams, LamAt K x) : ∃ f fd, DefOk K mg "order_answer" d_order_answer f fd := by
  obtain ⟨fd, F⟩ := c.def_ 22 (d := h_order_answer) rfl
  have b := FunD.bindsN (ps := d_order_answer.N.take d_order_answer.fl.length) F fun _ _ _ _ _ _ us hl => match us, hl with | [_, _], _ => rfl
  exact ⟨_, fd, rfl, He.glo_ok X G (c.fact 22 (f := .glo "order_answer") rfl), F, b, ⟨rfl, rfl, rfl, by decide +kernel, rfl, by decide +kernel, by decide +kernel⟩, by decide, fun z => absurd z (by decide)⟩
theorem ok_least_generator (X : K.In h) (G : h.Ns mainGlobals mg) (c : He.SaysD fa fn K) (lm : ∀ x ∈ lams, LamAt K x) : ∃ f fd, DefOk K mg "least_generator" d_least_generator f fd := by
  obtain ⟨fd, F⟩ := c.def_ 23 (d := h_least_generator) rfl
  have b := FunD.bindsN (ps := d_least_generator.N.take d_least_generator.fl.length) F fun _ _ _ _ _ _ us hl => match us, hl with | [_, _], _ => rfl
  exact ⟨_, fd, rfl, He.glo_ok X G (c.fact 23 (f := .glo "least_generator") rfl), F, b, ⟨rfl, rfl, rfl, by decide +kernel, rfl, by decide +kernel, by decide +kernel⟩, by decide, fun z => absurd z (by decide)⟩
theorem ok_own_generators (X : K.In h) (G : h.Ns mainGlobals mg) (c : He.SaysD fa fn K) (lm : ∀ x ∈ lams, LamAt K x) : ∃ f fd, DefOk K mg "own_generators" d_own_generators f fd := by
  obtain ⟨fd, F⟩ := c.def_ 24 (d := h_own_generators) rfl
  have b := FunD.bindsN (ps := d_own_generators.N.take d_own_generators.fl.length) F fun _ _ _ _ _ _ us hl => match us, hl with | [_, _], _ => rfl
  exact ⟨_, fd, rfl, He.glo_ok X G (c.fact 24 (f := .glo "own_generators") rfl), F, b, ⟨rfl, rfl, rfl, by decide +kernel, rfl, by decide +kernel, by decide +kernel⟩, by decide, fun z => absurd z (by decide)⟩
theorem ok_residue_with (X : K.In h) (G : h.Ns mainGlobals mg) (c : He.SaysD fa fn K) (lm : ∀ x ∈ lams, LamAt K x) : ∃ f fd, DefOk K mg "residue_with" d_residue_with f fd := by
  obtain ⟨fd, F⟩ := c.def_ 25 (d := h_residue_with) rfl
  have b := FunD.bindsN (ps := d_residue_with.N.take d_residue_with.fl.length) F fun _ _ _ _ _ _ us hl => match us, hl with | [_, _, _], _ => rfl
  exact ⟨_, fd, rfl, He.glo_ok X G (c.fact 25 (f := .glo "residue_with") rfl), F, b, ⟨rfl, rfl, rfl, by decide +kernel, rfl, by decide +kernel, by decide +kernel⟩, by decide, fun z => absurd z (by decide)⟩
theorem ok_generators_of (X : K.In h) (G : h.Ns mainGlobals mg) (c : He.SaysD fa fn K) (lm : ∀ x ∈ lams, LamAt K x) : ∃ f fd, DefOk K mg "generators_of" d_generators_of f fd := by
  obtain ⟨fd, F⟩ := c.def_ 26 (d := h_generators_of) rfl
  have b := FunD.bindsN (ps := d_generators_of.N.take d_generators_of.fl.length) F fun _ _ _ _ _ _ us hl => match us, hl with | [_], _ => rfl
  exact ⟨_, fd, rfl, He.glo_ok X G (c.fact 26 (f := .glo "generators_of") rfl), F, b, ⟨rfl, rfl, rfl, by decide +kernel, rfl, by decide +kernel, by decide +kernel⟩, by decide, fun z => absurd z (by decide)⟩
theorem ok_units_answer (X : K.In h) (G : h.Ns mainGlobals mg) (c : He.SaysD fa fn K) (lm : ∀ x ∈ lams, LamAt K x) : ∃ f fd, DefOk K mg "units_answer" d_units_answer f fd := by
  obtain ⟨fd, F⟩ := c.def_ 27 (d := h_units_answer) rfl
  have b := FunD.bindsN (ps := d_units_answer.N.take d_units_answer.fl.length) F fun _ _ _ _ _ _ us hl => match us, hl with | [_], _ => rfl
  exact ⟨_, fd, rfl, He.glo_ok X G (c.fact 27 (f := .glo "units_answer") rfl), F, b, ⟨rfl, rfl, rfl, by decide +kernel, rfl, by decide +kernel, by decide +kernel⟩, by decide, fun z => absurd z (by decide)⟩
theorem ok_exponent_to (X : K.In h) (G : h.Ns mainGlobals mg) (c : He.SaysD fa fn K) (lm : ∀ x ∈ lams, LamAt K x) : ∃ f fd, DefOk K mg "exponent_to" d_exponent_to f fd := by
  obtain ⟨fd, F⟩ := c.def_ 28 (d := h_exponent_to) rfl
  have b := FunD.bindsN (ps := d_exponent_to.N.take d_exponent_to.fl.length) F fun _ _ _ _ _ _ us hl => match us, hl with | [_, _, _], _ => rfl
  exact ⟨_, fd, rfl, He.glo_ok X G (c.fact 28 (f := .glo "exponent_to") rfl), F, b, ⟨rfl, rfl, rfl, by decide +kernel, rfl, by decide +kernel, by decide +kernel⟩, by decide, fun z => absurd z (by decide)⟩
theorem ok_part_exponents (X : K.In h) (G : h.Ns mainGlobals mg) (c : He.SaysD fa fn K) (lm : ∀ x ∈ lams, LamAt K x) : ∃ f fd, DefOk K mg "part_exponents" d_part_exponents f fd := by
  obtain ⟨fd, F⟩ := c.def_ 29 (d := h_part_exponents) rfl
  have b := FunD.bindsN (ps := d_part_exponents.N.take d_part_exponents.fl.length) F fun _ _ _ _ _ _ us hl => match us, hl with | [_, _, _], _ => rfl
  exact ⟨_, fd, rfl, He.glo_ok X G (c.fact 29 (f := .glo "part_exponents") rfl), F, b, ⟨rfl, rfl, rfl, by decide +kernel, rfl, by decide +kernel, by decide +kernel⟩, by decide, fun z => absurd z (by decide)⟩
theorem ok_exponents_of (X : K.In h) (G : h.Ns mainGlobals mg) (c : He.SaysD fa fn K) (lm : ∀ x ∈ lams, LamAt K x) : ∃ f fd, DefOk K mg "exponents_of" d_exponents_of f fd := by
  obtain ⟨fd, F⟩ := c.def_ 30 (d := h_exponents_of) rfl
  have b := FunD.bindsN (ps := d_exponents_of.N.take d_exponents_of.fl.length) F fun _ _ _ _ _ _ us hl => match us, hl with | [_, _], _ => rfl
  exact ⟨_, fd, rfl, He.glo_ok X G (c.fact 30 (f := .glo "exponents_of") rfl), F, b, ⟨rfl, rfl, rfl, by decide +kernel, rfl, by decide +kernel, by decide +kernel⟩, by decide, fun z => absurd z (by decide)⟩
theorem ok_unit_with (X : K.In h) (G : h.Ns mainGlobals mg) (c : He.SaysD fa fn K) (lm : ∀ x ∈ lams, LamAt K x) : ∃ f fd, DefOk K mg "unit_with" d_unit_with f fd := by
  obtain ⟨fd, F⟩ := c.def_ 31 (d := h_unit_with) rfl
  have b := FunD.bindsN (ps := d_unit_with.N.take d_unit_with.fl.length) F fun _ _ _ _ _ _ us hl => match us, hl with | [_, _], _ => rfl
  exact ⟨_, fd, rfl, He.glo_ok X G (c.fact 31 (f := .glo "unit_with") rfl), F, b, ⟨rfl, rfl, rfl, by decide +kernel, rfl, by decide +kernel, by decide +kernel⟩, by decide, fun z => absurd z (by decide)⟩
theorem ok_group_of (X : K.In h) (G : h.Ns mainGlobals mg) (c : He.SaysD fa fn K) (lm : ∀ x ∈ lams, LamAt K x) : ∃ f fd, DefOk K mg "group_of" d_group_of f fd := by
  obtain ⟨fd, F⟩ := c.def_ 32 (d := h_group_of) rfl
  have b := FunD.bindsN (ps := d_group_of.N.take d_group_of.fl.length) F fun _ _ _ _ _ _ us hl => match us, hl with | [_], _ => rfl
  exact ⟨_, fd, rfl, He.glo_ok X G (c.fact 32 (f := .glo "group_of") rfl), F, b, ⟨rfl, rfl, rfl, by decide +kernel, rfl, by decide +kernel, by decide +kernel⟩, by decide, fun z => absurd z (by decide)⟩
theorem ok_greatest_order (X : K.In h) (G : h.Ns mainGlobals mg) (c : He.SaysD fa fn K) (lm : ∀ x ∈ lams, LamAt K x) : ∃ f fd, DefOk K mg "greatest_order" d_greatest_order f fd := by
  obtain ⟨fd, F⟩ := c.def_ 33 (d := h_greatest_order) rfl
  have b := FunD.bindsN (ps := d_greatest_order.N.take d_greatest_order.fl.length) F fun _ _ _ _ _ _ us hl => match us, hl with | [_], _ => rfl
  exact ⟨_, fd, rfl, He.glo_ok X G (c.fact 33 (f := .glo "greatest_order") rfl), F, b, ⟨rfl, rfl, rfl, by decide +kernel, rfl, by decide +kernel, by decide +kernel⟩, by decide, fun z => absurd z (by decide)⟩
theorem ok_order_count (X : K.In h) (G : h.Ns mainGlobals mg) (c : He.SaysD fa fn K) (lm : ∀ x ∈ lams, LamAt K x) : ∃ f fd, DefOk K mg "order_count" d_order_count f fd := by
  obtain ⟨fd, F⟩ := c.def_ 34 (d := h_order_count) rfl
  have b := FunD.bindsN (ps := d_order_count.N.take d_order_count.fl.length) F fun _ _ _ _ _ _ us hl => match us, hl with | [_, _], _ => rfl
  exact ⟨_, fd, rfl, He.glo_ok X G (c.fact 34 (f := .glo "order_count") rfl), F, b, ⟨rfl, rfl, rfl, by decide +kernel, rfl, by decide +kernel, by decide +kernel⟩, by decide, fun z => absurd z (by decide)⟩
theorem ok__law_dice (X : K.In h) (G : h.Ns mainGlobals mg) (c : He.SaysD fa fn K) (lm : ∀ x ∈ lams, LamAt K x) : ∃ f fd, DefOk K mg "_law_dice" d__law_dice f fd := by
  obtain ⟨fd, F⟩ := c.def_ 35 (d := h__law_dice) rfl
  have b := FunD.bindsN (ps := d__law_dice.N.take d__law_dice.fl.length) F fun _ _ _ _ _ _ us hl => match us, hl with | [_, _], _ => rfl
  exact ⟨_, fd, rfl, He.glo_ok X G (c.fact 35 (f := .glo "_law_dice") rfl), F, b, ⟨rfl, rfl, rfl, by decide +kernel, rfl, by decide +kernel, by decide +kernel⟩, by decide, fun z => absurd z (by decide)⟩
theorem ok__law_up (X : K.In h) (G : h.Ns mainGlobals mg) (c : He.SaysD fa fn K) (lm : ∀ x ∈ lams, LamAt K x) : ∃ f fd, DefOk K mg "_law_up" d__law_up f fd := by
  obtain ⟨fd, F⟩ := c.def_ 36 (d := h__law_up) rfl
  have b := FunD.bindsN (ps := d__law_up.N.take d__law_up.fl.length) F fun _ _ _ _ _ _ us hl => match us, hl with | [_, _], _ => rfl
  exact ⟨_, fd, rfl, He.glo_ok X G (c.fact 36 (f := .glo "_law_up") rfl), F, b, ⟨rfl, rfl, rfl, by decide +kernel, rfl, by decide +kernel, by decide +kernel⟩, by decide, fun z => absurd z (by decide)⟩
theorem ok__law_pick (X : K.In h) (G : h.Ns mainGlobals mg) (c : He.SaysD fa fn K) (lm : ∀ x ∈ lams, LamAt K x) : ∃ f fd, DefOk K mg "_law_pick" d__law_pick f fd := by
  obtain ⟨fd, F⟩ := c.def_ 37 (d := h__law_pick) rfl
  have b := FunD.bindsN (ps := d__law_pick.N.take d__law_pick.fl.length) F fun _ _ _ _ _ _ us hl => match us, hl with | [_, _], _ => rfl
  exact ⟨_, fd, rfl, He.glo_ok X G (c.fact 37 (f := .glo "_law_pick") rfl), F, b, ⟨rfl, rfl, rfl, by decide +kernel, rfl, by decide +kernel, by decide +kernel⟩, by decide, fun z => absurd z (by decide)⟩
theorem ok__law_gcd (X : K.In h) (G : h.Ns mainGlobals mg) (c : He.SaysD fa fn K) (lm : ∀ x ∈ lams, LamAt K x) : ∃ f fd, DefOk K mg "_law_gcd" d__law_gcd f fd := by
  obtain ⟨fd, F⟩ := c.def_ 38 (d := h__law_gcd) rfl
  have b := FunD.bindsN (ps := d__law_gcd.N.take d__law_gcd.fl.length) F fun _ _ _ _ _ _ us hl => match us, hl with | [_, _], _ => rfl
  exact ⟨_, fd, rfl, He.glo_ok X G (c.fact 38 (f := .glo "_law_gcd") rfl), F, b, ⟨rfl, rfl, rfl, by decide +kernel, rfl, by decide +kernel, by decide +kernel⟩, by decide, fun z => absurd z (by decide)⟩
theorem ok__law_is_whole (X : K.In h) (G : h.Ns mainGlobals mg) (c : He.SaysD fa fn K) (lm : ∀ x ∈ lams, LamAt K x) : ∃ f fd, DefOk K mg "_law_is_whole" d__law_is_whole f fd := by
  obtain ⟨fd, F⟩ := c.def_ 39 (d := h__law_is_whole) rfl
  have b := FunD.bindsN (ps := d__law_is_whole.N.take d__law_is_whole.fl.length) F fun _ _ _ _ _ _ us hl => match us, hl with | [_], _ => rfl
  exact ⟨_, fd, rfl, He.glo_ok X G (c.fact 39 (f := .glo "_law_is_whole") rfl), F, b, ⟨rfl, rfl, rfl, by decide +kernel, rfl, by decide +kernel, by decide +kernel⟩, by decide, fun z => absurd z (by decide)⟩
theorem ok__law_met (X : K.In h) (G : h.Ns mainGlobals mg) (c : He.SaysD fa fn K) (lm : ∀ x ∈ lams, LamAt K x) : ∃ f fd, DefOk K mg "_law_met" d__law_met f fd := by
  obtain ⟨fd, F⟩ := c.def_ 40 (d := h__law_met) rfl
  have b := FunD.bindsN (ps := d__law_met.N.take d__law_met.fl.length) F fun _ _ _ _ _ _ us hl => match us, hl with | [_], _ => rfl
  exact ⟨_, fd, rfl, He.glo_ok X G (c.fact 40 (f := .glo "_law_met") rfl), F, b, ⟨rfl, rfl, rfl, by decide +kernel, rfl, by decide +kernel, by decide +kernel⟩, by decide, fun z => absurd z (by decide)⟩
theorem ok__law_is_short (X : K.In h) (G : h.Ns mainGlobals mg) (c : He.SaysD fa fn K) (lm : ∀ x ∈ lams, LamAt K x) : ∃ f fd, DefOk K mg "_law_is_short" d__law_is_short f fd := by
  obtain ⟨fd, F⟩ := c.def_ 41 (d := h__law_is_short) rfl
  have b := FunD.bindsN (ps := d__law_is_short.N.take d__law_is_short.fl.length) F fun _ _ _ _ _ _ us hl => match us, hl with | [_], _ => rfl
  exact ⟨_, fd, rfl, He.glo_ok X G (c.fact 41 (f := .glo "_law_is_short") rfl), F, b, ⟨rfl, rfl, rfl, by decide +kernel, rfl, by decide +kernel, by decide +kernel⟩, by decide, fun z => absurd z (by decide)⟩
theorem ok__law_due (X : K.In h) (G : h.Ns mainGlobals mg) (c : He.SaysD fa fn K) (lm : ∀ x ∈ lams, LamAt K x) : ∃ f fd, DefOk K mg "_law_due" d__law_due f fd := by
  obtain ⟨fd, F⟩ := c.def_ 42 (d := h__law_due) rfl
  have b := FunD.bindsN (ps := d__law_due.N.take d__law_due.fl.length) F fun _ _ _ _ _ _ us hl => match us, hl with | [_], _ => rfl
  exact ⟨_, fd, rfl, He.glo_ok X G (c.fact 42 (f := .glo "_law_due") rfl), F, b, ⟨rfl, rfl, rfl, by decide +kernel, rfl, by decide +kernel, by decide +kernel⟩, by decide, fun z => absurd z (by decide)⟩
theorem ok__law_odd (X : K.In h) (G : h.Ns mainGlobals mg) (c : He.SaysD fa fn K) (lm : ∀ x ∈ lams, LamAt K x) : ∃ f fd, DefOk K mg "_law_odd" d__law_odd f fd := by
  obtain ⟨fd, F⟩ := c.def_ 43 (d := h__law_odd) rfl
  have b := FunD.bindsN (ps := d__law_odd.N.take d__law_odd.fl.length) F fun _ _ _ _ _ _ us hl => match us, hl with | [_], _ => rfl
  exact ⟨_, fd, rfl, He.glo_ok X G (c.fact 43 (f := .glo "_law_odd") rfl), F, b, ⟨rfl, rfl, rfl, by decide +kernel, rfl, by decide +kernel, by decide +kernel⟩, by decide, fun z => absurd z (by decide)⟩
theorem ok__law_right (X : K.In h) (G : h.Ns mainGlobals mg) (c : He.SaysD fa fn K) (lm : ∀ x ∈ lams, LamAt K x) : ∃ f fd, DefOk K mg "_law_right" d__law_right f fd := by
  obtain ⟨fd, F⟩ := c.def_ 44 (d := h__law_right) rfl
  have b := FunD.bindsN (ps := d__law_right.N.take d__law_right.fl.length) F fun _ _ _ _ _ _ us hl => match us, hl with | [_], _ => rfl
  exact ⟨_, fd, rfl, He.glo_ok X G (c.fact 44 (f := .glo "_law_right") rfl), F, b, ⟨rfl, rfl, rfl, by decide +kernel, rfl, by decide +kernel, by decide +kernel⟩, by decide, fun _ => lm "_law_right" (by decide +kernel)⟩
theorem ok_law (X : K.In h) (G : h.Ns mainGlobals mg) (c : He.SaysD fa fn K) (lm : ∀ x ∈ lams, LamAt K x) : ∃ f fd, DefOk K mg "law" d_law f fd := by
  obtain ⟨fd, F⟩ := c.def_ 45 (d := h_law) rfl
  have b := FunD.bindsN (ps := d_law.N.take d_law.fl.length) F fun _ _ _ _ _ _ us hl => match us, hl with | [_], _ => rfl
  exact ⟨_, fd, rfl, He.glo_ok X G (c.fact 45 (f := .glo "law") rfl), F, b, ⟨rfl, rfl, rfl, by decide +kernel, rfl, by decide +kernel, by decide +kernel⟩, by decide, fun _ => lm "law" (by decide +kernel)⟩
theorem law_def (X : K.In h) (G : h.Ns mainGlobals mg) (c : He.SaysD fa fn K) (lm : ∀ x ∈ lams, LamAt K x) : ∃ f fd, DefOk K mg "law" d_law f fd ∧ ∀ (s : Shared) (v : Value), BindsTo s fd ⟨[v], []⟩ [("script", v)] := by
  obtain ⟨fd, F⟩ := c.def_ 45 (d := h_law) rfl
  have b := FunD.bindsN (ps := ["script"]) F fun _ _ _ _ _ _ us hl => match us, hl with | [_], _ => rfl
  have b1 := FunD.bindsA (ps := ["script"]) F fun _ _ _ _ _ _ us hl => match us, hl with | [_], _ => rfl
  exact ⟨_, fd, ⟨rfl, He.glo_ok X G (c.fact 45 (f := .glo "law") rfl), F, b, ⟨rfl, rfl, rfl, by decide +kernel, rfl, by decide +kernel, by decide +kernel⟩, by decide, fun _ => lm "law" (by decide +kernel)⟩, fun s v => b1 s [v] rfl⟩
theorem all_defs (X : K.In h) (G : h.Ns mainGlobals mg) (c : He.SaysD fa fn K) (lm : ∀ x ∈ lams, LamAt K x) : ∀ x d, tab x = some d → ∃ f fd, DefOk K mg x d f fd := by
  refine tab_each (l := defs) ?_
  simp only [defs, List.forall_mem_cons]
  exact ⟨ok_is_whole X G c lm, ok_is_short X G c lm, ok_is_within X G c lm, ok_is_short_from X G c lm, ok_require_short X G c lm, ok_require_from X G c lm, ok_require_within X G c lm, ok_require_modulus X G c lm, ok_raised X G c lm, ok_raised_modulo X G c lm, ok_euclid X G c lm, ok_divisor_of_two X G c lm, ok_undone X G c lm, ok_parts_in X G c lm, ok_does_make X G c lm, ok_prime_paper X G c lm, ok_parts_paper X G c lm, ok_phi_of_parts X G c lm, ok_units_number X G c lm, ok_require_unit X G c lm, ok_order_within X G c lm, ok_order_of X G c lm, ok_order_answer X G c lm, ok_least_generator X G c lm, ok_own_generators X G c lm, ok_residue_with X G c lm, ok_generators_of X G c lm, ok_units_answer X G c lm, ok_exponent_to X G c lm, ok_part_exponents X G c lm, ok_exponents_of X G c lm, ok_unit_with X G c lm, ok_group_of X G c lm, ok_greatest_order X G c lm, ok_order_count X G c lm, ok__law_dice X G c lm, ok__law_up X G c lm, ok__law_pick X G c lm, ok__law_gcd X G c lm, ok__law_is_whole X G c lm, ok__law_met X G c lm, ok__law_is_short X G c lm, ok__law_due X G c lm, ok__law_odd X G c lm, ok__law_right X G c lm, ok_law X G c lm, fun _ hz => by cases hz⟩
theorem all_consts {w : World} (X : K.In h) (G : h.Ns mainGlobals mg) (c : He.SaysD fa fn K) (hc : consts.all (cdB K) = true) (hd : (dctsOf consts).map (fun t => He.dicW K (He.ga K t.1)) = (dctsOf consts).map fun t => some (He.keysIn w.params t.2)) : (∀ x d, cst x = some d → plainD d = true → ∃ v u, mg x = some u ∧ RelV v u ∧ ∀ Z, Rp K Z v d) ∧ ∀ x ps, cst x = some (.dict ps) → DctK K w mg x ps := by
  refine cst_each (l := consts) ?_ hc hd
  simp only [consts, List.forall_mem_cons]
  exact ⟨He.int_ok X G (c.fact 46 (f := .int "MAX_MODULUS" (10 ^ 6)) rfl), He.int_ok X G (c.fact 47 (f := .int "FAR" (10 ^ 60)) rfl), He.int_ok X G (c.fact 48 (f := .int "LEAST_PRIME" (2)) rfl), He.int_ok X G (c.fact 49 (f := .int "MAX_GENERATED" (20000)) rfl), He.str_ok X G (c.fact 50 (f := .str "ORDER" (Str.ofString "order")) rfl), He.str_ok X G (c.fact 51 (f := .str "UNITS" (Str.ofString "units")) rfl), fun _ hz => by cases hz⟩
theorem all_blts (X : K.In h) (G : h.Ns mainGlobals mg) (c : He.SaysD fa fn K) : ∀ x, blt x = true → mg x = none := by
  refine blt_each (l := blts) ?_
  simp only [blts, List.forall_mem_cons]
  exact ⟨He.free_ok X G (c.fact 52 (f := .free "abs") rfl), He.free_ok X G (c.fact 53 (f := .free "len") rfl), He.free_ok X G (c.fact 54 (f := .free "max") rfl), He.free_ok X G (c.fact 55 (f := .free "min") rfl), He.free_ok X G (c.fact 56 (f := .free "int") rfl), He.free_ok X G (c.fact 57 (f := .free "tuple") rfl), He.free_ok X G (c.fact 58 (f := .free "all") rfl), He.free_ok X G (c.fact 59 (f := .free "repr") rfl), He.free_ok X G (c.fact 60 (f := .free "isinstance") rfl), He.free_ok X G (c.fact 61 (f := .free "bool") rfl), He.free_ok X G (c.fact 62 (f := .free "range") rfl), He.free_ok X G (c.fact 63 (f := .free "zip") rfl), He.free_ok X G (c.fact 64 (f := .free "enumerate") rfl), He.free_ok X G (c.fact 65 (f := .free "sorted") rfl), He.free_ok X G (c.fact 66 (f := .free "super") rfl), fun _ hz => by cases hz⟩
theorem all_cls (X : K.In h) (G : h.Ns mainGlobals mg) (c : He.SaysD fa fn K) : ∀ x, exs.cls x = true → ClsOk K mg x (He.ga K x) := by
  refine exc_each (cl := exl) (fl := exf) (sb := exb) ?_
  simp only [exl, List.forall_mem_cons]
  exact ⟨cls_ok X G (c.fact 67 (f := .glo "NumberError") rfl) (c.fact 68 (f := .exc "NumberError") rfl), cls_ok X G (c.fact 69 (f := .glo "InvalidRow") rfl) (c.fact 70 (f := .exc "InvalidRow") rfl), cls_ok X G (c.fact 71 (f := .glo "InvalidPoly") rfl) (c.fact 72 (f := .exc "InvalidPoly") rfl), cls_ok X G (c.fact 73 (f := .glo "InvalidOperation") rfl) (c.fact 74 (f := .exc "InvalidOperation") rfl), fun _ hz => by cases hz⟩
theorem all_kno (X : K.In h) (G : h.Ns mainGlobals mg) (c : He.SaysD fa fn K) : ∀ x, exs.known x = true → mg x = some (.ref (He.ga K x)) := by
  refine kno_each (cl := exl) (fl := exf) (sb := exb) ?_
  simp only [exl, exf, List.map_cons, List.map_nil, List.cons_append, List.nil_append, List.forall_mem_cons]
  exact ⟨He.glo_ok X G (c.fact 67 (f := .glo "NumberError") rfl), He.glo_ok X G (c.fact 69 (f := .glo "InvalidRow") rfl), He.glo_ok X G (c.fact 71 (f := .glo "InvalidPoly") rfl), He.glo_ok X G (c.fact 73 (f := .glo "InvalidOperation") rfl), He.glo_ok X G (c.fact 75 (f := .glo "InvalidNumber") rfl), He.glo_ok X G (c.fact 76 (f := .glo "TooMany") rfl), fun _ hz => by cases hz⟩
theorem all_exm (c : He.SaysD fa fn K) : ∀ x y, exs.known x = true → exs.known y = true → PySem.W.exmOne K (.ref (He.ga K x)) (.ref (He.ga K y)) = some (exs.sub x y) := by
  refine exm_each (cl := exl) (fl := exf) (sb := exb) ?_
  simp only [exl, exf, List.map_cons, List.map_nil, List.cons_append, List.nil_append, List.forall_mem_cons]
  exact ⟨⟨He.exm_ok (c.fact 77 (f := .exm "NumberError" "NumberError" true) rfl), He.exm_ok (c.fact 78 (f := .exm "NumberError" "InvalidRow" false) rfl), He.exm_ok (c.fact 79 (f := .exm "NumberError" "InvalidPoly" false) rfl), He.exm_ok (c.fact 80 (f := .exm "NumberError" "InvalidOperation" false) rfl), He.exm_ok (c.fact 81 (f := .exm "NumberError" "InvalidNumber" false) rfl), He.exm_ok (c.fact 82 (f := .exm "NumberError" "TooMany" false) rfl), fun _ hz => by cases hz⟩, ⟨He.exm_ok (c.fact 83 (f := .exm "InvalidRow" "NumberError" true) rfl), He.exm_ok (c.fact 84 (f := .exm "InvalidRow" "InvalidRow" true) rfl), He.exm_ok (c.fact 85 (f := .exm "InvalidRow" "InvalidPoly" false) rfl), He.exm_ok (c.fact 86 (f := .exm "InvalidRow" "InvalidOperation" false) rfl), He.exm_ok (c.fact 87 (f := .exm "InvalidRow" "InvalidNumber" false) rfl), He.exm_ok (c.fact 88 (f := .exm "InvalidRow" "TooMany" false) rfl), fun _ hz => by cases hz⟩, ⟨He.exm_ok (c.fact 89 (f := .exm "InvalidPoly" "NumberError" true) rfl), He.exm_ok (c.fact 90 (f := .exm "InvalidPoly" "InvalidRow" false) rfl), He.exm_ok (c.fact 91 (f := .exm "InvalidPoly" "InvalidPoly" true) rfl), He.exm_ok (c.fact 92 (f := .exm "InvalidPoly" "InvalidOperation" false) rfl), He.exm_ok (c.fact 93 (f := .exm "InvalidPoly" "InvalidNumber" false) rfl), He.exm_ok (c.fact 94 (f := .exm "InvalidPoly" "TooMany" false) rfl), fun _ hz => by cases hz⟩, ⟨He.exm_ok (c.fact 95 (f := .exm "InvalidOperation" "NumberError" true) rfl), He.exm_ok (c.fact 96 (f := .exm "InvalidOperation" "InvalidRow" false) rfl), He.exm_ok (c.fact 97 (f := .exm "InvalidOperation" "InvalidPoly" false) rfl), He.exm_ok (c.fact 98 (f := .exm "InvalidOperation" "InvalidOperation" true) rfl), He.exm_ok (c.fact 99 (f := .exm "InvalidOperation" "InvalidNumber" false) rfl), He.exm_ok (c.fact 100 (f := .exm "InvalidOperation" "TooMany" false) rfl), fun _ hz => by cases hz⟩, ⟨He.exm_ok (c.fact 101 (f := .exm "InvalidNumber" "NumberError" false) rfl), He.exm_ok (c.fact 102 (f := .exm "InvalidNumber" "InvalidRow" false) rfl), He.exm_ok (c.fact 103 (f := .exm "InvalidNumber" "InvalidPoly" false) rfl), He.exm_ok (c.fact 104 (f := .exm "InvalidNumber" "InvalidOperation" false) rfl), He.exm_ok (c.fact 105 (f := .exm "InvalidNumber" "InvalidNumber" true) rfl), He.exm_ok (c.fact 106 (f := .exm "InvalidNumber" "TooMany" false) rfl), fun _ hz => by cases hz⟩, ⟨He.exm_ok (c.fact 107 (f := .exm "TooMany" "NumberError" false) rfl), He.exm_ok (c.fact 108 (f := .exm "TooMany" "InvalidRow" false) rfl), He.exm_ok (c.fact 109 (f := .exm "TooMany" "InvalidPoly" false) rfl), He.exm_ok (c.fact 110 (f := .exm "TooMany" "InvalidOperation" false) rfl), He.exm_ok (c.fact 111 (f := .exm "TooMany" "InvalidNumber" false) rfl), He.exm_ok (c.fact 112 (f := .exm "TooMany" "TooMany" true) rfl), fun _ hz => by cases hz⟩, fun _ hz => by cases hz⟩
theorem all_flds (X : K.In h) (G : h.Ns mainGlobals mg) (k : kts.all (PySem.MiX.ktB fl K) = true) : ∀ x f, exs.fld x = some f → FldOk Rw.prog K mg x f (He.ga K x) := by
  have kk := List.all_eq_true.mp k
  refine fld_each (cl := exl) (fl := exf) (sb := exb) ?_
  simp only [exf, List.forall_mem_cons]
  exact ⟨fld_ok (d := kt_InvalidNumber) X G PySem.MiX.base_IndexError (by kernel_rfl) (by kernel_rfl) (kk kt_InvalidNumber (by simp [kts])), fld_ok (d := kt_TooMany) X G PySem.MiX.base_OverflowError (by kernel_rfl) (by kernel_rfl) (kk kt_TooMany (by simp [kts])), fun _ hz => by cases hz⟩
end
/-- the defs, k calls deep -/
noncomputable abbrev F_is_whole (k : Nat) : Fn := fnAt cst blt exs 60 tab k d_is_whole
noncomputable abbrev F_is_short (k : Nat) : Fn := fnAt cst blt exs 60 tab k d_is_short
noncomputable abbrev F_is_within (k : Nat) : Fn := fnAt cst blt exs 60 tab k d_is_within
noncomputable abbrev F_is_short_from (k : Nat) : Fn := fnAt cst blt exs 60 tab k d_is_short_from
noncomputable abbrev F_require_short (k : Nat) : Fn := fnAt cst blt exs 60 tab k d_require_short
noncomputable abbrev F_require_from (k : Nat) : Fn := fnAt cst blt exs 60 tab k d_require_from
noncomputable abbrev F_require_within (k : Nat) : Fn := fnAt cst blt exs 60 tab k d_require_within
noncomputable abbrev F_require_modulus (k : Nat) : Fn := fnAt cst blt exs 60 tab k d_require_modulus
noncomputable abbrev F_raised (k : Nat) : Fn := fnAt cst blt exs 60 tab k d_raised
noncomputable abbrev F_raised_modulo (k : Nat) : Fn := fnAt cst blt exs 60 tab k d_raised_modulo
noncomputable abbrev F_euclid (k : Nat) : Fn := fnAt cst blt exs 60 tab k d_euclid
noncomputable abbrev F_divisor_of_two (k : Nat) : Fn := fnAt cst blt exs 60 tab k d_divisor_of_two
noncomputable abbrev F_undone (k : Nat) : Fn := fnAt cst blt exs 60 tab k d_undone
noncomputable abbrev F_parts_in (k : Nat) : Fn := fnAt cst blt exs 60 tab k d_parts_in
noncomputable abbrev F_does_make (k : Nat) : Fn := fnAt cst blt exs 60 tab k d_does_make
noncomputable abbrev F_prime_paper (k : Nat) : Fn := fnAt cst blt exs 60 tab k d_prime_paper
noncomputable abbrev F_parts_paper (k : Nat) : Fn := fnAt cst blt exs 60 tab k d_parts_paper
noncomputable abbrev F_phi_of_parts (k : Nat) : Fn := fnAt cst blt exs 60 tab k d_phi_of_parts
noncomputable abbrev F_units_number (k : Nat) : Fn := fnAt cst blt exs 60 tab k d_units_number
noncomputable abbrev F_require_unit (k : Nat) : Fn := fnAt cst blt exs 60 tab k d_require_unit
noncomputable abbrev F_order_within (k : Nat) : Fn := fnAt cst blt exs 60 tab k d_order_within
noncomputable abbrev F_order_of (k : Nat) : Fn := fnAt cst blt exs 60 tab k d_order_of
noncomputable abbrev F_order_answer (k : Nat) : Fn := fnAt cst blt exs 60 tab k d_order_answer
noncomputable abbrev F_least_generator (k : Nat) : Fn := fnAt cst blt exs 60 tab k d_least_generator
noncomputable abbrev F_own_generators (k : Nat) : Fn := fnAt cst blt exs 60 tab k d_own_generators
noncomputable abbrev F_residue_with (k : Nat) : Fn := fnAt cst blt exs 60 tab k d_residue_with
noncomputable abbrev F_generators_of (k : Nat) : Fn := fnAt cst blt exs 60 tab k d_generators_of
noncomputable abbrev F_units_answer (k : Nat) : Fn := fnAt cst blt exs 60 tab k d_units_answer
noncomputable abbrev F_exponent_to (k : Nat) : Fn := fnAt cst blt exs 60 tab k d_exponent_to
noncomputable abbrev F_part_exponents (k : Nat) : Fn := fnAt cst blt exs 60 tab k d_part_exponents
noncomputable abbrev F_exponents_of (k : Nat) : Fn := fnAt cst blt exs 60 tab k d_exponents_of
noncomputable abbrev F_unit_with (k : Nat) : Fn := fnAt cst blt exs 60 tab k d_unit_with
noncomputable abbrev F_group_of (k : Nat) : Fn := fnAt cst blt exs 60 tab k d_group_of
noncomputable abbrev F_greatest_order (k : Nat) : Fn := fnAt cst blt exs 60 tab k d_greatest_order
noncomputable abbrev F_order_count (k : Nat) : Fn := fnAt cst blt exs 60 tab k d_order_count
noncomputable abbrev F__law_dice (k : Nat) : Fn := fnAt cst blt exs 60 tab k d__law_dice
noncomputable abbrev F__law_up (k : Nat) : Fn := fnAt cst blt exs 60 tab k d__law_up
noncomputable abbrev F__law_pick (k : Nat) : Fn := fnAt cst blt exs 60 tab k d__law_pick
noncomputable abbrev F__law_gcd (k : Nat) : Fn := fnAt cst blt exs 60 tab k d__law_gcd
noncomputable abbrev F__law_is_whole (k : Nat) : Fn := fnAt cst blt exs 60 tab k d__law_is_whole
noncomputable abbrev F__law_met (k : Nat) : Fn := fnAt cst blt exs 60 tab k d__law_met
noncomputable abbrev F__law_is_short (k : Nat) : Fn := fnAt cst blt exs 60 tab k d__law_is_short
noncomputable abbrev F__law_due (k : Nat) : Fn := fnAt cst blt exs 60 tab k d__law_due
noncomputable abbrev F__law_odd (k : Nat) : Fn := fnAt cst blt exs 60 tab k d__law_odd
noncomputable abbrev F__law_right (k : Nat) : Fn := fnAt cst blt exs 60 tab k d__law_right
noncomputable abbrev F_law (k : Nat) : Fn := fnAt cst blt exs 60 tab k d_law
def deep : Nat := 26
/-- the table of defs, k calls deep -/
noncomputable def T_ (k : Nat) : Str → Option (List Bool × Fn) := fun x => (tab x).map fun e => (e.fl, fnAt cst blt exs 60 tab k e)
/-! ## what each def does, by the small semantics -/
def w__law_met : Wd := ⟨.drop, [⟨Str.ofString "InvalidNumber", (some 1), .one (.shown (Str.ofString "number "))⟩, ⟨Str.ofString "InvalidOperation", none, .one (.c (.str (Str.ofString "operation")))⟩, ⟨Str.ofString "InvalidRow", none, .one (.c (.str (Str.ofString "row")))⟩, ⟨Str.ofString "InvalidPoly", none, .one (.c (.str (Str.ofString "poly")))⟩, ⟨Str.ofString "TooMany", (some 1), .one (.shown (Str.ofString "many "))⟩], 2, (.str (Str.ofString "fine"))⟩
noncomputable def s_is_whole : Mm Fl :=
  mSeq (mRt (mAnd (mOp (opIsi "int") [.sl 0]) (mNot (mOp (opIsi "bool") [.sl 0]))))
  (mRet .nx)
noncomputable def b_is_whole : Fn := fun vs => if okFl [false] vs then runF 1 [false] (s_is_whole) vs else .stuck
theorem e_is_whole (k : Nat) : F_is_whole (k + 1) = b_is_whole := by kernel_rfl
noncomputable def s_is_short (g_is_whole : Fn) : Mm Fl :=
  mSeq (mRt (mAnd (mCall g_is_whole [(false, .sl 0)]) (mChain opLt opLt (.ex (mOp opNeg [.ex (mC (.int (10 ^ 60)))])) (.sl 0) (.ex (mC (.int (10 ^ 60)))))))
  (mRet .nx)
noncomputable def b_is_short (g_is_whole : Fn) : Fn := fun vs => if okFl [false] vs then runF 1 [false] (s_is_short g_is_whole) vs else .stuck
theorem e_is_short (k : Nat) : F_is_short (k + 1) = b_is_short (F_is_whole k) := by kernel_rfl
noncomputable def s_is_within (g_is_whole : Fn) : Mm Fl :=
  mSeq (mRt (mAnd (mCall g_is_whole [(false, .sl 0)]) (mChain opLe opLe (.sl 1) (.sl 0) (.sl 2))))
  (mRet .nx)
noncomputable def b_is_within (g_is_whole : Fn) : Fn := fun vs => if okFl [false, false, false] vs then runF 3 [false, false, false] (s_is_within g_is_whole) vs else .stuck
theorem e_is_within (k : Nat) : F_is_within (k + 1) = b_is_within (F_is_whole k) := by kernel_rfl
noncomputable def s_is_short_from (g_is_short : Fn) : Mm Fl :=
  mSeq (mRt (mAnd (mCall g_is_short [(false, .sl 0)]) (mOp opGe [.sl 0, .sl 1])))
  (mRet .nx)
noncomputable def b_is_short_from (g_is_short : Fn) : Fn := fun vs => if okFl [false, false] vs then runF 2 [false, false] (s_is_short_from g_is_short) vs else .stuck
theorem e_is_short_from (k : Nat) : F_is_short_from (k + 1) = b_is_short_from (F_is_short k) := by kernel_rfl
noncomputable def s_require_short (g_is_short : Fn) : Mm Fl :=
  mSeq (mIf (mNotT (mTest (mCall g_is_short [(false, .sl 0)]))) (mSeq (mRaiseF (Str.ofString "InvalidNumber") (mVar 0))
    (mRet .nx)) (mRet .nx))
  (mRet .nx)
noncomputable def b_require_short (g_is_short : Fn) : Fn := fun vs => if okFl [false] vs then runF 1 [false] (s_require_short g_is_short) vs else .stuck
theorem e_require_short (k : Nat) : F_require_short (k + 1) = b_require_short (F_is_short k) := by kernel_rfl
noncomputable def s_require_from (g_is_short_from : Fn) : Mm Fl :=
  mSeq (mIf (mNotT (mTest (mCall g_is_short_from [(false, .sl 0), (false, .sl 1)]))) (mSeq (mRaiseF (Str.ofString "InvalidNumber") (mVar 0))
    (mRet .nx)) (mRet .nx))
  (mRet .nx)
noncomputable def b_require_from (g_is_short_from : Fn) : Fn := fun vs => if okFl [false, false] vs then runF 2 [false, false] (s_require_from g_is_short_from) vs else .stuck
theorem e_require_from (k : Nat) : F_require_from (k + 1) = b_require_from (F_is_short_from k) := by kernel_rfl
noncomputable def s_require_within (g_is_within : Fn) : Mm Fl :=
  mSeq (mIf (mNotT (mTest (mCall g_is_within [(false, .sl 0), (false, .sl 1), (false, .sl 2)]))) (mSeq (mRaiseF (Str.ofString "InvalidNumber") (mVar 0))
    (mRet .nx)) (mRet .nx))
  (mRet .nx)
noncomputable def b_require_within (g_is_within : Fn) : Fn := fun vs => if okFl [false, false, false] vs then runF 3 [false, false, false] (s_require_within g_is_within) vs else .stuck
theorem e_require_within (k : Nat) : F_require_within (k + 1) = b_require_within (F_is_within k) := by kernel_rfl
noncomputable def s_require_modulus (g_require_within : Fn) : Mm Fl :=
  mSeq (mDrop (mCall g_require_within [(false, .sl 0), (false, .ex (mC (.int 1))), (false, .ex (mC (.int (10 ^ 6))))]))
  (mRet .nx)
noncomputable def b_require_modulus (g_require_within : Fn) : Fn := fun vs => if okFl [false] vs then runF 1 [false] (s_require_modulus g_require_within) vs else .stuck
theorem e_require_modulus (k : Nat) : F_require_modulus (k + 1) = b_require_modulus (F_require_within k) := by kernel_rfl
noncomputable def s_raised : Mm Fl :=
  mSeq (mPar [2, 3, 4] [mC (.int 1), mVar 0, mVar 1])
  (mSeq (mWhile (mTest (mOp opGt [.sl 4, .ex (mC (.int 0))])) (mSeq (mIf (mTest (mOp opEq [.ex (mOp opMod [.sl 4, .ex (mC (.int 2))]), .ex (mC (.int 1))])) (mSeq (mAsg 2 (mOp opMul [.sl 2, .sl 3]))
      (mRet .nx)) (mRet .nx))
    (mSeq (mAsg 4 (mOp opDiv [.sl 4, .ex (mC (.int 2))]))
    (mSeq (mAsg 3 (mIf (mTest (mOp opGt [.sl 4, .ex (mC (.int 0))])) (mOp opMul [.sl 3, .sl 3]) (mVar 3)))
    (mRet .nx)))))
  (mSeq (mRt (mMove 2))
  (mRet .nx)))
noncomputable def b_raised : Fn := fun vs => if okFl [false, false] vs then runF 5 [false, false] (s_raised) vs else .stuck
theorem e_raised (k : Nat) : F_raised (k + 1) = b_raised := by kernel_rfl
noncomputable def s_raised_modulo : Mm Fl :=
  mSeq (mPar [3, 4, 5] [mOp opMod [.ex (mC (.int 1)), .sl 2], mOp opMod [.sl 0, .sl 2], mVar 1])
  (mSeq (mWhile (mTest (mOp opGt [.sl 5, .ex (mC (.int 0))])) (mSeq (mIf (mTest (mOp opEq [.ex (mOp opMod [.sl 5, .ex (mC (.int 2))]), .ex (mC (.int 1))])) (mSeq (mAsg 3 (mOp opMod [.ex (mOp opMul [.sl 3, .sl 4]), .sl 2]))
      (mRet .nx)) (mRet .nx))
    (mSeq (mAsg 5 (mOp opDiv [.sl 5, .ex (mC (.int 2))]))
    (mSeq (mAsg 4 (mIf (mTest (mOp opGt [.sl 5, .ex (mC (.int 0))])) (mOp opMod [.ex (mOp opMul [.sl 4, .sl 4]), .sl 2]) (mVar 4)))
    (mRet .nx)))))
  (mSeq (mRt (mMove 3))
  (mRet .nx)))
noncomputable def b_raised_modulo : Fn := fun vs => if okFl [false, false, false] vs then runF 6 [false, false, false] (s_raised_modulo) vs else .stuck
theorem e_raised_modulo (k : Nat) : F_raised_modulo (k + 1) = b_raised_modulo := by kernel_rfl
noncomputable def s_euclid : Mm Fl :=
  mSeq (mPar [2, 3, 4] [mLst [mVar 0, mVar 1], mLst [mC (.int 1), mC (.int 0)], mLst [mC (.int 0), mC (.int 1)]])
  (mSeq (mWhile (mTest (mOp opNe [.ex (mOp opItem [.sl 2, .ex (mC (.int 1))]), .ex (mC (.int 0))])) (mSeq (mAsg 5 (mOp opDiv [.ex (mOp opItem [.sl 2, .ex (mC (.int 0))]), .ex (mOp opItem [.sl 2, .ex (mC (.int 1))])]))
    (mSeq (mAsg 2 (mLst [mOp opItem [.sl 2, .ex (mC (.int 1))], mOp opSub [.ex (mOp opItem [.sl 2, .ex (mC (.int 0))]), .ex (mOp opMul [.sl 5, .ex (mOp opItem [.sl 2, .ex (mC (.int 1))])])]]))
    (mSeq (mAsg 3 (mLst [mOp opItem [.sl 3, .ex (mC (.int 1))], mOp opSub [.ex (mOp opItem [.sl 3, .ex (mC (.int 0))]), .ex (mOp opMul [.sl 5, .ex (mOp opItem [.sl 3, .ex (mC (.int 1))])])]]))
    (mSeq (mAsg 4 (mLst [mOp opItem [.sl 4, .ex (mC (.int 1))], mOp opSub [.ex (mOp opItem [.sl 4, .ex (mC (.int 0))]), .ex (mOp opMul [.sl 5, .ex (mOp opItem [.sl 4, .ex (mC (.int 1))])])]]))
    (mRet .nx))))))
  (mSeq (mIf (mTest (mOp opLt [.ex (mOp opItem [.sl 2, .ex (mC (.int 0))]), .ex (mC (.int 0))])) (mSeq (mRt (mTup [mOp opNeg [.ex (mOp opItem [.sl 2, .ex (mC (.int 0))])], mOp opNeg [.ex (mOp opItem [.sl 3, .ex (mC (.int 0))])], mOp opNeg [.ex (mOp opItem [.sl 4, .ex (mC (.int 0))])]]))
    (mRet .nx)) (mRet .nx))
  (mSeq (mRt (mTup [mOp opItem [.sl 2, .ex (mC (.int 0))], mOp opItem [.sl 3, .ex (mC (.int 0))], mOp opItem [.sl 4, .ex (mC (.int 0))]]))
  (mRet .nx))))
noncomputable def b_euclid : Fn := fun vs => if okFl [false, false] vs then runF 6 [false, false] (s_euclid) vs else .stuck
theorem e_euclid (k : Nat) : F_euclid (k + 1) = b_euclid := by kernel_rfl
noncomputable def s_divisor_of_two (g_euclid : Fn) : Mm Fl :=
  mSeq (mRt (mOp opItem [.ex (mCall g_euclid [(false, .sl 0), (false, .sl 1)]), .ex (mC (.int 0))]))
  (mRet .nx)
noncomputable def b_divisor_of_two (g_euclid : Fn) : Fn := fun vs => if okFl [false, false] vs then runF 2 [false, false] (s_divisor_of_two g_euclid) vs else .stuck
theorem e_divisor_of_two (k : Nat) : F_divisor_of_two (k + 1) = b_divisor_of_two (F_euclid k) := by kernel_rfl
noncomputable def s_undone (g_euclid : Fn) : Mm Fl :=
  mSeq (mAsgT (.tp [.nm 2, .nm 3, .nm 4]) (mCall g_euclid [(false, .ex (mOp opMod [.sl 0, .sl 1])), (false, .sl 1)]))
  (mSeq (mRt (mIf (mTest (mOp opEq [.sl 2, .ex (mC (.int 1))])) (mOp opMod [.sl 3, .sl 1]) (mC .none)))
  (mRet .nx))
noncomputable def b_undone (g_euclid : Fn) : Fn := fun vs => if okFl [false, false] vs then runF 5 [false, false] (s_undone g_euclid) vs else .stuck
theorem e_undone (k : Nat) : F_undone (k + 1) = b_undone (F_euclid k) := by kernel_rfl
noncomputable def s_parts_in : Mm Fl :=
  mSeq (mPar [1, 2, 3] [mLst [], mVar 0, mC (.int (2))])
  (mSeq (mWhile (mTest (mOp opLe [.ex (mOp opMul [.sl 3, .sl 3]), .sl 2])) (mSeq (mAsg 4 (mC (.int 0)))
    (mSeq (mWhile (mTest (mOp opEq [.ex (mOp opMod [.sl 2, .sl 3]), .ex (mC (.int 0))])) (mSeq (mPar [2, 4] [mOp opDiv [.sl 2, .sl 3], mOp opAdd [.sl 4, .ex (mC (.int 1))]])
      (mRet .nx)))
    (mSeq (mIf (mTest (mOp opGt [.sl 4, .ex (mC (.int 0))])) (mSeq (mDrop (mApp 1 (mTup [mVar 3, mVar 4])))
      (mRet .nx)) (mRet .nx))
    (mSeq (mAsg 3 (mOp opAddI [.sl 3, .ex (mC (.int 1))]))
    (mRet .nx))))))
  (mSeq (mIf (mTest (mOp opGt [.sl 2, .ex (mC (.int 1))])) (mSeq (mDrop (mApp 1 (mTup [mVar 2, mC (.int 1)])))
    (mRet .nx)) (mRet .nx))
  (mSeq (mRt (mMove 1))
  (mRet .nx))))
noncomputable def b_parts_in : Fn := fun vs => if okFl [false] vs then runF 5 [false] (s_parts_in) vs else .stuck
theorem e_parts_in (k : Nat) : F_parts_in (k + 1) = b_parts_in := by kernel_rfl
noncomputable def s_does_make (g_raised_modulo : Fn) : Mm Fl :=
  mSeq (mRt (mOp opAll [.ex (mLc [3, 4] (.tp [.nm 3, .nm 4]) itAny [.sl 2] (mRet true) (mOp opNe [.ex (mCall g_raised_modulo [(false, .sl 1), (false, .ex (mOp opDiv [.ex (mOp opSub [.sl 0, .ex (mC (.int 1))]), .sl 3])), (false, .sl 0)]), .ex (mC (.int 1))]))]))
  (mRet .nx)
noncomputable def b_does_make (g_raised_modulo : Fn) : Fn := fun vs => if okFl [false, false, false] vs then runF 5 [false, false, false] (s_does_make g_raised_modulo) vs else .stuck
theorem e_does_make (k : Nat) : F_does_make (k + 1) = b_does_make (F_raised_modulo k) := by kernel_rfl
noncomputable def s_prime_paper (g_parts_in : Fn) (g_does_make : Fn) (g_prime_paper : Fn) : Mm Fl :=
  mSeq (mIf (mTest (mOp opEq [.sl 0, .ex (mC (.int (2)))])) (mSeq (mRt (mC .none))
    (mRet .nx)) (mRet .nx))
  (mSeq (mPar [1, 2] [mCall g_parts_in [(false, .ex (mOp opSub [.sl 0, .ex (mC (.int 1))]))], mC (.int (2))])
  (mSeq (mWhile (mNotT (mTest (mCall g_does_make [(false, .sl 0), (false, .sl 2), (false, .sl 1)]))) (mSeq (mAsg 2 (mOp opAddI [.sl 2, .ex (mC (.int 1))]))
    (mRet .nx)))
  (mSeq (mRt (mTup [mVar 2, mOp opTuple [.ex (mLc [3, 4] (.tp [.nm 3, .nm 4]) itAny [.sl 1] (mRet true) (mTup [mVar 3, mVar 4, mCall g_prime_paper [(false, .sl 3)]]))]]))
  (mRet .nx))))
noncomputable def b_prime_paper (g_parts_in : Fn) (g_does_make : Fn) (g_prime_paper : Fn) : Fn := fun vs => if okFl [false] vs then runF 5 [false] (s_prime_paper g_parts_in g_does_make g_prime_paper) vs else .stuck
theorem e_prime_paper (k : Nat) : F_prime_paper (k + 1) = b_prime_paper (F_parts_in k) (F_does_make k) (F_prime_paper k) := by kernel_rfl
noncomputable def s_parts_paper (g_parts_in : Fn) (g_prime_paper : Fn) : Mm Fl :=
  mSeq (mAsg 1 (mOp opTuple [.ex (mCall g_parts_in [(false, .sl 0)])]))
  (mSeq (mRt (mTup [mVar 1, mOp opTuple [.ex (mLc [2, 3] (.tp [.nm 2, .nm 3]) itAny [.sl 1] (mRet true) (mCall g_prime_paper [(false, .sl 2)]))]]))
  (mRet .nx))
noncomputable def b_parts_paper (g_parts_in : Fn) (g_prime_paper : Fn) : Fn := fun vs => if okFl [false] vs then runF 4 [false] (s_parts_paper g_parts_in g_prime_paper) vs else .stuck
theorem e_parts_paper (k : Nat) : F_parts_paper (k + 1) = b_parts_paper (F_parts_in k) (F_prime_paper k) := by kernel_rfl
noncomputable def s_phi_of_parts (g_raised : Fn) : Mm Fl :=
  mSeq (mAsg 1 (mC (.int 1)))
  (mSeq (mFor (.tp [.nm 2, .nm 3]) itAny [.sl 0] (mSeq (mAsg 1 (mOp opMul [.ex (mOp opMul [.sl 1, .ex (mCall g_raised [(false, .sl 2), (false, .ex (mOp opSub [.sl 3, .ex (mC (.int 1))]))])]), .ex (mOp opSub [.sl 2, .ex (mC (.int 1))])]))
    (mRet .nx)))
  (mSeq (mRt (mMove 1))
  (mRet .nx)))
noncomputable def b_phi_of_parts (g_raised : Fn) : Fn := fun vs => if okFl [false] vs then runF 4 [false] (s_phi_of_parts g_raised) vs else .stuck
theorem e_phi_of_parts (k : Nat) : F_phi_of_parts (k + 1) = b_phi_of_parts (F_raised k) := by kernel_rfl
noncomputable def s_units_number (g_raised : Fn) : Mm Fl :=
  mSeq (mRt (mOp opMul [.ex (mCall g_raised [(false, .sl 0), (false, .ex (mOp opSub [.sl 1, .ex (mC (.int 1))]))]), .ex (mOp opSub [.sl 0, .ex (mC (.int 1))])]))
  (mRet .nx)
noncomputable def b_units_number (g_raised : Fn) : Fn := fun vs => if okFl [false, false] vs then runF 2 [false, false] (s_units_number g_raised) vs else .stuck
theorem e_units_number (k : Nat) : F_units_number (k + 1) = b_units_number (F_raised k) := by kernel_rfl
noncomputable def s_require_unit (g_divisor_of_two : Fn) : Mm Fl :=
  mSeq (mIf (mTest (mOp opNe [.ex (mCall g_divisor_of_two [(false, .sl 0), (false, .sl 1)]), .ex (mC (.int 1))])) (mSeq (mRaise (Str.ofString "InvalidOperation") .none)
    (mRet .nx)) (mRet .nx))
  (mRet .nx)
noncomputable def b_require_unit (g_divisor_of_two : Fn) : Fn := fun vs => if okFl [false, false] vs then runF 2 [false, false] (s_require_unit g_divisor_of_two) vs else .stuck
theorem e_require_unit (k : Nat) : F_require_unit (k + 1) = b_require_unit (F_divisor_of_two k) := by kernel_rfl
noncomputable def s_order_within (g_raised_modulo : Fn) (g_parts_in : Fn) : Mm Fl :=
  mSeq (mAsg 3 (mVar 2))
  (mSeq (mFor (.tp [.nm 4, .nm 5]) itAny [.ex (mCall g_parts_in [(false, .sl 2)])] (mSeq (mWhile (mAndT (mTest (mOp opEq [.ex (mOp opMod [.sl 3, .sl 4]), .ex (mC (.int 0))])) (mTest (mOp opEq [.ex (mCall g_raised_modulo [(false, .sl 0), (false, .ex (mOp opDiv [.sl 3, .sl 4])), (false, .sl 1)]), .ex (mOp opMod [.ex (mC (.int 1)), .sl 1])]))) (mSeq (mAsg 3 (mOp opDiv [.sl 3, .sl 4]))
      (mRet .nx)))
    (mRet .nx)))
  (mSeq (mRt (mMove 3))
  (mRet .nx)))
noncomputable def b_order_within (g_raised_modulo : Fn) (g_parts_in : Fn) : Fn := fun vs => if okFl [false, false, false] vs then runF 6 [false, false, false] (s_order_within g_raised_modulo g_parts_in) vs else .stuck
theorem e_order_within (k : Nat) : F_order_within (k + 1) = b_order_within (F_raised_modulo k) (F_parts_in k) := by kernel_rfl
noncomputable def s_order_of (g_require_short : Fn) (g_require_modulus : Fn) (g_parts_in : Fn) (g_phi_of_parts : Fn) (g_require_unit : Fn) (g_order_within : Fn) : Mm Fl :=
  mSeq (mDrop (mCall g_require_short [(false, .sl 0)]))
  (mSeq (mDrop (mCall g_require_modulus [(false, .sl 1)]))
  (mSeq (mDrop (mCall g_require_unit [(false, .sl 0), (false, .sl 1)]))
  (mSeq (mRt (mCall g_order_within [(false, .sl 0), (false, .sl 1), (false, .ex (mCall g_phi_of_parts [(false, .ex (mCall g_parts_in [(false, .sl 1)]))]))]))
  (mRet .nx))))
noncomputable def b_order_of (g_require_short : Fn) (g_require_modulus : Fn) (g_parts_in : Fn) (g_phi_of_parts : Fn) (g_require_unit : Fn) (g_order_within : Fn) : Fn := fun vs => if okFl [false, false] vs then runF 2 [false, false] (s_order_of g_require_short g_require_modulus g_parts_in g_phi_of_parts g_require_unit g_order_within) vs else .stuck
theorem e_order_of (k : Nat) : F_order_of (k + 1) = b_order_of (F_require_short k) (F_require_modulus k) (F_parts_in k) (F_phi_of_parts k) (F_require_unit k) (F_order_within k) := by kernel_rfl
noncomputable def s_order_answer (g_parts_paper : Fn) (g_order_of : Fn) : Mm Fl :=
  mSeq (mAsg 2 (mCall g_order_of [(false, .sl 0), (false, .sl 1)]))
  (mSeq (mRt (mTup [mTup [mC (.str (Str.ofString "order")), mVar 1, mVar 0, mVar 2], mCall g_parts_paper [(false, .sl 2)]]))
  (mRet .nx))
noncomputable def b_order_answer (g_parts_paper : Fn) (g_order_of : Fn) : Fn := fun vs => if okFl [false, false] vs then runF 3 [false, false] (s_order_answer g_parts_paper g_order_of) vs else .stuck
theorem e_order_answer (k : Nat) : F_order_answer (k + 1) = b_order_answer (F_parts_paper k) (F_order_of k) := by kernel_rfl
noncomputable def s_least_generator (g_raised : Fn) (g_raised_modulo : Fn) (g_parts_in : Fn) (g_units_number : Fn) : Mm Fl :=
  mSeq (mPar [2, 3, 4] [mCall g_raised [(false, .sl 0), (false, .sl 1)], mCall g_units_number [(false, .sl 0), (false, .sl 1)], mC (.int 2)])
  (mSeq (mAsg 5 (mLc [6, 7] (.tp [.nm 6, .nm 7]) itAny [.ex (mCall g_parts_in [(false, .sl 3)])] (mRet true) (mOp opDiv [.sl 3, .sl 6])))
  (mSeq (mWhile (mOrT (mTest (mOp opEq [.ex (mOp opMod [.sl 4, .sl 0]), .ex (mC (.int 0))])) (mTest (mOp opIn [.ex (mC (.int 1)), .ex (mLc [8] (.nm 8) itAny [.sl 5] (mRet true) (mCall g_raised_modulo [(false, .sl 4), (false, .sl 8), (false, .sl 2)]))]))) (mSeq (mAsg 4 (mOp opAdd [.sl 4, .ex (mC (.int 1))]))
    (mRet .nx)))
  (mSeq (mRt (mMove 4))
  (mRet .nx))))
noncomputable def b_least_generator (g_raised : Fn) (g_raised_modulo : Fn) (g_parts_in : Fn) (g_units_number : Fn) : Fn := fun vs => if okFl [false, false] vs then runF 9 [false, false] (s_least_generator g_raised g_raised_modulo g_parts_in g_units_number) vs else .stuck
theorem e_least_generator (k : Nat) : F_least_generator (k + 1) = b_least_generator (F_raised k) (F_raised_modulo k) (F_parts_in k) (F_units_number k) := by kernel_rfl
noncomputable def s_own_generators (g_raised : Fn) (g_units_number : Fn) (g_least_generator : Fn) : Mm Fl :=
  mSeq (mIf (mTest (mOp opGt [.sl 0, .ex (mC (.int 2))])) (mSeq (mRt (mLst [mTup [mCall g_least_generator [(false, .sl 0), (false, .sl 1)], mCall g_units_number [(false, .sl 0), (false, .sl 1)]]]))
    (mRet .nx)) (mRet .nx))
  (mSeq (mIf (mTest (mOp opEq [.sl 1, .ex (mC (.int 1))])) (mSeq (mRt (mLst []))
    (mRet .nx)) (mRet .nx))
  (mSeq (mIf (mTest (mOp opEq [.sl 1, .ex (mC (.int 2))])) (mSeq (mRt (mLst [mTup [mC (.int 3), mC (.int 2)]]))
    (mRet .nx)) (mRet .nx))
  (mSeq (mRt (mLst [mTup [mOp opSub [.ex (mCall g_raised [(false, .ex (mC (.int 2))), (false, .sl 1)]), .ex (mC (.int 1))], mC (.int 2)], mTup [mC (.int 5), mCall g_raised [(false, .ex (mC (.int 2))), (false, .ex (mOp opSub [.sl 1, .ex (mC (.int 2))]))]]]))
  (mRet .nx))))
noncomputable def b_own_generators (g_raised : Fn) (g_units_number : Fn) (g_least_generator : Fn) : Fn := fun vs => if okFl [false, false] vs then runF 2 [false, false] (s_own_generators g_raised g_units_number g_least_generator) vs else .stuck
theorem e_own_generators (k : Nat) : F_own_generators (k + 1) = b_own_generators (F_raised k) (F_units_number k) (F_least_generator k) := by kernel_rfl
noncomputable def s_residue_with (g_undone : Fn) : Mm Fl :=
  mSeq (mAsg 3 (mOp opDiv [.sl 2, .sl 0]))
  (mSeq (mRt (mOp opMod [.ex (mOp opAdd [.ex (mC (.int 1)), .ex (mOp opMul [.sl 3, .ex (mOp opMod [.ex (mOp opMul [.ex (mOp opSub [.sl 1, .ex (mC (.int 1))]), .ex (mCall g_undone [(false, .sl 3), (false, .sl 0)])]), .sl 0])])]), .sl 2]))
  (mRet .nx))
noncomputable def b_residue_with (g_undone : Fn) : Fn := fun vs => if okFl [false, false, false] vs then runF 4 [false, false, false] (s_residue_with g_undone) vs else .stuck
theorem e_residue_with (k : Nat) : F_residue_with (k + 1) = b_residue_with (F_undone k) := by kernel_rfl
noncomputable def s_generators_of (g_require_modulus : Fn) (g_raised : Fn) (g_parts_in : Fn) (g_own_generators : Fn) (g_residue_with : Fn) : Mm Fl :=
  mSeq (mDrop (mCall g_require_modulus [(false, .sl 0)]))
  (mSeq (mAsg 1 (mLst []))
  (mSeq (mFor (.tp [.nm 2, .nm 3]) itAny [.ex (mCall g_parts_in [(false, .sl 0)])] (mSeq (mAsg 1 (mOp opAdd [.sl 1, .ex (mLc [4, 5] (.tp [.nm 4, .nm 5]) itAny [.ex (mCall g_own_generators [(false, .sl 2), (false, .sl 3)])] (mRet true) (mTup [mCall g_residue_with [(false, .ex (mCall g_raised [(false, .sl 2), (false, .sl 3)])), (false, .sl 4), (false, .sl 0)], mVar 5]))]))
    (mRet .nx)))
  (mSeq (mRt (mOp opTuple [.sl 1]))
  (mRet .nx))))
noncomputable def b_generators_of (g_require_modulus : Fn) (g_raised : Fn) (g_parts_in : Fn) (g_own_generators : Fn) (g_residue_with : Fn) : Fn := fun vs => if okFl [false] vs then runF 6 [false] (s_generators_of g_require_modulus g_raised g_parts_in g_own_generators g_residue_with) vs else .stuck
theorem e_generators_of (k : Nat) : F_generators_of (k + 1) = b_generators_of (F_require_modulus k) (F_raised k) (F_parts_in k) (F_own_generators k) (F_residue_with k) := by kernel_rfl
noncomputable def s_units_answer (g_parts_paper : Fn) (g_generators_of : Fn) : Mm Fl :=
  mSeq (mAsg 1 (mCall g_generators_of [(false, .sl 0)]))
  (mSeq (mRt (mTup [mTup [mC (.str (Str.ofString "units")), mVar 0, mVar 1], mTup [mCall g_parts_paper [(false, .sl 0)], mOp opTuple [.ex (mLc [2, 3] (.tp [.nm 2, .nm 3]) itAny [.sl 1] (mRet true) (mCall g_parts_paper [(false, .sl 3)]))]]]))
  (mRet .nx))
noncomputable def b_units_answer (g_parts_paper : Fn) (g_generators_of : Fn) : Fn := fun vs => if okFl [false] vs then runF 4 [false] (s_units_answer g_parts_paper g_generators_of) vs else .stuck
theorem e_units_answer (k : Nat) : F_units_answer (k + 1) = b_units_answer (F_parts_paper k) (F_generators_of k) := by kernel_rfl
noncomputable def s_exponent_to : Mm Fl :=
  mSeq (mPar [3, 4] [mOp opMod [.ex (mC (.int 1)), .sl 2], mC (.int 0)])
  (mSeq (mWhile (mTest (mOp opNe [.sl 3, .sl 1])) (mSeq (mPar [3, 4] [mOp opMod [.ex (mOp opMul [.sl 3, .sl 0]), .sl 2], mOp opAdd [.sl 4, .ex (mC (.int 1))]])
    (mRet .nx)))
  (mSeq (mRt (mMove 4))
  (mRet .nx)))
noncomputable def b_exponent_to : Fn := fun vs => if okFl [false, false, false] vs then runF 5 [false, false, false] (s_exponent_to) vs else .stuck
theorem e_exponent_to (k : Nat) : F_exponent_to (k + 1) = b_exponent_to := by kernel_rfl
noncomputable def s_part_exponents (g_raised : Fn) (g_least_generator : Fn) (g_exponent_to : Fn) : Mm Fl :=
  mSeq (mAsg 3 (mCall g_raised [(false, .sl 0), (false, .sl 1)]))
  (mSeq (mIf (mTest (mOp opGt [.sl 0, .ex (mC (.int 2))])) (mSeq (mRt (mLst [mCall g_exponent_to [(false, .ex (mCall g_least_generator [(false, .sl 0), (false, .sl 1)])), (false, .ex (mOp opMod [.sl 2, .sl 3])), (false, .sl 3)]]))
    (mRet .nx)) (mRet .nx))
  (mSeq (mIf (mTest (mOp opLt [.sl 1, .ex (mC (.int 3))])) (mSeq (mRt (mIf (mTest (mOp opEq [.sl 1, .ex (mC (.int 1))])) (mLst []) (mLst [mOp opDiv [.ex (mOp opMod [.sl 2, .ex (mC (.int 4))]), .ex (mC (.int 2))]])))
    (mRet .nx)) (mRet .nx))
  (mSeq (mAsg 4 (mOp opDiv [.ex (mOp opMod [.sl 2, .ex (mC (.int 4))]), .ex (mC (.int 2))]))
  (mSeq (mRt (mLst [mVar 4, mCall g_exponent_to [(false, .ex (mC (.int 5))), (false, .ex (mOp opMod [.ex (mIf (mTest (mOp opEq [.sl 4, .ex (mC (.int 1))])) (mOp opSub [.sl 3, .sl 2]) (mVar 2)), .sl 3])), (false, .sl 3)]]))
  (mRet .nx)))))
noncomputable def b_part_exponents (g_raised : Fn) (g_least_generator : Fn) (g_exponent_to : Fn) : Fn := fun vs => if okFl [false, false, false] vs then runF 5 [false, false, false] (s_part_exponents g_raised g_least_generator g_exponent_to) vs else .stuck
theorem e_part_exponents (k : Nat) : F_part_exponents (k + 1) = b_part_exponents (F_raised k) (F_least_generator k) (F_exponent_to k) := by kernel_rfl
noncomputable def s_exponents_of (g_require_short : Fn) (g_require_within : Fn) (g_parts_in : Fn) (g_require_unit : Fn) (g_part_exponents : Fn) : Mm Fl :=
  mSeq (mDrop (mCall g_require_short [(false, .sl 0)]))
  (mSeq (mDrop (mCall g_require_within [(false, .sl 1), (false, .ex (mC (.int 1))), (false, .ex (mC (.int (20000))))]))
  (mSeq (mDrop (mCall g_require_unit [(false, .sl 0), (false, .sl 1)]))
  (mSeq (mAsg 2 (mLst []))
  (mSeq (mFor (.tp [.nm 3, .nm 4]) itAny [.ex (mCall g_parts_in [(false, .sl 1)])] (mSeq (mAsg 2 (mOp opAdd [.sl 2, .ex (mCall g_part_exponents [(false, .sl 3), (false, .sl 4), (false, .sl 0)])]))
    (mRet .nx)))
  (mSeq (mRt (mOp opTuple [.sl 2]))
  (mRet .nx))))))
noncomputable def b_exponents_of (g_require_short : Fn) (g_require_within : Fn) (g_parts_in : Fn) (g_require_unit : Fn) (g_part_exponents : Fn) : Fn := fun vs => if okFl [false, false] vs then runF 5 [false, false] (s_exponents_of g_require_short g_require_within g_parts_in g_require_unit g_part_exponents) vs else .stuck
theorem e_exponents_of (k : Nat) : F_exponents_of (k + 1) = b_exponents_of (F_require_short k) (F_require_within k) (F_parts_in k) (F_require_unit k) (F_part_exponents k) := by kernel_rfl
noncomputable def s_unit_with (g_is_short : Fn) (g_require_within : Fn) (g_raised_modulo : Fn) (g_generators_of : Fn) : Mm Fl :=
  mSeq (mDrop (mCall g_require_within [(false, .sl 0), (false, .ex (mC (.int 1))), (false, .ex (mC (.int (20000))))]))
  (mSeq (mAsg 2 (mCall g_generators_of [(false, .sl 0)]))
  (mSeq (mIf (mOrT (mNotT (mTest (mOp (opIsi "tuple") [.sl 1]))) (mOrT (mTest (mOp opNe [.ex (mOp opLen [.sl 1]), .ex (mOp opLen [.sl 2])])) (mNotT (mTest (mOp opAll [.ex (mLc [3] (.nm 3) itAny [.sl 1] (mRet true) (mCall g_is_short [(false, .sl 3)]))]))))) (mSeq (mRaise (Str.ofString "InvalidRow") .none)
    (mRet .nx)) (mRet .nx))
  (mSeq (mAsg 4 (mOp opMod [.ex (mC (.int 1)), .sl 0]))
  (mSeq (mFor (.tp [.tp [.nm 5, .nm 6], .nm 7]) itZip [.sl 2, .sl 1] (mSeq (mAsg 4 (mOp opMod [.ex (mOp opMul [.sl 4, .ex (mCall g_raised_modulo [(false, .sl 5), (false, .ex (mOp opMod [.sl 7, .sl 6])), (false, .sl 0)])]), .sl 0]))
    (mRet .nx)))
  (mSeq (mRt (mMove 4))
  (mRet .nx))))))
noncomputable def b_unit_with (g_is_short : Fn) (g_require_within : Fn) (g_raised_modulo : Fn) (g_generators_of : Fn) : Fn := fun vs => if okFl [false, false] vs then runF 8 [false, false] (s_unit_with g_is_short g_require_within g_raised_modulo g_generators_of) vs else .stuck
theorem e_unit_with (k : Nat) : F_unit_with (k + 1) = b_unit_with (F_is_short k) (F_require_within k) (F_raised_modulo k) (F_generators_of k) := by kernel_rfl
noncomputable def s_group_of (g_raised : Fn) (g_parts_in : Fn) (g_generators_of : Fn) : Mm Fl :=
  mSeq (mAsg 1 (mDct0))
  (mSeq (mFor (.tp [.nm 2, .nm 3]) itAny [.ex (mCall g_generators_of [(false, .sl 0)])] (mSeq (mFor (.tp [.nm 4, .nm 5]) itAny [.ex (mCall g_parts_in [(false, .sl 3)])] (mSeq (mPut 1 (.sl 4) (mOp opAdd [.ex (mGet 1 (.sl 4) (mLst [])), .ex (mLst [mCall g_raised [(false, .sl 4), (false, .sl 5)]])]))
      (mRet .nx)))
    (mRet .nx)))
  (mSeq (mAsg 6 (mLst []))
  (mSeq (mFor (.nm 4) itAny [.ex (mOp opSorted [.sl 1])] (mSeq (mFor (.tp [.nm 7, .nm 8]) itEnum [.ex (mOp opRev [.ex (mOp opSorted [.ex (mOp opItem [.sl 1, .sl 4])])])] (mSeq (mIf (mTest (mOp opEq [.sl 7, .ex (mOp opLen [.sl 6])])) (mSeq (mDrop (mApp 6 (mC (.int 1))))
        (mRet .nx)) (mRet .nx))
      (mSeq (mPut 6 (.sl 7) (mOp opMul [.ex (mOp opItem [.sl 6, .sl 7]), .sl 8]))
      (mRet .nx))))
    (mRet .nx)))
  (mSeq (mRt (mOp opTuple [.ex (mOp opRev [.sl 6])]))
  (mRet .nx)))))
noncomputable def b_group_of (g_raised : Fn) (g_parts_in : Fn) (g_generators_of : Fn) : Fn := fun vs => if okFl [false] vs then runF 9 [false] (s_group_of g_raised g_parts_in g_generators_of) vs else .stuck
theorem e_group_of (k : Nat) : F_group_of (k + 1) = b_group_of (F_raised k) (F_parts_in k) (F_generators_of k) := by kernel_rfl
noncomputable def s_greatest_order (g_group_of : Fn) : Mm Fl :=
  mSeq (mAsg 1 (mCall g_group_of [(false, .sl 0)]))
  (mSeq (mRt (mIf (mTest (mOp opNe [.sl 1, .ex (mTup [])])) (mOp opItem [.sl 1, .ex (mOp opNeg [.ex (mC (.int 1))])]) (mC (.int 1))))
  (mRet .nx))
noncomputable def b_greatest_order (g_group_of : Fn) : Fn := fun vs => if okFl [false] vs then runF 2 [false] (s_greatest_order g_group_of) vs else .stuck
theorem e_greatest_order (k : Nat) : F_greatest_order (k + 1) = b_greatest_order (F_group_of k) := by kernel_rfl
noncomputable def s_order_count (g_require_from : Fn) (g_require_modulus : Fn) (g_raised : Fn) (g_divisor_of_two : Fn) (g_parts_in : Fn) (g_group_of : Fn) (g_greatest_order : Fn) : Mm Fl :=
  mSeq (mDrop (mCall g_require_modulus [(false, .sl 0)]))
  (mSeq (mDrop (mCall g_require_from [(false, .sl 1), (false, .ex (mC (.int 1)))]))
  (mSeq (mAsg 2 (mCall g_group_of [(false, .sl 0)]))
  (mSeq (mIf (mTest (mOp opNe [.ex (mOp opMod [.ex (mCall g_greatest_order [(false, .sl 0)]), .sl 1]), .ex (mC (.int 0))])) (mSeq (mRt (mC (.int 0)))
    (mRet .nx)) (mRet .nx))
  (mSeq (mAsg 3 (mC (.int 1)))
  (mSeq (mFor (.tp [.nm 4, .nm 5]) itAny [.ex (mCall g_parts_in [(false, .sl 1)])] (mSeq (mAsgT (.tp [.nm 6, .nm 7]) (mTup [mC (.int 1), mC (.int 1)]))
    (mSeq (mFor (.nm 8) itAny [.sl 2] (mSeq (mAsg 6 (mOp opMul [.sl 6, .ex (mCall g_divisor_of_two [(false, .sl 8), (false, .ex (mCall g_raised [(false, .sl 4), (false, .sl 5)]))])]))
      (mSeq (mAsg 7 (mOp opMul [.sl 7, .ex (mCall g_divisor_of_two [(false, .sl 8), (false, .ex (mCall g_raised [(false, .sl 4), (false, .ex (mOp opSub [.sl 5, .ex (mC (.int 1))]))]))])]))
      (mRet .nx))))
    (mSeq (mAsg 3 (mOp opMul [.sl 3, .ex (mOp opSub [.sl 6, .sl 7])]))
    (mRet .nx)))))
  (mSeq (mRt (mMove 3))
  (mRet .nx)))))))
noncomputable def b_order_count (g_require_from : Fn) (g_require_modulus : Fn) (g_raised : Fn) (g_divisor_of_two : Fn) (g_parts_in : Fn) (g_group_of : Fn) (g_greatest_order : Fn) : Fn := fun vs => if okFl [false, false] vs then runF 9 [false, false] (s_order_count g_require_from g_require_modulus g_raised g_divisor_of_two g_parts_in g_group_of g_greatest_order) vs else .stuck
theorem e_order_count (k : Nat) : F_order_count (k + 1) = b_order_count (F_require_from k) (F_require_modulus k) (F_raised k) (F_divisor_of_two k) (F_parts_in k) (F_group_of k) (F_greatest_order k) := by kernel_rfl
noncomputable def s__law_dice : Mm Fl :=
  mSeq (mAsg 2 (mIf (mTest (mOp opLt [.sl 1, .ex (mOp opLen [.sl 0])])) (mOp opInt [.ex (mOp opItem [.sl 0, .sl 1])]) (mOp opAdd [.ex (mOp opMul [.ex (mC (.int 67)), .sl 1]), .ex (mC (.int 29))])))
  (mSeq (mAsg 3 (mOp opMod [.ex (mOp opInt [.ex (mOp opAbs [.sl 2])]), .ex (mOp opPow [.ex (mOp opPow [.ex (mC (.int 10)), .ex (mC (.int 60))]), .ex (mC (.int 8))])]))
  (mSeq (mAsg 4 (mOp opAdd [.ex (mOp opAdd [.ex (mOp opAdd [.ex (mOp opMul [.ex (mOp opMod [.ex (mOp opInt [.sl 3]), .ex (mC (.int 2305843009213693907))]), .ex (mC (.int 8191))]), .ex (mOp opMul [.ex (mC (.int 4099)), .sl 1])]), .ex (mOp opMul [.ex (mC (.int 43)), .ex (mOp opInt [.ex (mOp opLt [.sl 2, .ex (mC (.int 0))])])])]), .ex (mC (.int 11))]))
  (mSeq (mRt (mLst [mOp opMax [.ex (mC (.int 0)), .ex (mOp opSub [.sl 3, .ex (mOp opPow [.ex (mC (.int 10)), .ex (mC (.int 18))])])], mOp opMod [.ex (mOp opInt [.sl 4]), .ex (mC (.int 2305843009213693907))], mC (.int 0)]))
  (mRet .nx))))
noncomputable def b__law_dice : Fn := fun vs => if okFl [false, false] vs then runF 5 [false, false] (s__law_dice) vs else .stuck
theorem e__law_dice (k : Nat) : F__law_dice (k + 1) = b__law_dice := by kernel_rfl
noncomputable def s__law_up : Mm Fl :=
  mSeq (mIf (mTest (mOp opGt [.ex (mOp opItem [.sl 0, .ex (mC (.int 0))]), .ex (mC (.int 0))])) (mSeq (mAsg 2 (mOp opMod [.ex (mOp opInt [.ex (mOp opItem [.sl 0, .ex (mC (.int 0))])]), .sl 1]))
    (mSeq (mPut 0 (.ex (mC (.int 0))) (mOp opDiv [.ex (mOp opItem [.sl 0, .ex (mC (.int 0))]), .sl 1]))
    (mSeq (mRt (mMove 2))
    (mRet .nx)))) (mRet .nx))
  (mSeq (mPut 0 (.ex (mC (.int 2))) (mOp opAdd [.ex (mOp opItem [.sl 0, .ex (mC (.int 2))]), .ex (mC (.int 1))]))
  (mSeq (mPut 0 (.ex (mC (.int 1))) (mOp opMod [.ex (mOp opInt [.ex (mOp opAdd [.ex (mOp opAdd [.ex (mOp opMul [.ex (mOp opItem [.sl 0, .ex (mC (.int 1))]), .ex (mC (.int 48271))]), .ex (mOp opMul [.ex (mC (.int 7919)), .ex (mOp opItem [.sl 0, .ex (mC (.int 2))])])]), .ex (mC (.int 13))])]), .ex (mC (.int 2305843009213693907))]))
  (mSeq (mRt (mOp opMod [.ex (mOp opInt [.ex (mOp opDiv [.ex (mOp opItem [.sl 0, .ex (mC (.int 1))]), .ex (mC (.int 1024))])]), .sl 1]))
  (mRet .nx))))
noncomputable def b__law_up : Fn := fun vs => if okFl [true, false] vs then runF 3 [true, false] (s__law_up) vs else .stuck
theorem e__law_up (k : Nat) : F__law_up (k + 1) = b__law_up := by kernel_rfl
noncomputable def s__law_pick (g__law_up : Fn) : Mm Fl :=
  mSeq (mRt (mOp opItem [.sl 1, .ex (mCall g__law_up [(true, .sl 0), (false, .ex (mOp opLen [.sl 1]))])]))
  (mRet .nx)
noncomputable def b__law_pick (g__law_up : Fn) : Fn := fun vs => if okFl [true, false] vs then runF 2 [true, false] (s__law_pick g__law_up) vs else .stuck
theorem e__law_pick (k : Nat) : F__law_pick (k + 1) = b__law_pick (F__law_up k) := by kernel_rfl
noncomputable def s__law_gcd : Mm Fl :=
  mSeq (mPar [2, 3] [mOp opAbs [.sl 0], mOp opAbs [.sl 1]])
  (mSeq (mWhile (mTest (mOp opGt [.sl 3, .ex (mC (.int 0))])) (mSeq (mPar [2, 3] [mVar 3, mOp opMod [.ex (mOp opInt [.sl 2]), .sl 3]])
    (mRet .nx)))
  (mSeq (mRt (mMove 2))
  (mRet .nx)))
noncomputable def b__law_gcd : Fn := fun vs => if okFl [false, false] vs then runF 4 [false, false] (s__law_gcd) vs else .stuck
theorem e__law_gcd (k : Nat) : F__law_gcd (k + 1) = b__law_gcd := by kernel_rfl
noncomputable def s__law_is_whole : Mm Fl :=
  mSeq (mRt (mAnd (mOp (opIsi "int") [.sl 0]) (mNot (mOp (opIsi "bool") [.sl 0]))))
  (mRet .nx)
noncomputable def b__law_is_whole : Fn := fun vs => if okFl [false] vs then runF 1 [false] (s__law_is_whole) vs else .stuck
theorem e__law_is_whole (k : Nat) : F__law_is_whole (k + 1) = b__law_is_whole := by kernel_rfl
noncomputable def s__law_met : Mm Fl :=
  mSeq (mTryC exs [⟨Str.ofString "InvalidNumber", (some 1), .one (.shown (Str.ofString "number "))⟩, ⟨Str.ofString "InvalidOperation", none, .one (.c (.str (Str.ofString "operation")))⟩, ⟨Str.ofString "InvalidRow", none, .one (.c (.str (Str.ofString "row")))⟩, ⟨Str.ofString "InvalidPoly", none, .one (.c (.str (Str.ofString "poly")))⟩, ⟨Str.ofString "TooMany", (some 1), .one (.shown (Str.ofString "many "))⟩] (mSeq (mDrop (mStuck))
    (mRet .nx)))
  (mSeq (mRt (mC (.str (Str.ofString "fine"))))
  (mRet .nx))
noncomputable def b__law_met : Fn := fun vs => if okFl [false] vs then runF 2 [false] (s__law_met) vs else .stuck
theorem e__law_met (k : Nat) : F__law_met (k + 1) = b__law_met := by kernel_rfl
noncomputable def s__law_is_short (g__law_is_whole : Fn) : Mm Fl :=
  mSeq (mRt (mAnd (mCall g__law_is_whole [(false, .sl 0)]) (mOp opLt [.ex (mOp opAbs [.sl 0]), .ex (mOp opPow [.ex (mC (.int 10)), .ex (mC (.int 60))])])))
  (mRet .nx)
noncomputable def b__law_is_short (g__law_is_whole : Fn) : Fn := fun vs => if okFl [false] vs then runF 1 [false] (s__law_is_short g__law_is_whole) vs else .stuck
theorem e__law_is_short (k : Nat) : F__law_is_short (k + 1) = b__law_is_short (F__law_is_whole k) := by kernel_rfl
noncomputable def s__law_due : Mm Fl :=
  mSeq (mAsg 1 (mLc [2, 3] (.tp [.nm 2, .nm 3]) itAny [.sl 0] (mNotT (mTest (mVar 3))) (mVar 2)))
  (mSeq (mRt (mIf (mTest (mOp opNe [.sl 1, .ex (mLst [])])) (mOp opItem [.sl 1, .ex (mC (.int 0))]) (mC (.str (Str.ofString "fine")))))
  (mRet .nx))
noncomputable def b__law_due : Fn := fun vs => if okFl [false] vs then runF 4 [false] (s__law_due) vs else .stuck
theorem e__law_due (k : Nat) : F__law_due (k + 1) = b__law_due := by kernel_rfl
noncomputable def s__law_odd (g__law_pick : Fn) : Mm Fl :=
  mSeq (mAsg 1 (mLst [mC .none, mC (.bool true), mC (.bool false), mC (.str (Str.ofString "7")), mTup [mC (.int 7)], mLst [mC (.int 7)], mDct0, mOp opPow [.ex (mC (.int 10)), .ex (mC (.int 60))], mOp opNeg [.ex (mOp opPow [.ex (mC (.int 10)), .ex (mC (.int 60))])], mOp opMul [.ex (mOp opPow [.ex (mC (.int 10)), .ex (mC (.int 60))]), .ex (mOp opPow [.ex (mC (.int 10)), .ex (mC (.int 60))])], mC (.int 0), mOp opNeg [.ex (mC (.int 1))]]))
  (mSeq (mAsg 1 (mOp opAdd [.sl 1, .ex (mLst [mOp opPow [.ex (mC (.int 10)), .ex (mC (.int 6))], mOp opAdd [.ex (mOp opPow [.ex (mC (.int 10)), .ex (mC (.int 6))]), .ex (mC (.int 1))]])]))
  (mSeq (mRt (mCall g__law_pick [(true, .sl 0), (false, .ex (mOp opAdd [.sl 1, .ex (mLst [mC (.int 20000), mC (.int 20001), mC (.int 1), mC (.int 2), mC (.int 15), mOp opPow [.ex (mC (.int 10)), .ex (mC (.int 59))], mOp opNeg [.ex (mOp opPow [.ex (mC (.int 10)), .ex (mC (.int 59))])], mC (.int 24)])]))]))
  (mRet .nx)))
noncomputable def b__law_odd (g__law_pick : Fn) : Fn := fun vs => if okFl [true] vs then runF 2 [true] (s__law_odd g__law_pick) vs else .stuck
theorem e__law_odd (k : Nat) : F__law_odd (k + 1) = b__law_odd (F__law_pick k) := by kernel_rfl
noncomputable def s__law_right (g_generators_of : Fn) (g_exponents_of : Fn) (g_unit_with : Fn) (g_order_count : Fn) (g__law_pick : Fn) (g__law_gcd : Fn) (g__law_is_short : Fn) (g__law_due : Fn) (g__law_odd : Fn) (g_tab : Str → Option (List Bool × Fn)) : Mm Fl :=
  mSeq (mPar [1, 2] [mCall g__law_odd [(true, .sl 0)], mCall g__law_odd [(true, .sl 0)]])
  (mSeq (mAsg 3 (mAnd (mCall g__law_is_short [(false, .sl 2)]) (mChain opLe opLe (.ex (mC (.int 1))) (.sl 2) (.ex (mOp opPow [.ex (mC (.int 10)), .ex (mC (.int 6))])))))
  (mSeq (mAsg 4 (mAnd (mVar 3) (mOp opLe [.sl 2, .ex (mC (.int 20000))])))
  (mSeq (mAsg 5 (mAnd (mCall g__law_is_short [(false, .sl 1)]) (mAnd (mVar 3) (mOp opEq [.ex (mCall g__law_gcd [(false, .sl 1), (false, .sl 2)]), .ex (mC (.int 1))]))))
  (mSeq (mAsg 6 (mLst [mTup [mOp opAdd [.ex (mC (.str (Str.ofString "number "))), .ex (mOp opRepr [.sl 1])], mCall g__law_is_short [(false, .sl 1)]], mTup [mOp opAdd [.ex (mC (.str (Str.ofString "number "))), .ex (mOp opRepr [.sl 2])], mVar 3], mTup [mC (.str (Str.ofString "operation")), mVar 5]]))
  (mSeq (mFor (.nm 7) itAny [.ex (mTup [mC (fnD (Str.ofString "order_of")), mC (fnD (Str.ofString "order_answer"))])] (mSeq (mIf (mTest (mOp opNe [.ex (mWord exs w__law_met (mCallV 7 g_tab [.sl 1, .sl 2])), .ex (mCall g__law_due [(false, .sl 6)])])) (mSeq (mRt (mC (.bool false)))
      (mRet .nx)) (mRet .nx))
    (mRet .nx)))
  (mSeq (mAsg 6 (mLst [mOp opItem [.sl 6, .ex (mC (.int 0))], mTup [mOp opAdd [.ex (mC (.str (Str.ofString "number "))), .ex (mOp opRepr [.sl 2])], mVar 4], mOp opItem [.sl 6, .ex (mC (.int 2))]]))
  (mSeq (mIf (mTest (mOp opNe [.ex (mWord exs w__law_met (mCall g_exponents_of [(false, .sl 1), (false, .sl 2)])), .ex (mCall g__law_due [(false, .sl 6)])])) (mSeq (mRt (mC (.bool false)))
    (mRet .nx)) (mRet .nx))
  (mSeq (mFor (.nm 7) itAny [.ex (mTup [mC (fnD (Str.ofString "generators_of")), mC (fnD (Str.ofString "units_answer")), mC (fnD (Str.ofString "group_of")), mC (fnD (Str.ofString "greatest_order"))])] (mSeq (mIf (mTest (mOp opNe [.ex (mWord exs w__law_met (mCallV 7 g_tab [.sl 2])), .ex (mCall g__law_due [(false, .ex (mLst [mTup [mOp opAdd [.ex (mC (.str (Str.ofString "number "))), .ex (mOp opRepr [.sl 2])], mVar 3]]))])])) (mSeq (mRt (mC (.bool false)))
      (mRet .nx)) (mRet .nx))
    (mRet .nx)))
  (mSeq (mAsg 8 (mCall g__law_odd [(true, .sl 0)]))
  (mSeq (mAsg 6 (mLst [mTup [mOp opAdd [.ex (mC (.str (Str.ofString "number "))), .ex (mOp opRepr [.sl 2])], mVar 3], mTup [mOp opAdd [.ex (mC (.str (Str.ofString "number "))), .ex (mOp opRepr [.sl 8])], mAnd (mCall g__law_is_short [(false, .sl 8)]) (mOp opGe [.sl 8, .ex (mC (.int 1))])]]))
  (mSeq (mIf (mTest (mOp opNe [.ex (mWord exs w__law_met (mCall g_order_count [(false, .sl 2), (false, .sl 8)])), .ex (mCall g__law_due [(false, .sl 6)])])) (mSeq (mRt (mC (.bool false)))
    (mRet .nx)) (mRet .nx))
  (mSeq (mAsg 9 (mIf (mTest (mVar 4)) (mOp opLen [.ex (mCall g_generators_of [(false, .sl 2)])]) (mC (.int 0))))
  (mSeq (mAsg 10 (mLst [mTup [], mOp opMul [.ex (mTup [mC (.int 0)]), .sl 9], mOp opMul [.ex (mTup [mOp opPow [.ex (mC (.int 10)), .ex (mC (.int 59))]]), .sl 9], mOp opMul [.ex (mTup [mOp opPow [.ex (mC (.int 10)), .ex (mC (.int 60))]]), .sl 9], mOp opMul [.ex (mTup [mC (.bool true)]), .sl 9], mOp opMul [.ex (mLst [mC (.int 0)]), .sl 9], mC .none]))
  (mSeq (mAsg 11 (mCall g__law_pick [(true, .sl 0), (false, .ex (mOp opAdd [.sl 10, .ex (mLst [mOp opMul [.ex (mTup [mC (.int 0)]), .ex (mOp opAdd [.sl 9, .ex (mC (.int 1))])]])]))]))
  (mSeq (mAsg 12 (mAnd (mOp (opIsi "tuple") [.sl 11]) (mAnd (mOp opEq [.ex (mOp opLen [.sl 11]), .sl 9]) (mOp opEq [.ex (mLc [13] (.nm 13) itAny [.sl 11] (mNotT (mTest (mCall g__law_is_short [(false, .sl 13)]))) (mC (.int 1))), .ex (mLst [])]))))
  (mSeq (mRt (mOp opEq [.ex (mWord exs w__law_met (mCall g_unit_with [(false, .sl 2), (false, .sl 11)])), .ex (mCall g__law_due [(false, .ex (mLst [mTup [mOp opAdd [.ex (mC (.str (Str.ofString "number "))), .ex (mOp opRepr [.sl 2])], mVar 4], mTup [mC (.str (Str.ofString "row")), mVar 12]]))])]))
  (mRet .nx)))))))))))))))))
noncomputable def b__law_right (g_generators_of : Fn) (g_exponents_of : Fn) (g_unit_with : Fn) (g_order_count : Fn) (g__law_pick : Fn) (g__law_gcd : Fn) (g__law_is_short : Fn) (g__law_due : Fn) (g__law_odd : Fn) (g_tab : Str → Option (List Bool × Fn)) : Fn := fun vs => if okFl [true] vs then runF 14 [true] (s__law_right g_generators_of g_exponents_of g_unit_with g_order_count g__law_pick g__law_gcd g__law_is_short g__law_due g__law_odd g_tab) vs else .stuck
theorem e__law_right (k : Nat) : F__law_right (k + 1) = b__law_right (F_generators_of k) (F_exponents_of k) (F_unit_with k) (F_order_count k) (F__law_pick k) (F__law_gcd k) (F__law_is_short k) (F__law_due k) (F__law_odd k) (T_ k) := by kernel_rfl
noncomputable def s_law (g_order_of : Fn) (g_generators_of : Fn) (g_exponents_of : Fn) (g_unit_with : Fn) (g_order_count : Fn) (g__law_dice : Fn) (g__law_right : Fn) : Mm Fl :=
  mSeq (mFor (.nm 1) itRange [.ex (mOp opMax [.ex (mC (.int 1)), .ex (mOp opMin [.ex (mC (.int 3)), .ex (mOp opLen [.sl 0])])])] (mSeq (mAsg 2 (mCall g__law_dice [(false, .sl 0), (false, .sl 1)]))
    (mSeq (mFor (.nm 3) itRange [.ex (mC (.int 12))] (mSeq (mIf (mNotT (mTest (mCall g__law_right [(true, .sl 2)]))) (mSeq (mRt (mC (.bool false)))
        (mRet .nx)) (mRet .nx))
      (mRet .nx)))
    (mRet .nx))))
  (mSeq (mAsg 4 (mLst [mWord exs w__law_met (mCall g_order_of [(false, .ex (mC (.int 6))), (false, .ex (mC (.int 9)))])]))
  (mSeq (mDrop (mApp 4 (mWord exs w__law_met (mCall g_exponents_of [(false, .ex (mC (.int 1))), (false, .ex (mC (.int 20001)))]))))
  (mSeq (mDrop (mApp 4 (mWord exs w__law_met (mCall g_generators_of [(false, .ex (mC (.int 0)))]))))
  (mSeq (mDrop (mApp 4 (mWord exs w__law_met (mCall g_unit_with [(false, .ex (mC (.int 15))), (false, .ex (mTup [mC (.int 1)]))]))))
  (mSeq (mDrop (mApp 4 (mWord exs w__law_met (mCall g_order_count [(false, .ex (mC (.int 9))), (false, .ex (mC (.int 0)))]))))
  (mSeq (mRt (mOp opEq [.sl 4, .ex (mLst [mC (.str (Str.ofString "operation")), mC (.str (Str.ofString "number 20001")), mC (.str (Str.ofString "number 0")), mC (.str (Str.ofString "row")), mC (.str (Str.ofString "number 0"))])]))
  (mRet .nx)))))))
noncomputable def b_law (g_order_of : Fn) (g_generators_of : Fn) (g_exponents_of : Fn) (g_unit_with : Fn) (g_order_count : Fn) (g__law_dice : Fn) (g__law_right : Fn) : Fn := fun vs => if okFl [false] vs then runF 5 [false] (s_law g_order_of g_generators_of g_exponents_of g_unit_with g_order_count g__law_dice g__law_right) vs else .stuck
theorem e_law (k : Nat) : F_law (k + 1) = b_law (F_order_of k) (F_generators_of k) (F_exponents_of k) (F_unit_with k) (F_order_count k) (F__law_dice k) (F__law_right k) := by kernel_rfl
noncomputable abbrev lawF : Fn := F_law deep
end Lw

set_option maxHeartbeats 2000000
set_option exponentiation.threshold 600
namespace Lw
open PySem Mi
noncomputable def x_is_whole : Mm Fl :=
  mSeq (mRt (mAnd (mOp (opIsi "int") [.sl 0]) (mNot (mOp (opIsi "bool") [.sl 0]))))
  (mRet .nx)
noncomputable def c_is_whole : Fn := fun vs => if okFl [false] vs then runF 1 [false] (x_is_whole) vs else .stuck
theorem a_is_whole : AyF (c_is_whole) (b_is_whole) := by
  unfold c_is_whole b_is_whole
  refine AyF.run ?_
  unfold x_is_whole s_is_whole
  repeat' (first | with_reducible refine Ay.seq ?_ ?_ | with_reducible refine Ay.op ?_ | with_reducible refine AyOs.cons ?_ ?_ | with_reducible exact AyOs.nil | with_reducible exact AyO.sl _ | with_reducible refine AyO.ex ?_ | with_reducible refine Ay.rt ?_ | with_reducible refine AyMs.cons ?_ ?_ | with_reducible exact AyMs.nil | with_reducible refine Ay.and ?_ ?_ | with_reducible refine Ay.not ?_ | exact Ay.same)
noncomputable def k_is_whole : Fn := c_is_whole
theorem l_is_whole (k : Nat) : AyF k_is_whole (F_is_whole (k + 1)) := by
  rw [e_is_whole]
  exact a_is_whole
noncomputable def x_is_short (g_is_whole : Fn) : Mm Fl :=
  mSeq (mRt (mAnd (mCall g_is_whole [(false, .sl 0)]) (mChain opLt opLt (.ex (mOp opNeg [.ex (mC (.int (10 ^ 60)))])) (.sl 0) (.ex (mC (.int (10 ^ 60)))))))
  (mRet .nx)
noncomputable def c_is_short (g_is_whole : Fn) : Fn := fun vs => if okFl [false] vs then runF 1 [false] (x_is_short g_is_whole) vs else .stuck
theorem a_is_short {g_is_whole g_is_whole' : Fn} (h_g_is_whole : AyF g_is_whole g_is_whole') : AyF (c_is_short g_is_whole) (b_is_short g_is_whole') := by
  unfold c_is_short b_is_short
  refine AyF.run ?_
  unfold x_is_short s_is_short
  repeat' (first | assumption | with_reducible refine Ay.seq ?_ ?_ | with_reducible refine Ay.op ?_ | with_reducible refine AyOs.cons ?_ ?_ | with_reducible exact AyOs.nil | with_reducible exact AyO.sl _ | with_reducible refine AyO.ex ?_ | with_reducible refine Ay.call ?_ ?_ | with_reducible refine AyA.cons ?_ ?_ | with_reducible exact AyA.nil | with_reducible refine Ay.rt ?_ | with_reducible refine AyMs.cons ?_ ?_ | with_reducible exact AyMs.nil | with_reducible refine Ay.and ?_ ?_ | with_reducible refine Ay.chain ?_ ?_ ?_ | exact Ay.same)
noncomputable def k_is_short : Fn := c_is_short k_is_whole
theorem l_is_short (k : Nat) : AyF k_is_short (F_is_short (k + 2)) := by
  rw [e_is_short]
  exact a_is_short (l_is_whole (k + 0))
noncomputable def x_require_short (g_is_short : Fn) : Mm Fl :=
  mSeq (mIf (mNotT (mTest (mCall g_is_short [(false, .sl 0)]))) (mSeq (mRaiseF (Str.ofString "InvalidNumber") (mVar 0))
    (mRet .nx)) (mRet .nx))
  (mRet .nx)
noncomputable def c_require_short (g_is_short : Fn) : Fn := fun vs => if okFl [false] vs then runF 1 [false] (x_require_short g_is_short) vs else .stuck
theorem a_require_short {g_is_short g_is_short' : Fn} (h_g_is_short : AyF g_is_short g_is_short') : AyF (c_require_short g_is_short) (b_require_short g_is_short') := by
  unfold c_require_short b_require_short
  refine AyF.run ?_
  unfold x_require_short s_require_short
  repeat' (first | assumption | with_reducible refine Ay.seq ?_ ?_ | with_reducible refine AyOs.cons ?_ ?_ | with_reducible exact AyOs.nil | with_reducible exact AyO.sl _ | with_reducible refine AyO.ex ?_ | with_reducible refine Ay.call ?_ ?_ | with_reducible refine AyA.cons ?_ ?_ | with_reducible exact AyA.nil | with_reducible refine Ay.test ?_ | with_reducible refine AyMs.cons ?_ ?_ | with_reducible exact AyMs.nil | with_reducible refine Ay.ifm ?_ ?_ ?_ | with_reducible refine Ay.notT ?_ | with_reducible refine Ay.raiseF ?_ | exact Ay.same)
noncomputable def k_require_short : Fn := c_require_short k_is_short
theorem l_require_short (k : Nat) : AyF k_require_short (F_require_short (k + 3)) := by
  rw [e_require_short]
  exact a_require_short (l_is_short (k + 0))
noncomputable def x_is_within (g_is_whole : Fn) : Mm Fl :=
  mSeq (mRt (mAnd (mCall g_is_whole [(false, .sl 0)]) (mChain opLe opLe (.sl 1) (.sl 0) (.sl 2))))
  (mRet .nx)
noncomputable def c_is_within (g_is_whole : Fn) : Fn := fun vs => if okFl [false, false, false] vs then runF 3 [false, false, false] (x_is_within g_is_whole) vs else .stuck
theorem a_is_within {g_is_whole g_is_whole' : Fn} (h_g_is_whole : AyF g_is_whole g_is_whole') : AyF (c_is_within g_is_whole) (b_is_within g_is_whole') := by
  unfold c_is_within b_is_within
  refine AyF.run ?_
  unfold x_is_within s_is_within
  repeat' (first | assumption | with_reducible refine Ay.seq ?_ ?_ | with_reducible refine AyOs.cons ?_ ?_ | with_reducible exact AyOs.nil | with_reducible exact AyO.sl _ | with_reducible refine AyO.ex ?_ | with_reducible refine Ay.call ?_ ?_ | with_reducible refine AyA.cons ?_ ?_ | with_reducible exact AyA.nil | with_reducible refine Ay.rt ?_ | with_reducible refine AyMs.cons ?_ ?_ | with_reducible exact AyMs.nil | with_reducible refine Ay.and ?_ ?_ | with_reducible refine Ay.chain ?_ ?_ ?_ | exact Ay.same)
noncomputable def k_is_within : Fn := c_is_within k_is_whole
theorem l_is_within (k : Nat) : AyF k_is_within (F_is_within (k + 2)) := by
  rw [e_is_within]
  exact a_is_within (l_is_whole (k + 0))
noncomputable def x_require_within (g_is_within : Fn) : Mm Fl :=
  mSeq (mIf (mNotT (mTest (mCall g_is_within [(false, .sl 0), (false, .sl 1), (false, .sl 2)]))) (mSeq (mRaiseF (Str.ofString "InvalidNumber") (mVar 0))
    (mRet .nx)) (mRet .nx))
  (mRet .nx)
noncomputable def c_require_within (g_is_within : Fn) : Fn := fun vs => if okFl [false, false, false] vs then runF 3 [false, false, false] (x_require_within g_is_within) vs else .stuck
theorem a_require_within {g_is_within g_is_within' : Fn} (h_g_is_within : AyF g_is_within g_is_within') : AyF (c_require_within g_is_within) (b_require_within g_is_within') := by
  unfold c_require_within b_require_within
  refine AyF.run ?_
  unfold x_require_within s_require_within
  repeat' (first | assumption | with_reducible refine Ay.seq ?_ ?_ | with_reducible refine AyOs.cons ?_ ?_ | with_reducible exact AyOs.nil | with_reducible exact AyO.sl _ | with_reducible refine AyO.ex ?_ | with_reducible refine Ay.call ?_ ?_ | with_reducible refine AyA.cons ?_ ?_ | with_reducible exact AyA.nil | with_reducible refine Ay.test ?_ | with_reducible refine AyMs.cons ?_ ?_ | with_reducible exact AyMs.nil | with_reducible refine Ay.ifm ?_ ?_ ?_ | with_reducible refine Ay.notT ?_ | with_reducible refine Ay.raiseF ?_ | exact Ay.same)
noncomputable def k_require_within : Fn := c_require_within k_is_within
theorem l_require_within (k : Nat) : AyF k_require_within (F_require_within (k + 3)) := by
  rw [e_require_within]
  exact a_require_within (l_is_within (k + 0))
noncomputable def x_require_modulus (g_require_within : Fn) : Mm Fl :=
  mSeq (mDrop (mCall g_require_within [(false, .sl 0), (false, .ex (mC (.int 1))), (false, .ex (mC (.int (10 ^ 6))))]))
  (mRet .nx)
noncomputable def c_require_modulus (g_require_within : Fn) : Fn := fun vs => if okFl [false] vs then runF 1 [false] (x_require_modulus g_require_within) vs else .stuck
theorem a_require_modulus {g_require_within g_require_within' : Fn} (h_g_require_within : AyF g_require_within g_require_within') : AyF (c_require_modulus g_require_within) (b_require_modulus g_require_within') := by
  unfold c_require_modulus b_require_modulus
  refine AyF.run ?_
  unfold x_require_modulus s_require_modulus
  repeat' (first | assumption | with_reducible refine Ay.seq ?_ ?_ | with_reducible refine AyOs.cons ?_ ?_ | with_reducible exact AyOs.nil | with_reducible exact AyO.sl _ | with_reducible refine AyO.ex ?_ | with_reducible refine Ay.call ?_ ?_ | with_reducible refine AyA.cons ?_ ?_ | with_reducible exact AyA.nil | with_reducible refine AyMs.cons ?_ ?_ | with_reducible exact AyMs.nil | with_reducible refine Ay.drop ?_ | exact Ay.same)
noncomputable def k_require_modulus : Fn := c_require_modulus k_require_within
theorem l_require_modulus (k : Nat) : AyF k_require_modulus (F_require_modulus (k + 4)) := by
  rw [e_require_modulus]
  exact a_require_modulus (l_require_within (k + 0))
noncomputable def x_parts_in : Mm Fl :=
  mSeq (mPar [1, 2, 3] [mLst [], mVar 0, mC (.int (2))])
  (mSeq (mWhB 16 (mTest (mOp opLe [.ex (mOp opMul [.sl 3, .sl 3]), .sl 2])) (mSeq (mAsg 4 (mC (.int 0)))
    (mSeq (mWhB 16 (mTest (mOp opEq [.ex (mOp opMod [.sl 2, .sl 3]), .ex (mC (.int 0))])) (mSeq (mPar [2, 4] [mOp opDiv [.sl 2, .sl 3], mOp opAdd [.sl 4, .ex (mC (.int 1))]])
      (mRet .nx)))
    (mSeq (mIf (mTest (mOp opGt [.sl 4, .ex (mC (.int 0))])) (mSeq (mDrop (mApp 1 (mTup [mVar 3, mVar 4])))
      (mRet .nx)) (mRet .nx))
    (mSeq (mAsg 3 (mOp opAddI [.sl 3, .ex (mC (.int 1))]))
    (mRet .nx))))))
  (mSeq (mIf (mTest (mOp opGt [.sl 2, .ex (mC (.int 1))])) (mSeq (mDrop (mApp 1 (mTup [mVar 2, mC (.int 1)])))
    (mRet .nx)) (mRet .nx))
  (mSeq (mRt (mMove 1))
  (mRet .nx))))
noncomputable def c_parts_in : Fn := fun vs => if okFl [false] vs then runF 5 [false] (x_parts_in) vs else .stuck
theorem a_parts_in : AyF (c_parts_in) (b_parts_in) := by
  unfold c_parts_in b_parts_in
  refine AyF.run ?_
  unfold x_parts_in s_parts_in
  repeat' (first | with_reducible refine Ay.seq ?_ ?_ | with_reducible refine Ay.op ?_ | with_reducible refine AyOs.cons ?_ ?_ | with_reducible exact AyOs.nil | with_reducible exact AyO.sl _ | with_reducible refine AyO.ex ?_ | with_reducible refine Ay.asg ?_ | with_reducible refine Ay.rt ?_ | with_reducible refine Ay.test ?_ | with_reducible refine Ay.tup ?_ | with_reducible refine Ay.lst ?_ | with_reducible refine AyMs.cons ?_ ?_ | with_reducible exact AyMs.nil | with_reducible refine Ay.ifm ?_ ?_ ?_ | with_reducible refine Ay.drop ?_ | with_reducible refine Ay.par ?_ | with_reducible refine Ay.while ?_ ?_ | with_reducible refine Ay.app ?_ | exact Ay.same)
noncomputable def k_parts_in : Fn := c_parts_in
theorem l_parts_in (k : Nat) : AyF k_parts_in (F_parts_in (k + 1)) := by
  rw [e_parts_in]
  exact a_parts_in
noncomputable def x_raised : Mm Fl :=
  mSeq (mPar [2, 3, 4] [mC (.int 1), mVar 0, mVar 1])
  (mSeq (mWhB 16 (mTest (mOp opGt [.sl 4, .ex (mC (.int 0))])) (mSeq (mIf (mTest (mOp opEq [.ex (mOp opMod [.sl 4, .ex (mC (.int 2))]), .ex (mC (.int 1))])) (mSeq (mAsg 2 (mOp opMul [.sl 2, .sl 3]))
      (mRet .nx)) (mRet .nx))
    (mSeq (mAsg 4 (mOp opDiv [.sl 4, .ex (mC (.int 2))]))
    (mSeq (mAsg 3 (mIf (mTest (mOp opGt [.sl 4, .ex (mC (.int 0))])) (mOp opMul [.sl 3, .sl 3]) (mVar 3)))
    (mRet .nx)))))
  (mSeq (mRt (mMove 2))
  (mRet .nx)))
noncomputable def c_raised : Fn := fun vs => if okFl [false, false] vs then runF 5 [false, false] (x_raised) vs else .stuck
theorem a_raised : AyF (c_raised) (b_raised) := by
  unfold c_raised b_raised
  refine AyF.run ?_
  unfold x_raised s_raised
  repeat' (first | with_reducible refine Ay.seq ?_ ?_ | with_reducible refine Ay.op ?_ | with_reducible refine AyOs.cons ?_ ?_ | with_reducible exact AyOs.nil | with_reducible exact AyO.sl _ | with_reducible refine AyO.ex ?_ | with_reducible refine Ay.asg ?_ | with_reducible refine Ay.rt ?_ | with_reducible refine Ay.test ?_ | with_reducible refine AyMs.cons ?_ ?_ | with_reducible exact AyMs.nil | with_reducible refine Ay.ifm ?_ ?_ ?_ | with_reducible refine Ay.par ?_ | with_reducible refine Ay.while ?_ ?_ | exact Ay.same)
noncomputable def k_raised : Fn := c_raised
theorem l_raised (k : Nat) : AyF k_raised (F_raised (k + 1)) := by
  rw [e_raised]
  exact a_raised
noncomputable def x_phi_of_parts (g_raised : Fn) : Mm Fl :=
  mSeq (mAsg 1 (mC (.int 1)))
  (mSeq (mFor (.tp [.nm 2, .nm 3]) itAny [.sl 0] (mSeq (mAsg 1 (mOp opMul [.ex (mOp opMul [.sl 1, .ex (mCall g_raised [(false, .sl 2), (false, .ex (mOp opSub [.sl 3, .ex (mC (.int 1))]))])]), .ex (mOp opSub [.sl 2, .ex (mC (.int 1))])]))
    (mRet .nx)))
  (mSeq (mRt (mMove 1))
  (mRet .nx)))
noncomputable def c_phi_of_parts (g_raised : Fn) : Fn := fun vs => if okFl [false] vs then runF 4 [false] (x_phi_of_parts g_raised) vs else .stuck
theorem a_phi_of_parts {g_raised g_raised' : Fn} (h_g_raised : AyF g_raised g_raised') : AyF (c_phi_of_parts g_raised) (b_phi_of_parts g_raised') := by
  unfold c_phi_of_parts b_phi_of_parts
  refine AyF.run ?_
  unfold x_phi_of_parts s_phi_of_parts
  repeat' (first | assumption | with_reducible refine Ay.seq ?_ ?_ | with_reducible refine Ay.op ?_ | with_reducible refine AyOs.cons ?_ ?_ | with_reducible exact AyOs.nil | with_reducible exact AyO.sl _ | with_reducible refine AyO.ex ?_ | with_reducible refine Ay.call ?_ ?_ | with_reducible refine AyA.cons ?_ ?_ | with_reducible exact AyA.nil | with_reducible refine Ay.asg ?_ | with_reducible refine Ay.rt ?_ | with_reducible refine AyMs.cons ?_ ?_ | with_reducible exact AyMs.nil | with_reducible refine Ay.for ?_ ?_ | exact Ay.same)
noncomputable def k_phi_of_parts : Fn := c_phi_of_parts k_raised
theorem l_phi_of_parts (k : Nat) : AyF k_phi_of_parts (F_phi_of_parts (k + 2)) := by
  rw [e_phi_of_parts]
  exact a_phi_of_parts (l_raised (k + 0))
noncomputable def x_euclid : Mm Fl :=
  mSeq (mPar [2, 3, 4] [mLst [mVar 0, mVar 1], mLst [mC (.int 1), mC (.int 0)], mLst [mC (.int 0), mC (.int 1)]])
  (mSeq (mWhB 16 (mTest (mOp opNe [.ex (mOp opItem [.sl 2, .ex (mC (.int 1))]), .ex (mC (.int 0))])) (mSeq (mAsg 5 (mOp opDiv [.ex (mOp opItem [.sl 2, .ex (mC (.int 0))]), .ex (mOp opItem [.sl 2, .ex (mC (.int 1))])]))
    (mSeq (mAsg 2 (mLst [mOp opItem [.sl 2, .ex (mC (.int 1))], mOp opSub [.ex (mOp opItem [.sl 2, .ex (mC (.int 0))]), .ex (mOp opMul [.sl 5, .ex (mOp opItem [.sl 2, .ex (mC (.int 1))])])]]))
    (mSeq (mAsg 3 (mLst [mOp opItem [.sl 3, .ex (mC (.int 1))], mOp opSub [.ex (mOp opItem [.sl 3, .ex (mC (.int 0))]), .ex (mOp opMul [.sl 5, .ex (mOp opItem [.sl 3, .ex (mC (.int 1))])])]]))
    (mSeq (mAsg 4 (mLst [mOp opItem [.sl 4, .ex (mC (.int 1))], mOp opSub [.ex (mOp opItem [.sl 4, .ex (mC (.int 0))]), .ex (mOp opMul [.sl 5, .ex (mOp opItem [.sl 4, .ex (mC (.int 1))])])]]))
    (mRet .nx))))))
  (mSeq (mIf (mTest (mOp opLt [.ex (mOp opItem [.sl 2, .ex (mC (.int 0))]), .ex (mC (.int 0))])) (mSeq (mRt (mTup [mOp opNeg [.ex (mOp opItem [.sl 2, .ex (mC (.int 0))])], mOp opNeg [.ex (mOp opItem [.sl 3, .ex (mC (.int 0))])], mOp opNeg [.ex (mOp opItem [.sl 4, .ex (mC (.int 0))])]]))
    (mRet .nx)) (mRet .nx))
  (mSeq (mRt (mTup [mOp opItem [.sl 2, .ex (mC (.int 0))], mOp opItem [.sl 3, .ex (mC (.int 0))], mOp opItem [.sl 4, .ex (mC (.int 0))]]))
  (mRet .nx))))
noncomputable def c_euclid : Fn := fun vs => if okFl [false, false] vs then runF 6 [false, false] (x_euclid) vs else .stuck
theorem a_euclid : AyF (c_euclid) (b_euclid) := by
  unfold c_euclid b_euclid
  refine AyF.run ?_
  unfold x_euclid s_euclid
  repeat' (first | with_reducible refine Ay.seq ?_ ?_ | with_reducible refine Ay.op ?_ | with_reducible refine AyOs.cons ?_ ?_ | with_reducible exact AyOs.nil | with_reducible exact AyO.sl _ | with_reducible refine AyO.ex ?_ | with_reducible refine Ay.asg ?_ | with_reducible refine Ay.rt ?_ | with_reducible refine Ay.test ?_ | with_reducible refine Ay.tup ?_ | with_reducible refine Ay.lst ?_ | with_reducible refine AyMs.cons ?_ ?_ | with_reducible exact AyMs.nil | with_reducible refine Ay.ifm ?_ ?_ ?_ | with_reducible refine Ay.par ?_ | with_reducible refine Ay.while ?_ ?_ | exact Ay.same)
noncomputable def k_euclid : Fn := c_euclid
theorem l_euclid (k : Nat) : AyF k_euclid (F_euclid (k + 1)) := by
  rw [e_euclid]
  exact a_euclid
noncomputable def x_divisor_of_two (g_euclid : Fn) : Mm Fl :=
  mSeq (mRt (mOp opItem [.ex (mCall g_euclid [(false, .sl 0), (false, .sl 1)]), .ex (mC (.int 0))]))
  (mRet .nx)
noncomputable def c_divisor_of_two (g_euclid : Fn) : Fn := fun vs => if okFl [false, false] vs then runF 2 [false, false] (x_divisor_of_two g_euclid) vs else .stuck
theorem a_divisor_of_two {g_euclid g_euclid' : Fn} (h_g_euclid : AyF g_euclid g_euclid') : AyF (c_divisor_of_two g_euclid) (b_divisor_of_two g_euclid') := by
  unfold c_divisor_of_two b_divisor_of_two
  refine AyF.run ?_
  unfold x_divisor_of_two s_divisor_of_two
  repeat' (first | assumption | with_reducible refine Ay.seq ?_ ?_ | with_reducible refine Ay.op ?_ | with_reducible refine AyOs.cons ?_ ?_ | with_reducible exact AyOs.nil | with_reducible exact AyO.sl _ | with_reducible refine AyO.ex ?_ | with_reducible refine Ay.call ?_ ?_ | with_reducible refine AyA.cons ?_ ?_ | with_reducible exact AyA.nil | with_reducible refine Ay.rt ?_ | with_reducible refine AyMs.cons ?_ ?_ | with_reducible exact AyMs.nil | exact Ay.same)
noncomputable def k_divisor_of_two : Fn := c_divisor_of_two k_euclid
theorem l_divisor_of_two (k : Nat) : AyF k_divisor_of_two (F_divisor_of_two (k + 2)) := by
  rw [e_divisor_of_two]
  exact a_divisor_of_two (l_euclid (k + 0))
noncomputable def x_require_unit (g_divisor_of_two : Fn) : Mm Fl :=
  mSeq (mIf (mTest (mOp opNe [.ex (mCall g_divisor_of_two [(false, .sl 0), (false, .sl 1)]), .ex (mC (.int 1))])) (mSeq (mRaise (Str.ofString "InvalidOperation") .none)
    (mRet .nx)) (mRet .nx))
  (mRet .nx)
noncomputable def c_require_unit (g_divisor_of_two : Fn) : Fn := fun vs => if okFl [false, false] vs then runF 2 [false, false] (x_require_unit g_divisor_of_two) vs else .stuck
theorem a_require_unit {g_divisor_of_two g_divisor_of_two' : Fn} (h_g_divisor_of_two : AyF g_divisor_of_two g_divisor_of_two') : AyF (c_require_unit g_divisor_of_two) (b_require_unit g_divisor_of_two') := by
  unfold c_require_unit b_require_unit
  refine AyF.run ?_
  unfold x_require_unit s_require_unit
  repeat' (first | assumption | with_reducible refine Ay.seq ?_ ?_ | with_reducible refine Ay.op ?_ | with_reducible refine AyOs.cons ?_ ?_ | with_reducible exact AyOs.nil | with_reducible exact AyO.sl _ | with_reducible refine AyO.ex ?_ | with_reducible refine Ay.call ?_ ?_ | with_reducible refine AyA.cons ?_ ?_ | with_reducible exact AyA.nil | with_reducible refine Ay.test ?_ | with_reducible refine AyMs.cons ?_ ?_ | with_reducible exact AyMs.nil | with_reducible refine Ay.ifm ?_ ?_ ?_ | exact Ay.same)
noncomputable def k_require_unit : Fn := c_require_unit k_divisor_of_two
theorem l_require_unit (k : Nat) : AyF k_require_unit (F_require_unit (k + 3)) := by
  rw [e_require_unit]
  exact a_require_unit (l_divisor_of_two (k + 0))
noncomputable def x_raised_modulo : Mm Fl :=
  mSeq (mPar [3, 4, 5] [mOp opMod [.ex (mC (.int 1)), .sl 2], mOp opMod [.sl 0, .sl 2], mVar 1])
  (mSeq (mWhB 16 (mTest (mOp opGt [.sl 5, .ex (mC (.int 0))])) (mSeq (mIf (mTest (mOp opEq [.ex (mOp opMod [.sl 5, .ex (mC (.int 2))]), .ex (mC (.int 1))])) (mSeq (mAsg 3 (mOp opMod [.ex (mOp opMul [.sl 3, .sl 4]), .sl 2]))
      (mRet .nx)) (mRet .nx))
    (mSeq (mAsg 5 (mOp opDiv [.sl 5, .ex (mC (.int 2))]))
    (mSeq (mAsg 4 (mIf (mTest (mOp opGt [.sl 5, .ex (mC (.int 0))])) (mOp opMod [.ex (mOp opMul [.sl 4, .sl 4]), .sl 2]) (mVar 4)))
    (mRet .nx)))))
  (mSeq (mRt (mMove 3))
  (mRet .nx)))
noncomputable def c_raised_modulo : Fn := fun vs => if okFl [false, false, false] vs then runF 6 [false, false, false] (x_raised_modulo) vs else .stuck
theorem a_raised_modulo : AyF (c_raised_modulo) (b_raised_modulo) := by
  unfold c_raised_modulo b_raised_modulo
  refine AyF.run ?_
  unfold x_raised_modulo s_raised_modulo
  repeat' (first | with_reducible refine Ay.seq ?_ ?_ | with_reducible refine Ay.op ?_ | with_reducible refine AyOs.cons ?_ ?_ | with_reducible exact AyOs.nil | with_reducible exact AyO.sl _ | with_reducible refine AyO.ex ?_ | with_reducible refine Ay.asg ?_ | with_reducible refine Ay.rt ?_ | with_reducible refine Ay.test ?_ | with_reducible refine AyMs.cons ?_ ?_ | with_reducible exact AyMs.nil | with_reducible refine Ay.ifm ?_ ?_ ?_ | with_reducible refine Ay.par ?_ | with_reducible refine Ay.while ?_ ?_ | exact Ay.same)
noncomputable def k_raised_modulo : Fn := c_raised_modulo
theorem l_raised_modulo (k : Nat) : AyF k_raised_modulo (F_raised_modulo (k + 1)) := by
  rw [e_raised_modulo]
  exact a_raised_modulo
noncomputable def x_order_within (g_raised_modulo : Fn) (g_parts_in : Fn) : Mm Fl :=
  mSeq (mAsg 3 (mVar 2))
  (mSeq (mFor (.tp [.nm 4, .nm 5]) itAny [.ex (mCall g_parts_in [(false, .sl 2)])] (mSeq (mWhB 16 (mAndT (mTest (mOp opEq [.ex (mOp opMod [.sl 3, .sl 4]), .ex (mC (.int 0))])) (mTest (mOp opEq [.ex (mCall g_raised_modulo [(false, .sl 0), (false, .ex (mOp opDiv [.sl 3, .sl 4])), (false, .sl 1)]), .ex (mOp opMod [.ex (mC (.int 1)), .sl 1])]))) (mSeq (mAsg 3 (mOp opDiv [.sl 3, .sl 4]))
      (mRet .nx)))
    (mRet .nx)))
  (mSeq (mRt (mMove 3))
  (mRet .nx)))
noncomputable def c_order_within (g_raised_modulo : Fn) (g_parts_in : Fn) : Fn := fun vs => if okFl [false, false, false] vs then runF 6 [false, false, false] (x_order_within g_raised_modulo g_parts_in) vs else .stuck
theorem a_order_within {g_raised_modulo g_raised_modulo' : Fn} (h_g_raised_modulo : AyF g_raised_modulo g_raised_modulo') {g_parts_in g_parts_in' : Fn} (h_g_parts_in : AyF g_parts_in g_parts_in') : AyF (c_order_within g_raised_modulo g_parts_in) (b_order_within g_raised_modulo' g_parts_in') := by
  unfold c_order_within b_order_within
  refine AyF.run ?_
  unfold x_order_within s_order_within
  repeat' (first | assumption | with_reducible refine Ay.seq ?_ ?_ | with_reducible refine Ay.op ?_ | with_reducible refine AyOs.cons ?_ ?_ | with_reducible exact AyOs.nil | with_reducible exact AyO.sl _ | with_reducible refine AyO.ex ?_ | with_reducible refine Ay.call ?_ ?_ | with_reducible refine AyA.cons ?_ ?_ | with_reducible exact AyA.nil | with_reducible refine Ay.asg ?_ | with_reducible refine Ay.rt ?_ | with_reducible refine Ay.test ?_ | with_reducible refine AyMs.cons ?_ ?_ | with_reducible exact AyMs.nil | with_reducible refine Ay.for ?_ ?_ | with_reducible refine Ay.while ?_ ?_ | with_reducible refine Ay.andT ?_ ?_ | exact Ay.same)
noncomputable def k_order_within : Fn := c_order_within k_raised_modulo k_parts_in
theorem l_order_within (k : Nat) : AyF k_order_within (F_order_within (k + 2)) := by
  rw [e_order_within]
  exact a_order_within (l_raised_modulo (k + 0)) (l_parts_in (k + 0))
noncomputable def x_order_of (g_require_short : Fn) (g_require_modulus : Fn) (g_parts_in : Fn) (g_phi_of_parts : Fn) (g_require_unit : Fn) (g_order_within : Fn) : Mm Fl :=
  mSeq (mDrop (mCall g_require_short [(false, .sl 0)]))
  (mSeq (mDrop (mCall g_require_modulus [(false, .sl 1)]))
  (mSeq (mDrop (mCall g_require_unit [(false, .sl 0), (false, .sl 1)]))
  (mSeq (mRt (mCall g_order_within [(false, .sl 0), (false, .sl 1), (false, .ex (mCall g_phi_of_parts [(false, .ex (mCall g_parts_in [(false, .sl 1)]))]))]))
  (mRet .nx))))
noncomputable def c_order_of (g_require_short : Fn) (g_require_modulus : Fn) (g_parts_in : Fn) (g_phi_of_parts : Fn) (g_require_unit : Fn) (g_order_within : Fn) : Fn := fun vs => if okFl [false, false] vs then runF 2 [false, false] (x_order_of g_require_short g_require_modulus g_parts_in g_phi_of_parts g_require_unit g_order_within) vs else .stuck
theorem a_order_of {g_require_short g_require_short' : Fn} (h_g_require_short : AyF g_require_short g_require_short') {g_require_modulus g_require_modulus' : Fn} (h_g_require_modulus : AyF g_require_modulus g_require_modulus') {g_parts_in g_parts_in' : Fn} (h_g_parts_in : AyF g_parts_in g_parts_in') {g_phi_of_parts g_phi_of_parts' : Fn} (h_g_phi_of_parts : AyF g_phi_of_parts g_phi_of_parts') {g_require_unit g_require_unit' : Fn} (h_g_require_unit : AyF g_require_unit g_require_unit') {g_order_within g_order_within' : Fn} (h_g_order_within : AyF g_order_within g_order_within') : AyF (c_order_of g_require_short g_require_modulus g_parts_in g_phi_of_parts g_require_unit g_order_within) (b_order_of g_require_short' g_require_modulus' g_parts_in' g_phi_of_parts' g_require_unit' g_order_within') := by
  unfold c_order_of b_order_of
  refine AyF.run ?_
  unfold x_order_of s_order_of
  repeat' (first | assumption | with_reducible refine Ay.seq ?_ ?_ | with_reducible refine AyOs.cons ?_ ?_ | with_reducible exact AyOs.nil | with_reducible exact AyO.sl _ | with_reducible refine AyO.ex ?_ | with_reducible refine Ay.call ?_ ?_ | with_reducible refine AyA.cons ?_ ?_ | with_reducible exact AyA.nil | with_reducible refine Ay.rt ?_ | with_reducible refine AyMs.cons ?_ ?_ | with_reducible exact AyMs.nil | with_reducible refine Ay.drop ?_ | exact Ay.same)
noncomputable def k_order_of : Fn := c_order_of k_require_short k_require_modulus k_parts_in k_phi_of_parts k_require_unit k_order_within
theorem l_order_of (k : Nat) : AyF k_order_of (F_order_of (k + 5)) := by
  rw [e_order_of]
  exact a_order_of (l_require_short (k + 1)) (l_require_modulus (k + 0)) (l_parts_in (k + 3)) (l_phi_of_parts (k + 2)) (l_require_unit (k + 1)) (l_order_within (k + 2))
noncomputable def x_does_make (g_raised_modulo : Fn) : Mm Fl :=
  mSeq (mRt (mOp opAll [.ex (mLc [3, 4] (.tp [.nm 3, .nm 4]) itAny [.sl 2] (mRet true) (mOp opNe [.ex (mCall g_raised_modulo [(false, .sl 1), (false, .ex (mOp opDiv [.ex (mOp opSub [.sl 0, .ex (mC (.int 1))]), .sl 3])), (false, .sl 0)]), .ex (mC (.int 1))]))]))
  (mRet .nx)
noncomputable def c_does_make (g_raised_modulo : Fn) : Fn := fun vs => if okFl [false, false, false] vs then runF 5 [false, false, false] (x_does_make g_raised_modulo) vs else .stuck
theorem a_does_make {g_raised_modulo g_raised_modulo' : Fn} (h_g_raised_modulo : AyF g_raised_modulo g_raised_modulo') : AyF (c_does_make g_raised_modulo) (b_does_make g_raised_modulo') := by
  unfold c_does_make b_does_make
  refine AyF.run ?_
  unfold x_does_make s_does_make
  repeat' (first | assumption | with_reducible refine Ay.seq ?_ ?_ | with_reducible refine Ay.op ?_ | with_reducible refine AyOs.cons ?_ ?_ | with_reducible exact AyOs.nil | with_reducible exact AyO.sl _ | with_reducible refine AyO.ex ?_ | with_reducible refine Ay.call ?_ ?_ | with_reducible refine AyA.cons ?_ ?_ | with_reducible exact AyA.nil | with_reducible refine Ay.rt ?_ | with_reducible refine AyMs.cons ?_ ?_ | with_reducible exact AyMs.nil | with_reducible refine Ay.lc ?_ ?_ ?_ | exact Ay.same)
noncomputable def k_does_make : Fn := c_does_make k_raised_modulo
theorem l_does_make (k : Nat) : AyF k_does_make (F_does_make (k + 2)) := by
  rw [e_does_make]
  exact a_does_make (l_raised_modulo (k + 0))
noncomputable def x_prime_paper (g_parts_in : Fn) (g_does_make : Fn) (g_prime_paper : Fn) : Mm Fl :=
  mSeq (mIf (mTest (mOp opEq [.sl 0, .ex (mC (.int (2)))])) (mSeq (mRt (mC .none))
    (mRet .nx)) (mRet .nx))
  (mSeq (mPar [1, 2] [mCall g_parts_in [(false, .ex (mOp opSub [.sl 0, .ex (mC (.int 1))]))], mC (.int (2))])
  (mSeq (mWhB 16 (mNotT (mTest (mCall g_does_make [(false, .sl 0), (false, .sl 2), (false, .sl 1)]))) (mSeq (mAsg 2 (mOp opAddI [.sl 2, .ex (mC (.int 1))]))
    (mRet .nx)))
  (mSeq (mRt (mTup [mVar 2, mOp opTuple [.ex (mLc [3, 4] (.tp [.nm 3, .nm 4]) itAny [.sl 1] (mRet true) (mTup [mVar 3, mVar 4, mCall g_prime_paper [(false, .sl 3)]]))]]))
  (mRet .nx))))
noncomputable def c_prime_paper (g_parts_in : Fn) (g_does_make : Fn) (g_prime_paper : Fn) : Fn := fun vs => if okFl [false] vs then runF 5 [false] (x_prime_paper g_parts_in g_does_make g_prime_paper) vs else .stuck
theorem a_prime_paper {g_parts_in g_parts_in' : Fn} (h_g_parts_in : AyF g_parts_in g_parts_in') {g_does_make g_does_make' : Fn} (h_g_does_make : AyF g_does_make g_does_make') {g_prime_paper g_prime_paper' : Fn} (h_g_prime_paper : AyF g_prime_paper g_prime_paper') : AyF (c_prime_paper g_parts_in g_does_make g_prime_paper) (b_prime_paper g_parts_in' g_does_make' g_prime_paper') := by
  unfold c_prime_paper b_prime_paper
  refine AyF.run ?_
  unfold x_prime_paper s_prime_paper
  repeat' (first | assumption | with_reducible refine Ay.seq ?_ ?_ | with_reducible refine Ay.op ?_ | with_reducible refine AyOs.cons ?_ ?_ | with_reducible exact AyOs.nil | with_reducible exact AyO.sl _ | with_reducible refine AyO.ex ?_ | with_reducible refine Ay.call ?_ ?_ | with_reducible refine AyA.cons ?_ ?_ | with_reducible exact AyA.nil | with_reducible refine Ay.asg ?_ | with_reducible refine Ay.rt ?_ | with_reducible refine Ay.test ?_ | with_reducible refine Ay.tup ?_ | with_reducible refine AyMs.cons ?_ ?_ | with_reducible exact AyMs.nil | with_reducible refine Ay.ifm ?_ ?_ ?_ | with_reducible refine Ay.par ?_ | with_reducible refine Ay.while ?_ ?_ | with_reducible refine Ay.lc ?_ ?_ ?_ | with_reducible refine Ay.notT ?_ | exact Ay.same)
noncomputable def kr_prime_paper : Nat → Fn
  | 0 => fun _ => .stuck
  | n + 1 => c_prime_paper k_parts_in k_does_make (kr_prime_paper n)
theorem lr_prime_paper : ∀ (n k : Nat), AyF (kr_prime_paper n) (F_prime_paper (k + n + 2))
  | 0, _ => AyF.none
  | n + 1, k => by
    show AyF (kr_prime_paper (n + 1)) (F_prime_paper ((k + n + 2) + 1))
    rw [e_prime_paper]
    exact a_prime_paper (l_parts_in (k + n + 1)) (l_does_make (k + n + 0)) (lr_prime_paper n k)
noncomputable def k_prime_paper : Fn := kr_prime_paper 6
theorem l_prime_paper (k : Nat) : AyF k_prime_paper (F_prime_paper (k + 8)) := lr_prime_paper 6 k
noncomputable def x_parts_paper (g_parts_in : Fn) (g_prime_paper : Fn) : Mm Fl :=
  mSeq (mAsg 1 (mOp opTuple [.ex (mCall g_parts_in [(false, .sl 0)])]))
  (mSeq (mRt (mTup [mVar 1, mOp opTuple [.ex (mLc [2, 3] (.tp [.nm 2, .nm 3]) itAny [.sl 1] (mRet true) (mCall g_prime_paper [(false, .sl 2)]))]]))
  (mRet .nx))
noncomputable def c_parts_paper (g_parts_in : Fn) (g_prime_paper : Fn) : Fn := fun vs => if okFl [false] vs then runF 4 [false] (x_parts_paper g_parts_in g_prime_paper) vs else .stuck
theorem a_parts_paper {g_parts_in g_parts_in' : Fn} (h_g_parts_in : AyF g_parts_in g_parts_in') {g_prime_paper g_prime_paper' : Fn} (h_g_prime_paper : AyF g_prime_paper g_prime_paper') : AyF (c_parts_paper g_parts_in g_prime_paper) (b_parts_paper g_parts_in' g_prime_paper') := by
  unfold c_parts_paper b_parts_paper
  refine AyF.run ?_
  unfold x_parts_paper s_parts_paper
  repeat' (first | assumption | with_reducible refine Ay.seq ?_ ?_ | with_reducible refine Ay.op ?_ | with_reducible refine AyOs.cons ?_ ?_ | with_reducible exact AyOs.nil | with_reducible exact AyO.sl _ | with_reducible refine AyO.ex ?_ | with_reducible refine Ay.call ?_ ?_ | with_reducible refine AyA.cons ?_ ?_ | with_reducible exact AyA.nil | with_reducible refine Ay.asg ?_ | with_reducible refine Ay.rt ?_ | with_reducible refine Ay.tup ?_ | with_reducible refine AyMs.cons ?_ ?_ | with_reducible exact AyMs.nil | with_reducible refine Ay.lc ?_ ?_ ?_ | exact Ay.same)
noncomputable def k_parts_paper : Fn := c_parts_paper k_parts_in k_prime_paper
theorem l_parts_paper (k : Nat) : AyF k_parts_paper (F_parts_paper (k + 9)) := by
  rw [e_parts_paper]
  exact a_parts_paper (l_parts_in (k + 7)) (l_prime_paper (k + 0))
noncomputable def x_order_answer (g_parts_paper : Fn) (g_order_of : Fn) : Mm Fl :=
  mSeq (mAsg 2 (mCall g_order_of [(false, .sl 0), (false, .sl 1)]))
  (mSeq (mRt (mTup [mTup [mC (.str (Str.ofString "order")), mVar 1, mVar 0, mVar 2], mCall g_parts_paper [(false, .sl 2)]]))
  (mRet .nx))
noncomputable def c_order_answer (g_parts_paper : Fn) (g_order_of : Fn) : Fn := fun vs => if okFl [false, false] vs then runF 3 [false, false] (x_order_answer g_parts_paper g_order_of) vs else .stuck
theorem a_order_answer {g_parts_paper g_parts_paper' : Fn} (h_g_parts_paper : AyF g_parts_paper g_parts_paper') {g_order_of g_order_of' : Fn} (h_g_order_of : AyF g_order_of g_order_of') : AyF (c_order_answer g_parts_paper g_order_of) (b_order_answer g_parts_paper' g_order_of') := by
  unfold c_order_answer b_order_answer
  refine AyF.run ?_
  unfold x_order_answer s_order_answer
  repeat' (first | assumption | with_reducible refine Ay.seq ?_ ?_ | with_reducible refine AyOs.cons ?_ ?_ | with_reducible exact AyOs.nil | with_reducible exact AyO.sl _ | with_reducible refine AyO.ex ?_ | with_reducible refine Ay.call ?_ ?_ | with_reducible refine AyA.cons ?_ ?_ | with_reducible exact AyA.nil | with_reducible refine Ay.asg ?_ | with_reducible refine Ay.rt ?_ | with_reducible refine Ay.tup ?_ | with_reducible refine AyMs.cons ?_ ?_ | with_reducible exact AyMs.nil | exact Ay.same)
noncomputable def k_order_answer : Fn := c_order_answer k_parts_paper k_order_of
theorem l_order_answer (k : Nat) : AyF k_order_answer (F_order_answer (k + 10)) := by
  rw [e_order_answer]
  exact a_order_answer (l_parts_paper (k + 0)) (l_order_of (k + 4))
noncomputable def x_units_number (g_raised : Fn) : Mm Fl :=
  mSeq (mRt (mOp opMul [.ex (mCall g_raised [(false, .sl 0), (false, .ex (mOp opSub [.sl 1, .ex (mC (.int 1))]))]), .ex (mOp opSub [.sl 0, .ex (mC (.int 1))])]))
  (mRet .nx)
noncomputable def c_units_number (g_raised : Fn) : Fn := fun vs => if okFl [false, false] vs then runF 2 [false, false] (x_units_number g_raised) vs else .stuck
theorem a_units_number {g_raised g_raised' : Fn} (h_g_raised : AyF g_raised g_raised') : AyF (c_units_number g_raised) (b_units_number g_raised') := by
  unfold c_units_number b_units_number
  refine AyF.run ?_
  unfold x_units_number s_units_number
  repeat' (first | assumption | with_reducible refine Ay.seq ?_ ?_ | with_reducible refine Ay.op ?_ | with_reducible refine AyOs.cons ?_ ?_ | with_reducible exact AyOs.nil | with_reducible exact AyO.sl _ | with_reducible refine AyO.ex ?_ | with_reducible refine Ay.call ?_ ?_ | with_reducible refine AyA.cons ?_ ?_ | with_reducible exact AyA.nil | with_reducible refine Ay.rt ?_ | with_reducible refine AyMs.cons ?_ ?_ | with_reducible exact AyMs.nil | exact Ay.same)
noncomputable def k_units_number : Fn := c_units_number k_raised
theorem l_units_number (k : Nat) : AyF k_units_number (F_units_number (k + 2)) := by
  rw [e_units_number]
  exact a_units_number (l_raised (k + 0))
noncomputable def x_least_generator (g_raised : Fn) (g_raised_modulo : Fn) (g_parts_in : Fn) (g_units_number : Fn) : Mm Fl :=
  mSeq (mPar [2, 3, 4] [mCall g_raised [(false, .sl 0), (false, .sl 1)], mCall g_units_number [(false, .sl 0), (false, .sl 1)], mC (.int 2)])
  (mSeq (mAsg 5 (mLc [6, 7] (.tp [.nm 6, .nm 7]) itAny [.ex (mCall g_parts_in [(false, .sl 3)])] (mRet true) (mOp opDiv [.sl 3, .sl 6])))
  (mSeq (mWhB 16 (mOrT (mTest (mOp opEq [.ex (mOp opMod [.sl 4, .sl 0]), .ex (mC (.int 0))])) (mTest (mOp opIn [.ex (mC (.int 1)), .ex (mLc [8] (.nm 8) itAny [.sl 5] (mRet true) (mCall g_raised_modulo [(false, .sl 4), (false, .sl 8), (false, .sl 2)]))]))) (mSeq (mAsg 4 (mOp opAdd [.sl 4, .ex (mC (.int 1))]))
    (mRet .nx)))
  (mSeq (mRt (mMove 4))
  (mRet .nx))))
noncomputable def c_least_generator (g_raised : Fn) (g_raised_modulo : Fn) (g_parts_in : Fn) (g_units_number : Fn) : Fn := fun vs => if okFl [false, false] vs then runF 9 [false, false] (x_least_generator g_raised g_raised_modulo g_parts_in g_units_number) vs else .stuck
theorem a_least_generator {g_raised g_raised' : Fn} (h_g_raised : AyF g_raised g_raised') {g_raised_modulo g_raised_modulo' : Fn} (h_g_raised_modulo : AyF g_raised_modulo g_raised_modulo') {g_parts_in g_parts_in' : Fn} (h_g_parts_in : AyF g_parts_in g_parts_in') {g_units_number g_units_number' : Fn} (h_g_units_number : AyF g_units_number g_units_number') : AyF (c_least_generator g_raised g_raised_modulo g_parts_in g_units_number) (b_least_generator g_raised' g_raised_modulo' g_parts_in' g_units_number') := by
  unfold c_least_generator b_least_generator
  refine AyF.run ?_
  unfold x_least_generator s_least_generator
  repeat' (first | assumption | with_reducible refine Ay.seq ?_ ?_ | with_reducible refine Ay.op ?_ | with_reducible refine AyOs.cons ?_ ?_ | with_reducible exact AyOs.nil | with_reducible exact AyO.sl _ | with_reducible refine AyO.ex ?_ | with_reducible refine Ay.call ?_ ?_ | with_reducible refine AyA.cons ?_ ?_ | with_reducible exact AyA.nil | with_reducible refine Ay.asg ?_ | with_reducible refine Ay.rt ?_ | with_reducible refine Ay.test ?_ | with_reducible refine AyMs.cons ?_ ?_ | with_reducible exact AyMs.nil | with_reducible refine Ay.par ?_ | with_reducible refine Ay.while ?_ ?_ | with_reducible refine Ay.lc ?_ ?_ ?_ | with_reducible refine Ay.orT ?_ ?_ | exact Ay.same)
noncomputable def k_least_generator : Fn := c_least_generator k_raised k_raised_modulo k_parts_in k_units_number
theorem l_least_generator (k : Nat) : AyF k_least_generator (F_least_generator (k + 3)) := by
  rw [e_least_generator]
  exact a_least_generator (l_raised (k + 1)) (l_raised_modulo (k + 1)) (l_parts_in (k + 1)) (l_units_number (k + 0))
noncomputable def x_exponent_to : Mm Fl :=
  mSeq (mPar [3, 4] [mOp opMod [.ex (mC (.int 1)), .sl 2], mC (.int 0)])
  (mSeq (mWhB 16 (mTest (mOp opNe [.sl 3, .sl 1])) (mSeq (mPar [3, 4] [mOp opMod [.ex (mOp opMul [.sl 3, .sl 0]), .sl 2], mOp opAdd [.sl 4, .ex (mC (.int 1))]])
    (mRet .nx)))
  (mSeq (mRt (mMove 4))
  (mRet .nx)))
noncomputable def c_exponent_to : Fn := fun vs => if okFl [false, false, false] vs then runF 5 [false, false, false] (x_exponent_to) vs else .stuck
theorem a_exponent_to : AyF (c_exponent_to) (b_exponent_to) := by
  unfold c_exponent_to b_exponent_to
  refine AyF.run ?_
  unfold x_exponent_to s_exponent_to
  repeat' (first | with_reducible refine Ay.seq ?_ ?_ | with_reducible refine Ay.op ?_ | with_reducible refine AyOs.cons ?_ ?_ | with_reducible exact AyOs.nil | with_reducible exact AyO.sl _ | with_reducible refine AyO.ex ?_ | with_reducible refine Ay.rt ?_ | with_reducible refine Ay.test ?_ | with_reducible refine AyMs.cons ?_ ?_ | with_reducible exact AyMs.nil | with_reducible refine Ay.par ?_ | with_reducible refine Ay.while ?_ ?_ | exact Ay.same)
noncomputable def k_exponent_to : Fn := c_exponent_to
theorem l_exponent_to (k : Nat) : AyF k_exponent_to (F_exponent_to (k + 1)) := by
  rw [e_exponent_to]
  exact a_exponent_to
noncomputable def x_part_exponents (g_raised : Fn) (g_least_generator : Fn) (g_exponent_to : Fn) : Mm Fl :=
  mSeq (mAsg 3 (mCall g_raised [(false, .sl 0), (false, .sl 1)]))
  (mSeq (mIf (mTest (mOp opGt [.sl 0, .ex (mC (.int 2))])) (mSeq (mRt (mLst [mCall g_exponent_to [(false, .ex (mCall g_least_generator [(false, .sl 0), (false, .sl 1)])), (false, .ex (mOp opMod [.sl 2, .sl 3])), (false, .sl 3)]]))
    (mRet .nx)) (mRet .nx))
  (mSeq (mIf (mTest (mOp opLt [.sl 1, .ex (mC (.int 3))])) (mSeq (mRt (mIf (mTest (mOp opEq [.sl 1, .ex (mC (.int 1))])) (mLst []) (mLst [mOp opDiv [.ex (mOp opMod [.sl 2, .ex (mC (.int 4))]), .ex (mC (.int 2))]])))
    (mRet .nx)) (mRet .nx))
  (mSeq (mAsg 4 (mOp opDiv [.ex (mOp opMod [.sl 2, .ex (mC (.int 4))]), .ex (mC (.int 2))]))
  (mSeq (mRt (mLst [mVar 4, mCall g_exponent_to [(false, .ex (mC (.int 5))), (false, .ex (mOp opMod [.ex (mIf (mTest (mOp opEq [.sl 4, .ex (mC (.int 1))])) (mOp opSub [.sl 3, .sl 2]) (mVar 2)), .sl 3])), (false, .sl 3)]]))
  (mRet .nx)))))
noncomputable def c_part_exponents (g_raised : Fn) (g_least_generator : Fn) (g_exponent_to : Fn) : Fn := fun vs => if okFl [false, false, false] vs then runF 5 [false, false, false] (x_part_exponents g_raised g_least_generator g_exponent_to) vs else .stuck
theorem a_part_exponents {g_raised g_raised' : Fn} (h_g_raised : AyF g_raised g_raised') {g_least_generator g_least_generator' : Fn} (h_g_least_generator : AyF g_least_generator g_least_generator') {g_exponent_to g_exponent_to' : Fn} (h_g_exponent_to : AyF g_exponent_to g_exponent_to') : AyF (c_part_exponents g_raised g_least_generator g_exponent_to) (b_part_exponents g_raised' g_least_generator' g_exponent_to') := by
  unfold c_part_exponents b_part_exponents
  refine AyF.run ?_
  unfold x_part_exponents s_part_exponents
  repeat' (first | assumption | with_reducible refine Ay.seq ?_ ?_ | with_reducible refine Ay.op ?_ | with_reducible refine AyOs.cons ?_ ?_ | with_reducible exact AyOs.nil | with_reducible exact AyO.sl _ | with_reducible refine AyO.ex ?_ | with_reducible refine Ay.call ?_ ?_ | with_reducible refine AyA.cons ?_ ?_ | with_reducible exact AyA.nil | with_reducible refine Ay.asg ?_ | with_reducible refine Ay.rt ?_ | with_reducible refine Ay.test ?_ | with_reducible refine Ay.lst ?_ | with_reducible refine AyMs.cons ?_ ?_ | with_reducible exact AyMs.nil | with_reducible refine Ay.ifm ?_ ?_ ?_ | exact Ay.same)
noncomputable def k_part_exponents : Fn := c_part_exponents k_raised k_least_generator k_exponent_to
theorem l_part_exponents (k : Nat) : AyF k_part_exponents (F_part_exponents (k + 4)) := by
  rw [e_part_exponents]
  exact a_part_exponents (l_raised (k + 2)) (l_least_generator (k + 0)) (l_exponent_to (k + 2))
noncomputable def x_exponents_of (g_require_short : Fn) (g_require_within : Fn) (g_parts_in : Fn) (g_require_unit : Fn) (g_part_exponents : Fn) : Mm Fl :=
  mSeq (mDrop (mCall g_require_short [(false, .sl 0)]))
  (mSeq (mDrop (mCall g_require_within [(false, .sl 1), (false, .ex (mC (.int 1))), (false, .ex (mC (.int (20000))))]))
  (mSeq (mDrop (mCall g_require_unit [(false, .sl 0), (false, .sl 1)]))
  (mSeq (mAsg 2 (mLst []))
  (mSeq (mFor (.tp [.nm 3, .nm 4]) itAny [.ex (mCall g_parts_in [(false, .sl 1)])] (mSeq (mAsg 2 (mOp opAdd [.sl 2, .ex (mCall g_part_exponents [(false, .sl 3), (false, .sl 4), (false, .sl 0)])]))
    (mRet .nx)))
  (mSeq (mRt (mOp opTuple [.sl 2]))
  (mRet .nx))))))
noncomputable def c_exponents_of (g_require_short : Fn) (g_require_within : Fn) (g_parts_in : Fn) (g_require_unit : Fn) (g_part_exponents : Fn) : Fn := fun vs => if okFl [false, false] vs then runF 5 [false, false] (x_exponents_of g_require_short g_require_within g_parts_in g_require_unit g_part_exponents) vs else .stuck
theorem a_exponents_of {g_require_short g_require_short' : Fn} (h_g_require_short : AyF g_require_short g_require_short') {g_require_within g_require_within' : Fn} (h_g_require_within : AyF g_require_within g_require_within') {g_parts_in g_parts_in' : Fn} (h_g_parts_in : AyF g_parts_in g_parts_in') {g_require_unit g_require_unit' : Fn} (h_g_require_unit : AyF g_require_unit g_require_unit') {g_part_exponents g_part_exponents' : Fn} (h_g_part_exponents : AyF g_part_exponents g_part_exponents') : AyF (c_exponents_of g_require_short g_require_within g_parts_in g_require_unit g_part_exponents) (b_exponents_of g_require_short' g_require_within' g_parts_in' g_require_unit' g_part_exponents') := by
  unfold c_exponents_of b_exponents_of
  refine AyF.run ?_
  unfold x_exponents_of s_exponents_of
  repeat' (first | assumption | with_reducible refine Ay.seq ?_ ?_ | with_reducible refine Ay.op ?_ | with_reducible refine AyOs.cons ?_ ?_ | with_reducible exact AyOs.nil | with_reducible exact AyO.sl _ | with_reducible refine AyO.ex ?_ | with_reducible refine Ay.call ?_ ?_ | with_reducible refine AyA.cons ?_ ?_ | with_reducible exact AyA.nil | with_reducible refine Ay.asg ?_ | with_reducible refine Ay.rt ?_ | with_reducible refine Ay.lst ?_ | with_reducible refine AyMs.cons ?_ ?_ | with_reducible exact AyMs.nil | with_reducible refine Ay.drop ?_ | with_reducible refine Ay.for ?_ ?_ | exact Ay.same)
noncomputable def k_exponents_of : Fn := c_exponents_of k_require_short k_require_within k_parts_in k_require_unit k_part_exponents
theorem l_exponents_of (k : Nat) : AyF k_exponents_of (F_exponents_of (k + 5)) := by
  rw [e_exponents_of]
  exact a_exponents_of (l_require_short (k + 1)) (l_require_within (k + 1)) (l_parts_in (k + 3)) (l_require_unit (k + 1)) (l_part_exponents (k + 0))
noncomputable def x_own_generators (g_raised : Fn) (g_units_number : Fn) (g_least_generator : Fn) : Mm Fl :=
  mSeq (mIf (mTest (mOp opGt [.sl 0, .ex (mC (.int 2))])) (mSeq (mRt (mLst [mTup [mCall g_least_generator [(false, .sl 0), (false, .sl 1)], mCall g_units_number [(false, .sl 0), (false, .sl 1)]]]))
    (mRet .nx)) (mRet .nx))
  (mSeq (mIf (mTest (mOp opEq [.sl 1, .ex (mC (.int 1))])) (mSeq (mRt (mLst []))
    (mRet .nx)) (mRet .nx))
  (mSeq (mIf (mTest (mOp opEq [.sl 1, .ex (mC (.int 2))])) (mSeq (mRt (mLst [mTup [mC (.int 3), mC (.int 2)]]))
    (mRet .nx)) (mRet .nx))
  (mSeq (mRt (mLst [mTup [mOp opSub [.ex (mCall g_raised [(false, .ex (mC (.int 2))), (false, .sl 1)]), .ex (mC (.int 1))], mC (.int 2)], mTup [mC (.int 5), mCall g_raised [(false, .ex (mC (.int 2))), (false, .ex (mOp opSub [.sl 1, .ex (mC (.int 2))]))]]]))
  (mRet .nx))))
noncomputable def c_own_generators (g_raised : Fn) (g_units_number : Fn) (g_least_generator : Fn) : Fn := fun vs => if okFl [false, false] vs then runF 2 [false, false] (x_own_generators g_raised g_units_number g_least_generator) vs else .stuck
theorem a_own_generators {g_raised g_raised' : Fn} (h_g_raised : AyF g_raised g_raised') {g_units_number g_units_number' : Fn} (h_g_units_number : AyF g_units_number g_units_number') {g_least_generator g_least_generator' : Fn} (h_g_least_generator : AyF g_least_generator g_least_generator') : AyF (c_own_generators g_raised g_units_number g_least_generator) (b_own_generators g_raised' g_units_number' g_least_generator') := by
  unfold c_own_generators b_own_generators
  refine AyF.run ?_
  unfold x_own_generators s_own_generators
  repeat' (first | assumption | with_reducible refine Ay.seq ?_ ?_ | with_reducible refine Ay.op ?_ | with_reducible refine AyOs.cons ?_ ?_ | with_reducible exact AyOs.nil | with_reducible exact AyO.sl _ | with_reducible refine AyO.ex ?_ | with_reducible refine Ay.call ?_ ?_ | with_reducible refine AyA.cons ?_ ?_ | with_reducible exact AyA.nil | with_reducible refine Ay.rt ?_ | with_reducible refine Ay.test ?_ | with_reducible refine Ay.tup ?_ | with_reducible refine Ay.lst ?_ | with_reducible refine AyMs.cons ?_ ?_ | with_reducible exact AyMs.nil | with_reducible refine Ay.ifm ?_ ?_ ?_ | exact Ay.same)
noncomputable def k_own_generators : Fn := c_own_generators k_raised k_units_number k_least_generator
theorem l_own_generators (k : Nat) : AyF k_own_generators (F_own_generators (k + 4)) := by
  rw [e_own_generators]
  exact a_own_generators (l_raised (k + 2)) (l_units_number (k + 1)) (l_least_generator (k + 0))
noncomputable def x_undone (g_euclid : Fn) : Mm Fl :=
  mSeq (mAsgT (.tp [.nm 2, .nm 3, .nm 4]) (mCall g_euclid [(false, .ex (mOp opMod [.sl 0, .sl 1])), (false, .sl 1)]))
  (mSeq (mRt (mIf (mTest (mOp opEq [.sl 2, .ex (mC (.int 1))])) (mOp opMod [.sl 3, .sl 1]) (mC .none)))
  (mRet .nx))
noncomputable def c_undone (g_euclid : Fn) : Fn := fun vs => if okFl [false, false] vs then runF 5 [false, false] (x_undone g_euclid) vs else .stuck
theorem a_undone {g_euclid g_euclid' : Fn} (h_g_euclid : AyF g_euclid g_euclid') : AyF (c_undone g_euclid) (b_undone g_euclid') := by
  unfold c_undone b_undone
  refine AyF.run ?_
  unfold x_undone s_undone
  repeat' (first | assumption | with_reducible refine Ay.seq ?_ ?_ | with_reducible refine Ay.op ?_ | with_reducible refine AyOs.cons ?_ ?_ | with_reducible exact AyOs.nil | with_reducible exact AyO.sl _ | with_reducible refine AyO.ex ?_ | with_reducible refine Ay.call ?_ ?_ | with_reducible refine AyA.cons ?_ ?_ | with_reducible exact AyA.nil | with_reducible refine Ay.rt ?_ | with_reducible refine Ay.test ?_ | with_reducible refine AyMs.cons ?_ ?_ | with_reducible exact AyMs.nil | with_reducible refine Ay.ifm ?_ ?_ ?_ | with_reducible refine Ay.asgT ?_ | exact Ay.same)
noncomputable def k_undone : Fn := c_undone k_euclid
theorem l_undone (k : Nat) : AyF k_undone (F_undone (k + 2)) := by
  rw [e_undone]
  exact a_undone (l_euclid (k + 0))
noncomputable def x_residue_with (g_undone : Fn) : Mm Fl :=
  mSeq (mAsg 3 (mOp opDiv [.sl 2, .sl 0]))
  (mSeq (mRt (mOp opMod [.ex (mOp opAdd [.ex (mC (.int 1)), .ex (mOp opMul [.sl 3, .ex (mOp opMod [.ex (mOp opMul [.ex (mOp opSub [.sl 1, .ex (mC (.int 1))]), .ex (mCall g_undone [(false, .sl 3), (false, .sl 0)])]), .sl 0])])]), .sl 2]))
  (mRet .nx))
noncomputable def c_residue_with (g_undone : Fn) : Fn := fun vs => if okFl [false, false, false] vs then runF 4 [false, false, false] (x_residue_with g_undone) vs else .stuck
theorem a_residue_with {g_undone g_undone' : Fn} (h_g_undone : AyF g_undone g_undone') : AyF (c_residue_with g_undone) (b_residue_with g_undone') := by
  unfold c_residue_with b_residue_with
  refine AyF.run ?_
  unfold x_residue_with s_residue_with
  repeat' (first | assumption | with_reducible refine Ay.seq ?_ ?_ | with_reducible refine Ay.op ?_ | with_reducible refine AyOs.cons ?_ ?_ | with_reducible exact AyOs.nil | with_reducible exact AyO.sl _ | with_reducible refine AyO.ex ?_ | with_reducible refine Ay.call ?_ ?_ | with_reducible refine AyA.cons ?_ ?_ | with_reducible exact AyA.nil | with_reducible refine Ay.asg ?_ | with_reducible refine Ay.rt ?_ | with_reducible refine AyMs.cons ?_ ?_ | with_reducible exact AyMs.nil | exact Ay.same)
noncomputable def k_residue_with : Fn := c_residue_with k_undone
theorem l_residue_with (k : Nat) : AyF k_residue_with (F_residue_with (k + 3)) := by
  rw [e_residue_with]
  exact a_residue_with (l_undone (k + 0))
noncomputable def x_generators_of (g_require_modulus : Fn) (g_raised : Fn) (g_parts_in : Fn) (g_own_generators : Fn) (g_residue_with : Fn) : Mm Fl :=
  mSeq (mDrop (mCall g_require_modulus [(false, .sl 0)]))
  (mSeq (mAsg 1 (mLst []))
  (mSeq (mFor (.tp [.nm 2, .nm 3]) itAny [.ex (mCall g_parts_in [(false, .sl 0)])] (mSeq (mAsg 1 (mOp opAdd [.sl 1, .ex (mLc [4, 5] (.tp [.nm 4, .nm 5]) itAny [.ex (mCall g_own_generators [(false, .sl 2), (false, .sl 3)])] (mRet true) (mTup [mCall g_residue_with [(false, .ex (mCall g_raised [(false, .sl 2), (false, .sl 3)])), (false, .sl 4), (false, .sl 0)], mVar 5]))]))
    (mRet .nx)))
  (mSeq (mRt (mOp opTuple [.sl 1]))
  (mRet .nx))))
noncomputable def c_generators_of (g_require_modulus : Fn) (g_raised : Fn) (g_parts_in : Fn) (g_own_generators : Fn) (g_residue_with : Fn) : Fn := fun vs => if okFl [false] vs then runF 6 [false] (x_generators_of g_require_modulus g_raised g_parts_in g_own_generators g_residue_with) vs else .stuck
theorem a_generators_of {g_require_modulus g_require_modulus' : Fn} (h_g_require_modulus : AyF g_require_modulus g_require_modulus') {g_raised g_raised' : Fn} (h_g_raised : AyF g_raised g_raised') {g_parts_in g_parts_in' : Fn} (h_g_parts_in : AyF g_parts_in g_parts_in') {g_own_generators g_own_generators' : Fn} (h_g_own_generators : AyF g_own_generators g_own_generators') {g_residue_with g_residue_with' : Fn} (h_g_residue_with : AyF g_residue_with g_residue_with') : AyF (c_generators_of g_require_modulus g_raised g_parts_in g_own_generators g_residue_with) (b_generators_of g_require_modulus' g_raised' g_parts_in' g_own_generators' g_residue_with') := by
  unfold c_generators_of b_generators_of
  refine AyF.run ?_
  unfold x_generators_of s_generators_of
  repeat' (first | assumption | with_reducible refine Ay.seq ?_ ?_ | with_reducible refine Ay.op ?_ | with_reducible refine AyOs.cons ?_ ?_ | with_reducible exact AyOs.nil | with_reducible exact AyO.sl _ | with_reducible refine AyO.ex ?_ | with_reducible refine Ay.call ?_ ?_ | with_reducible refine AyA.cons ?_ ?_ | with_reducible exact AyA.nil | with_reducible refine Ay.asg ?_ | with_reducible refine Ay.rt ?_ | with_reducible refine Ay.tup ?_ | with_reducible refine Ay.lst ?_ | with_reducible refine AyMs.cons ?_ ?_ | with_reducible exact AyMs.nil | with_reducible refine Ay.drop ?_ | with_reducible refine Ay.for ?_ ?_ | with_reducible refine Ay.lc ?_ ?_ ?_ | exact Ay.same)
noncomputable def k_generators_of : Fn := c_generators_of k_require_modulus k_raised k_parts_in k_own_generators k_residue_with
theorem l_generators_of (k : Nat) : AyF k_generators_of (F_generators_of (k + 5)) := by
  rw [e_generators_of]
  exact a_generators_of (l_require_modulus (k + 0)) (l_raised (k + 3)) (l_parts_in (k + 3)) (l_own_generators (k + 0)) (l_residue_with (k + 1))
noncomputable def x_units_answer (g_parts_paper : Fn) (g_generators_of : Fn) : Mm Fl :=
  mSeq (mAsg 1 (mCall g_generators_of [(false, .sl 0)]))
  (mSeq (mRt (mTup [mTup [mC (.str (Str.ofString "units")), mVar 0, mVar 1], mTup [mCall g_parts_paper [(false, .sl 0)], mOp opTuple [.ex (mLc [2, 3] (.tp [.nm 2, .nm 3]) itAny [.sl 1] (mRet true) (mCall g_parts_paper [(false, .sl 3)]))]]]))
  (mRet .nx))
noncomputable def c_units_answer (g_parts_paper : Fn) (g_generators_of : Fn) : Fn := fun vs => if okFl [false] vs then runF 4 [false] (x_units_answer g_parts_paper g_generators_of) vs else .stuck
theorem a_units_answer {g_parts_paper g_parts_paper' : Fn} (h_g_parts_paper : AyF g_parts_paper g_parts_paper') {g_generators_of g_generators_of' : Fn} (h_g_generators_of : AyF g_generators_of g_generators_of') : AyF (c_units_answer g_parts_paper g_generators_of) (b_units_answer g_parts_paper' g_generators_of') := by
  unfold c_units_answer b_units_answer
  refine AyF.run ?_
  unfold x_units_answer s_units_answer
  repeat' (first | assumption | with_reducible refine Ay.seq ?_ ?_ | with_reducible refine Ay.op ?_ | with_reducible refine AyOs.cons ?_ ?_ | with_reducible exact AyOs.nil | with_reducible exact AyO.sl _ | with_reducible refine AyO.ex ?_ | with_reducible refine Ay.call ?_ ?_ | with_reducible refine AyA.cons ?_ ?_ | with_reducible exact AyA.nil | with_reducible refine Ay.asg ?_ | with_reducible refine Ay.rt ?_ | with_reducible refine Ay.tup ?_ | with_reducible refine AyMs.cons ?_ ?_ | with_reducible exact AyMs.nil | with_reducible refine Ay.lc ?_ ?_ ?_ | exact Ay.same)
noncomputable def k_units_answer : Fn := c_units_answer k_parts_paper k_generators_of
theorem l_units_answer (k : Nat) : AyF k_units_answer (F_units_answer (k + 10)) := by
  rw [e_units_answer]
  exact a_units_answer (l_parts_paper (k + 0)) (l_generators_of (k + 4))
noncomputable def x_group_of (g_raised : Fn) (g_parts_in : Fn) (g_generators_of : Fn) : Mm Fl :=
  mSeq (mAsg 1 (mDct0))
  (mSeq (mFor (.tp [.nm 2, .nm 3]) itAny [.ex (mCall g_generators_of [(false, .sl 0)])] (mSeq (mFor (.tp [.nm 4, .nm 5]) itAny [.ex (mCall g_parts_in [(false, .sl 3)])] (mSeq (mPut 1 (.sl 4) (mOp opAdd [.ex (mGet 1 (.sl 4) (mLst [])), .ex (mLst [mCall g_raised [(false, .sl 4), (false, .sl 5)]])]))
      (mRet .nx)))
    (mRet .nx)))
  (mSeq (mAsg 6 (mLst []))
  (mSeq (mFor (.nm 4) itAny [.ex (mOp opSorted [.sl 1])] (mSeq (mFor (.tp [.nm 7, .nm 8]) itEnum [.ex (mOp opRev [.ex (mOp opSorted [.ex (mOp opItem [.sl 1, .sl 4])])])] (mSeq (mIf (mTest (mOp opEq [.sl 7, .ex (mOp opLen [.sl 6])])) (mSeq (mDrop (mApp 6 (mC (.int 1))))
        (mRet .nx)) (mRet .nx))
      (mSeq (mPut 6 (.sl 7) (mOp opMul [.ex (mOp opItem [.sl 6, .sl 7]), .sl 8]))
      (mRet .nx))))
    (mRet .nx)))
  (mSeq (mRt (mOp opTuple [.ex (mOp opRev [.sl 6])]))
  (mRet .nx)))))
noncomputable def c_group_of (g_raised : Fn) (g_parts_in : Fn) (g_generators_of : Fn) : Fn := fun vs => if okFl [false] vs then runF 9 [false] (x_group_of g_raised g_parts_in g_generators_of) vs else .stuck
theorem a_group_of {g_raised g_raised' : Fn} (h_g_raised : AyF g_raised g_raised') {g_parts_in g_parts_in' : Fn} (h_g_parts_in : AyF g_parts_in g_parts_in') {g_generators_of g_generators_of' : Fn} (h_g_generators_of : AyF g_generators_of g_generators_of') : AyF (c_group_of g_raised g_parts_in g_generators_of) (b_group_of g_raised' g_parts_in' g_generators_of') := by
  unfold c_group_of b_group_of
  refine AyF.run ?_
  unfold x_group_of s_group_of
  repeat' (first | assumption | with_reducible refine Ay.seq ?_ ?_ | with_reducible refine Ay.op ?_ | with_reducible refine AyOs.cons ?_ ?_ | with_reducible exact AyOs.nil | with_reducible exact AyO.sl _ | with_reducible refine AyO.ex ?_ | with_reducible refine Ay.call ?_ ?_ | with_reducible refine AyA.cons ?_ ?_ | with_reducible exact AyA.nil | with_reducible refine Ay.asg ?_ | with_reducible refine Ay.rt ?_ | with_reducible refine Ay.test ?_ | with_reducible refine Ay.lst ?_ | with_reducible refine AyMs.cons ?_ ?_ | with_reducible exact AyMs.nil | with_reducible refine Ay.ifm ?_ ?_ ?_ | with_reducible refine Ay.drop ?_ | with_reducible refine Ay.for ?_ ?_ | with_reducible refine Ay.app ?_ | with_reducible refine Ay.put ?_ ?_ | with_reducible refine Ay.get ?_ ?_ | exact Ay.same)
noncomputable def k_group_of : Fn := c_group_of k_raised k_parts_in k_generators_of
theorem l_group_of (k : Nat) : AyF k_group_of (F_group_of (k + 6)) := by
  rw [e_group_of]
  exact a_group_of (l_raised (k + 4)) (l_parts_in (k + 4)) (l_generators_of (k + 0))
noncomputable def x_greatest_order (g_group_of : Fn) : Mm Fl :=
  mSeq (mAsg 1 (mCall g_group_of [(false, .sl 0)]))
  (mSeq (mRt (mIf (mTest (mOp opNe [.sl 1, .ex (mTup [])])) (mOp opItem [.sl 1, .ex (mOp opNeg [.ex (mC (.int 1))])]) (mC (.int 1))))
  (mRet .nx))
noncomputable def c_greatest_order (g_group_of : Fn) : Fn := fun vs => if okFl [false] vs then runF 2 [false] (x_greatest_order g_group_of) vs else .stuck
theorem a_greatest_order {g_group_of g_group_of' : Fn} (h_g_group_of : AyF g_group_of g_group_of') : AyF (c_greatest_order g_group_of) (b_greatest_order g_group_of') := by
  unfold c_greatest_order b_greatest_order
  refine AyF.run ?_
  unfold x_greatest_order s_greatest_order
  repeat' (first | assumption | with_reducible refine Ay.seq ?_ ?_ | with_reducible refine Ay.op ?_ | with_reducible refine AyOs.cons ?_ ?_ | with_reducible exact AyOs.nil | with_reducible exact AyO.sl _ | with_reducible refine AyO.ex ?_ | with_reducible refine Ay.call ?_ ?_ | with_reducible refine AyA.cons ?_ ?_ | with_reducible exact AyA.nil | with_reducible refine Ay.asg ?_ | with_reducible refine Ay.rt ?_ | with_reducible refine Ay.test ?_ | with_reducible refine Ay.tup ?_ | with_reducible refine AyMs.cons ?_ ?_ | with_reducible exact AyMs.nil | with_reducible refine Ay.ifm ?_ ?_ ?_ | exact Ay.same)
noncomputable def k_greatest_order : Fn := c_greatest_order k_group_of
theorem l_greatest_order (k : Nat) : AyF k_greatest_order (F_greatest_order (k + 7)) := by
  rw [e_greatest_order]
  exact a_greatest_order (l_group_of (k + 0))
noncomputable def x_is_short_from (g_is_short : Fn) : Mm Fl :=
  mSeq (mRt (mAnd (mCall g_is_short [(false, .sl 0)]) (mOp opGe [.sl 0, .sl 1])))
  (mRet .nx)
noncomputable def c_is_short_from (g_is_short : Fn) : Fn := fun vs => if okFl [false, false] vs then runF 2 [false, false] (x_is_short_from g_is_short) vs else .stuck
theorem a_is_short_from {g_is_short g_is_short' : Fn} (h_g_is_short : AyF g_is_short g_is_short') : AyF (c_is_short_from g_is_short) (b_is_short_from g_is_short') := by
  unfold c_is_short_from b_is_short_from
  refine AyF.run ?_
  unfold x_is_short_from s_is_short_from
  repeat' (first | assumption | with_reducible refine Ay.seq ?_ ?_ | with_reducible refine Ay.op ?_ | with_reducible refine AyOs.cons ?_ ?_ | with_reducible exact AyOs.nil | with_reducible exact AyO.sl _ | with_reducible refine AyO.ex ?_ | with_reducible refine Ay.call ?_ ?_ | with_reducible refine AyA.cons ?_ ?_ | with_reducible exact AyA.nil | with_reducible refine Ay.rt ?_ | with_reducible refine AyMs.cons ?_ ?_ | with_reducible exact AyMs.nil | with_reducible refine Ay.and ?_ ?_ | exact Ay.same)
noncomputable def k_is_short_from : Fn := c_is_short_from k_is_short
theorem l_is_short_from (k : Nat) : AyF k_is_short_from (F_is_short_from (k + 3)) := by
  rw [e_is_short_from]
  exact a_is_short_from (l_is_short (k + 0))
noncomputable def x_require_from (g_is_short_from : Fn) : Mm Fl :=
  mSeq (mIf (mNotT (mTest (mCall g_is_short_from [(false, .sl 0), (false, .sl 1)]))) (mSeq (mRaiseF (Str.ofString "InvalidNumber") (mVar 0))
    (mRet .nx)) (mRet .nx))
  (mRet .nx)
noncomputable def c_require_from (g_is_short_from : Fn) : Fn := fun vs => if okFl [false, false] vs then runF 2 [false, false] (x_require_from g_is_short_from) vs else .stuck
theorem a_require_from {g_is_short_from g_is_short_from' : Fn} (h_g_is_short_from : AyF g_is_short_from g_is_short_from') : AyF (c_require_from g_is_short_from) (b_require_from g_is_short_from') := by
  unfold c_require_from b_require_from
  refine AyF.run ?_
  unfold x_require_from s_require_from
  repeat' (first | assumption | with_reducible refine Ay.seq ?_ ?_ | with_reducible refine AyOs.cons ?_ ?_ | with_reducible exact AyOs.nil | with_reducible exact AyO.sl _ | with_reducible refine AyO.ex ?_ | with_reducible refine Ay.call ?_ ?_ | with_reducible refine AyA.cons ?_ ?_ | with_reducible exact AyA.nil | with_reducible refine Ay.test ?_ | with_reducible refine AyMs.cons ?_ ?_ | with_reducible exact AyMs.nil | with_reducible refine Ay.ifm ?_ ?_ ?_ | with_reducible refine Ay.notT ?_ | with_reducible refine Ay.raiseF ?_ | exact Ay.same)
noncomputable def k_require_from : Fn := c_require_from k_is_short_from
theorem l_require_from (k : Nat) : AyF k_require_from (F_require_from (k + 4)) := by
  rw [e_require_from]
  exact a_require_from (l_is_short_from (k + 0))
noncomputable def x_order_count (g_require_from : Fn) (g_require_modulus : Fn) (g_raised : Fn) (g_divisor_of_two : Fn) (g_parts_in : Fn) (g_group_of : Fn) (g_greatest_order : Fn) : Mm Fl :=
  mSeq (mDrop (mCall g_require_modulus [(false, .sl 0)]))
  (mSeq (mDrop (mCall g_require_from [(false, .sl 1), (false, .ex (mC (.int 1)))]))
  (mSeq (mAsg 2 (mCall g_group_of [(false, .sl 0)]))
  (mSeq (mIf (mTest (mOp opNe [.ex (mOp opMod [.ex (mCall g_greatest_order [(false, .sl 0)]), .sl 1]), .ex (mC (.int 0))])) (mSeq (mRt (mC (.int 0)))
    (mRet .nx)) (mRet .nx))
  (mSeq (mAsg 3 (mC (.int 1)))
  (mSeq (mFor (.tp [.nm 4, .nm 5]) itAny [.ex (mCall g_parts_in [(false, .sl 1)])] (mSeq (mAsgT (.tp [.nm 6, .nm 7]) (mTup [mC (.int 1), mC (.int 1)]))
    (mSeq (mFor (.nm 8) itAny [.sl 2] (mSeq (mAsg 6 (mOp opMul [.sl 6, .ex (mCall g_divisor_of_two [(false, .sl 8), (false, .ex (mCall g_raised [(false, .sl 4), (false, .sl 5)]))])]))
      (mSeq (mAsg 7 (mOp opMul [.sl 7, .ex (mCall g_divisor_of_two [(false, .sl 8), (false, .ex (mCall g_raised [(false, .sl 4), (false, .ex (mOp opSub [.sl 5, .ex (mC (.int 1))]))]))])]))
      (mRet .nx))))
    (mSeq (mAsg 3 (mOp opMul [.sl 3, .ex (mOp opSub [.sl 6, .sl 7])]))
    (mRet .nx)))))
  (mSeq (mRt (mMove 3))
  (mRet .nx)))))))
noncomputable def c_order_count (g_require_from : Fn) (g_require_modulus : Fn) (g_raised : Fn) (g_divisor_of_two : Fn) (g_parts_in : Fn) (g_group_of : Fn) (g_greatest_order : Fn) : Fn := fun vs => if okFl [false, false] vs then runF 9 [false, false] (x_order_count g_require_from g_require_modulus g_raised g_divisor_of_two g_parts_in g_group_of g_greatest_order) vs else .stuck
theorem a_order_count {g_require_from g_require_from' : Fn} (h_g_require_from : AyF g_require_from g_require_from') {g_require_modulus g_require_modulus' : Fn} (h_g_require_modulus : AyF g_require_modulus g_require_modulus') {g_raised g_raised' : Fn} (h_g_raised : AyF g_raised g_raised') {g_divisor_of_two g_divisor_of_two' : Fn} (h_g_divisor_of_two : AyF g_divisor_of_two g_divisor_of_two') {g_parts_in g_parts_in' : Fn} (h_g_parts_in : AyF g_parts_in g_parts_in') {g_group_of g_group_of' : Fn} (h_g_group_of : AyF g_group_of g_group_of') {g_greatest_order g_greatest_order' : Fn} (h_g_greatest_order : AyF g_greatest_order g_greatest_order') : AyF (c_order_count g_require_from g_require_modulus g_raised g_divisor_of_two g_parts_in g_group_of g_greatest_order) (b_order_count g_require_from' g_require_modulus' g_raised' g_divisor_of_two' g_parts_in' g_group_of' g_greatest_order') := by
  unfold c_order_count b_order_count
  refine AyF.run ?_
  unfold x_order_count s_order_count
  repeat' (first | assumption | with_reducible refine Ay.seq ?_ ?_ | with_reducible refine Ay.op ?_ | with_reducible refine AyOs.cons ?_ ?_ | with_reducible exact AyOs.nil | with_reducible exact AyO.sl _ | with_reducible refine AyO.ex ?_ | with_reducible refine Ay.call ?_ ?_ | with_reducible refine AyA.cons ?_ ?_ | with_reducible exact AyA.nil | with_reducible refine Ay.asg ?_ | with_reducible refine Ay.rt ?_ | with_reducible refine Ay.test ?_ | with_reducible refine Ay.tup ?_ | with_reducible refine AyMs.cons ?_ ?_ | with_reducible exact AyMs.nil | with_reducible refine Ay.ifm ?_ ?_ ?_ | with_reducible refine Ay.drop ?_ | with_reducible refine Ay.for ?_ ?_ | with_reducible refine Ay.asgT ?_ | exact Ay.same)
noncomputable def k_order_count : Fn := c_order_count k_require_from k_require_modulus k_raised k_divisor_of_two k_parts_in k_group_of k_greatest_order
theorem l_order_count (k : Nat) : AyF k_order_count (F_order_count (k + 8)) := by
  rw [e_order_count]
  exact a_order_count (l_require_from (k + 3)) (l_require_modulus (k + 3)) (l_raised (k + 6)) (l_divisor_of_two (k + 5)) (l_parts_in (k + 6)) (l_group_of (k + 1)) (l_greatest_order (k + 0))
noncomputable def x_unit_with (g_is_short : Fn) (g_require_within : Fn) (g_raised_modulo : Fn) (g_generators_of : Fn) : Mm Fl :=
  mSeq (mDrop (mCall g_require_within [(false, .sl 0), (false, .ex (mC (.int 1))), (false, .ex (mC (.int (20000))))]))
  (mSeq (mAsg 2 (mCall g_generators_of [(false, .sl 0)]))
  (mSeq (mIf (mOrT (mNotT (mTest (mOp (opIsi "tuple") [.sl 1]))) (mOrT (mTest (mOp opNe [.ex (mOp opLen [.sl 1]), .ex (mOp opLen [.sl 2])])) (mNotT (mTest (mOp opAll [.ex (mLc [3] (.nm 3) itAny [.sl 1] (mRet true) (mCall g_is_short [(false, .sl 3)]))]))))) (mSeq (mRaise (Str.ofString "InvalidRow") .none)
    (mRet .nx)) (mRet .nx))
  (mSeq (mAsg 4 (mOp opMod [.ex (mC (.int 1)), .sl 0]))
  (mSeq (mFor (.tp [.tp [.nm 5, .nm 6], .nm 7]) itZip [.sl 2, .sl 1] (mSeq (mAsg 4 (mOp opMod [.ex (mOp opMul [.sl 4, .ex (mCall g_raised_modulo [(false, .sl 5), (false, .ex (mOp opMod [.sl 7, .sl 6])), (false, .sl 0)])]), .sl 0]))
    (mRet .nx)))
  (mSeq (mRt (mMove 4))
  (mRet .nx))))))
noncomputable def c_unit_with (g_is_short : Fn) (g_require_within : Fn) (g_raised_modulo : Fn) (g_generators_of : Fn) : Fn := fun vs => if okFl [false, false] vs then runF 8 [false, false] (x_unit_with g_is_short g_require_within g_raised_modulo g_generators_of) vs else .stuck
theorem a_unit_with {g_is_short g_is_short' : Fn} (h_g_is_short : AyF g_is_short g_is_short') {g_require_within g_require_within' : Fn} (h_g_require_within : AyF g_require_within g_require_within') {g_raised_modulo g_raised_modulo' : Fn} (h_g_raised_modulo : AyF g_raised_modulo g_raised_modulo') {g_generators_of g_generators_of' : Fn} (h_g_generators_of : AyF g_generators_of g_generators_of') : AyF (c_unit_with g_is_short g_require_within g_raised_modulo g_generators_of) (b_unit_with g_is_short' g_require_within' g_raised_modulo' g_generators_of') := by
  unfold c_unit_with b_unit_with
  refine AyF.run ?_
  unfold x_unit_with s_unit_with
  repeat' (first | assumption | with_reducible refine Ay.seq ?_ ?_ | with_reducible refine Ay.op ?_ | with_reducible refine AyOs.cons ?_ ?_ | with_reducible exact AyOs.nil | with_reducible exact AyO.sl _ | with_reducible refine AyO.ex ?_ | with_reducible refine Ay.call ?_ ?_ | with_reducible refine AyA.cons ?_ ?_ | with_reducible exact AyA.nil | with_reducible refine Ay.asg ?_ | with_reducible refine Ay.rt ?_ | with_reducible refine Ay.test ?_ | with_reducible refine AyMs.cons ?_ ?_ | with_reducible exact AyMs.nil | with_reducible refine Ay.ifm ?_ ?_ ?_ | with_reducible refine Ay.drop ?_ | with_reducible refine Ay.for ?_ ?_ | with_reducible refine Ay.lc ?_ ?_ ?_ | with_reducible refine Ay.notT ?_ | with_reducible refine Ay.orT ?_ ?_ | exact Ay.same)
noncomputable def k_unit_with : Fn := c_unit_with k_is_short k_require_within k_raised_modulo k_generators_of
theorem l_unit_with (k : Nat) : AyF k_unit_with (F_unit_with (k + 6)) := by
  rw [e_unit_with]
  exact a_unit_with (l_is_short (k + 3)) (l_require_within (k + 2)) (l_raised_modulo (k + 4)) (l_generators_of (k + 0))
noncomputable def x__law_gcd : Mm Fl :=
  mSeq (mPar [2, 3] [mOp opAbs [.sl 0], mOp opAbs [.sl 1]])
  (mSeq (mWhB 16 (mTest (mOp opGt [.sl 3, .ex (mC (.int 0))])) (mSeq (mPar [2, 3] [mVar 3, mOp opMod [.ex (mOp opInt [.sl 2]), .sl 3]])
    (mRet .nx)))
  (mSeq (mRt (mMove 2))
  (mRet .nx)))
noncomputable def c__law_gcd : Fn := fun vs => if okFl [false, false] vs then runF 4 [false, false] (x__law_gcd) vs else .stuck
theorem a__law_gcd : AyF (c__law_gcd) (b__law_gcd) := by
  unfold c__law_gcd b__law_gcd
  refine AyF.run ?_
  unfold x__law_gcd s__law_gcd
  repeat' (first | with_reducible refine Ay.seq ?_ ?_ | with_reducible refine Ay.op ?_ | with_reducible refine AyOs.cons ?_ ?_ | with_reducible exact AyOs.nil | with_reducible exact AyO.sl _ | with_reducible refine AyO.ex ?_ | with_reducible refine Ay.rt ?_ | with_reducible refine Ay.test ?_ | with_reducible refine AyMs.cons ?_ ?_ | with_reducible exact AyMs.nil | with_reducible refine Ay.par ?_ | with_reducible refine Ay.while ?_ ?_ | exact Ay.same)
noncomputable def k__law_gcd : Fn := c__law_gcd
theorem l__law_gcd (k : Nat) : AyF k__law_gcd (F__law_gcd (k + 1)) := by
  rw [e__law_gcd]
  exact a__law_gcd
end Lw

set_option exponentiation.threshold 600
namespace Lw
open PySem Mi
def Short (a : Int) : Prop := -1000000000000000000000000000000000000000000000000000000000000 < a ∧ a < 1000000000000000000000000000000000000000000000000000000000000
end Lw

namespace Lw
open PySem Mi
/-! the drawing (any constants), as what holds behind it -/
def isDice (d : Da) : Prop := ∃ l c t : Int, d = .list [.int l, .int c, .int t]
theorem dice_scal {d : Da} (h : isDice d) : scalOb d = true := by
  obtain ⟨l, c, t, rfl⟩ := h; rfl
theorem pw10 {n : Int} (h : 0 ≤ n) (h2 : n ≤ 1000000) : powOk 10 n = true := by
  unfold powOk; rw [decide_eq_true h, decide_eq_true h2]; rfl
theorem mulOk_md {a b m : Int} (h : 0 < m) (h2 : m < 18446744073709551616) : mulOk (a % m) b = true := by
  have h3 := Int.emod_nonneg a (show m ≠ 0 by omega)
  have h4 := Int.emod_lt_of_pos a h
  exact mulOk_l (by omega)
theorem lt_4000 {n : Nat} (h : n < 2 ^ 400) : n < 2 ^ 4000 := Nat.lt_of_lt_of_le h (Nat.pow_le_pow_right (by decide) (by decide))
theorem pw60 : powOk 1000000000000000000000000000000000000000000000000000000000000 8 = true := by decide +kernel
theorem mul60 : mulOk 1000000000000000000000000000000000000000000000000000000000000 1000000000000000000000000000000000000000000000000000000000000 = true := mulOk_n (lt_4000 (by decide)) (lt_4000 (by decide))
theorem mul59 : mulOk 1000000000000000000000000000000000000000000000000000000000000 100000000000000000000000000000000000000000000000000000000000 = true := mulOk_n (lt_4000 (by decide)) (lt_4000 (by decide))
abbrev RollP (N : Int) : Vl → List Da → Prop := fun v ls => ∃ d' x, isDice d' ∧ 0 ≤ x ∧ x < N ∧ v = .val (.int x) ∧ ls = [d']
def W_roll (g : Fn) : Prop := ∀ (d : Da) (N : Int), isDice d → 0 < N → N ≤ 10000000000000000000000000000000000000000000000000000000000000 → Wc (g [.lent d, .val (.int N)]) (RollP N) nX
theorem v_roll : W_roll b__law_up := fun d N ⟨l, c, t, hd⟩ h0 h1 => by
  subst hd
  have b2 : N < 1809251394333065553493296640760748560207343510400633813116524750123642650624 := by omega
  unfold b__law_up
  refine wc_fn0 rfl ?_
  unfold s__law_up
  by_cases hl : 0 < l
  · simp -implicitDefEqProofs [okFl, runF, lentsOf, okArgs, apart, lentSl, peekSl, endCall, backLents, frzAll, clean, scal, scalOb, scal.scalAll, op_mod_p, op_div_p, op_mul_i, mulOk_l, mulOk_r, hl, h0, b2, itemD, putD, L2.ixN]
    exact ⟨_, _, ⟨_, _, _, rfl⟩, Int.emod_nonneg _ (by omega), Int.emod_lt_of_pos _ h0, rfl, rfl⟩
  · simp -implicitDefEqProofs [okFl, runF, lentsOf, okArgs, apart, lentSl, peekSl, endCall, backLents, frzAll, clean, scal, scalOb, scal.scalAll, op_mod_p, op_div_p, op_mul_i, mulOk_l, mulOk_r, hl, h0, b2, itemD, putD, L2.ixN, mulOk_md]
    exact ⟨_, _, ⟨_, _, _, rfl⟩, Int.emod_nonneg _ (by omega), Int.emod_lt_of_pos _ h0, rfl, rfl⟩
def W_pick (g : Fn) : Prop := ∀ (d : Da) (ds : List Da), isDice d → 0 < ds.length → ds.length < 1000 → Wc (g [.lent d, .val (.list ds)]) (fun v ls => ∃ d' x, isDice d' ∧ x ∈ ds ∧ v = .val x ∧ ls = [d']) nX
theorem v_pick {g : Fn} (hg : W_roll g) : W_pick (b__law_pick g) := fun d ds hd h0 h1 => by
  obtain ⟨v, ls, e, d', x, hd', x0, x1, rfl, rfl⟩ := wc_is (hg d ds.length hd (by omega) (by omega))
  have hx : x.toNat < ds.length := by omega
  have ei : itemD ds x = some ds[x.toNat] := by
    unfold itemD
    rw [if_pos x0, List.getElem?_eq_getElem hx]
  unfold b__law_pick
  refine wc_fn0 rfl ?_
  unfold s__law_pick
  simp -implicitDefEqProofs [okFl, runF, lentsOf, okArgs, apart, lentSl, peekSl, endCall, backLents, frzAll, clean, scal, scalOb, scal.scalAll, e, dice_scal hd', ei]
  exact ⟨_, hd', _, List.getElem_mem hx, rfl, rfl⟩
def W_dice (g : Fn) : Prop := ∀ (zs : List Int) (i : Nat), i < 100 → Wc (g [.val (.list (zs.map .int)), .val (.int i)]) (fun v ls => ∃ d, isDice d ∧ v = .own d ∧ ls = []) nX
theorem v_dice : W_dice b__law_dice := fun zs i hi => by
  unfold b__law_dice
  refine wc_fn0 rfl ?_
  unfold s__law_dice
  by_cases h : i < zs.length
  · have ei : itemD (zs.map .int) (i : Int) = some (.int zs[i]) := by
      unfold itemD
      rw [if_pos (by omega)]
      simp [h]
    simp -implicitDefEqProofs [okFl, runF, lentsOf, okArgs, apart, lentSl, peekSl, endCall, backLents, frzAll, clean, scal, scalOb, scal.scalAll, op_mod_p, op_mul_i, mulOk_l, mulOk_r, op_pow_i, pw10, pw60, h, ei]
    exact ⟨_, _, _, rfl⟩
  · simp -implicitDefEqProofs [okFl, runF, lentsOf, okArgs, apart, lentSl, peekSl, endCall, backLents, frzAll, clean, scal, scalOb, scal.scalAll, op_mod_p, op_mul_i, mulOk_l, mulOk_r, op_pow_i, pw10, pw60, h]
    exact ⟨_, _, _, rfl⟩
end Lw

namespace Lw
open PySem Mi
def eN (d : Da) : Ex := ⟨Str.ofString "InvalidNumber", d⟩
end Lw
namespace Lw
open PySem Mi
/-! the words of errors and the word that is due -/
def numS (d : Da) : Str := Str.ofString "number " ++ d.shown
def shows (d : Da) : Bool := reprOk d && decide (d.shown.length ≤ 1000) && PyData.strOk (numS d)
theorem num_len : (Str.ofString "number ").length = 7 := by decide +kernel
theorem pick_n : pickH exs (Str.ofString "InvalidNumber") w__law_met.hs = some ⟨Str.ofString "InvalidNumber", some 1, .one (.shown (Str.ofString "number "))⟩ := by rfl
theorem shows_r {d : Da} (h : shows d = true) : opRepr [d] = some (.val (.str d.shown)) ∧ (Str.ofString "number ").length + d.shown.length ≤ 16777216 := by
  unfold shows at h
  rw [Bool.and_eq_true, Bool.and_eq_true, decide_eq_true_eq] at h
  rw [num_len]
  exact ⟨op_repr_i h.1.1, by omega⟩
theorem shows_s {d : Da} (h : shows d = true) : PyData.strOk (numS d) = true := by
  unfold shows at h
  rw [Bool.and_eq_true] at h
  exact h.2
theorem add_num {d : Da} (h : shows d = true) : opAdd [.str (Str.ofString "number "), .str d.shown] = some (.val (.str (numS d))) := if_pos (shows_r h).2
section
variable {Q : Vl → Rho → Prop} {r : Rho}
theorem word_n {d : Da} (h : shows d = true) : wordE exs w__law_met Q (eN d) r = Q (.val (.str (numS d))) r := by
  obtain ⟨h1, h2⟩ := shows_r h
  have hv : HA.val d (.shown (Str.ofString "number ")) = some (.str (numS d)) := by
    unfold HA.val
    rw [h1]
    exact if_pos h2
  have ho : Hd.out ⟨Str.ofString "InvalidNumber", some 1, .one (.shown (Str.ofString "number "))⟩ (eN d) w__law_met.n = some (.str (numS d)) := hv
  unfold wordE
  rw [show pickH exs (eN d).cls w__law_met.hs = _ from pick_n]
  dsimp only
  rw [ho]
end
theorem word_f {d : Da} : wbV w__law_met d = .str (Str.ofString "fine") := rfl
def dueW : List (Str × Bool) → Str
  | [] => Str.ofString "fine"
  | (s, false) :: _ => s
  | (_, true) :: t => dueW t
def dueD (p : Str × Bool) : Da := .tuple [.str p.1, .bool p.2]
theorem due_map (ps : List (Str × Bool)) : (ps.filterMap (fun p : Str × Bool => if p.2 = true then none else some (PyData.str p.1)) = [] ∧ dueW ps = Str.ofString "fine") ∨ ∃ ds, ps.filterMap (fun p : Str × Bool => if p.2 = true then none else some (PyData.str p.1)) = .str (dueW ps) :: ds := by
  induction ps with
  | nil => exact .inl ⟨rfl, rfl⟩
  | cons p ps ih =>
    obtain ⟨s, b⟩ := p
    cases b with
    | false => exact .inr ⟨_, rfl⟩
    | true =>
      rw [List.filterMap_cons]
      exact ih
def C_due (g : Fn) : Prop := ∀ ps : List (Str × Bool), ps.length ≤ 100 → g [.val (.list (ps.map dueD))] = .ret (.val (.str (dueW ps))) []
theorem v_due : C_due b__law_due := by
  intro ps hp
  refine wc_eq ?_
  unfold b__law_due
  refine wc_fn0 rfl ?_
  unfold s__law_due
  refine wp_seqG fun T hT => ?_; simp -implicitDefEqProofs [okFl, runF, lentsOf, okArgs, apart, lentSl, peekSl, endCall, backLents, frzAll, clean, scal, scalOb, scal.scalAll]
  refine wp_lcF (f := dueD) (fun p : Str × Bool => if p.2 = true then none else some (.str p.1)) (by omega) (fun p hp => ?_) ?_
  · obtain ⟨s, b⟩ := p
    unfold dueD
    cases b <;> simp -implicitDefEqProofs [okFl, runF, lentsOf, okArgs, apart, lentSl, peekSl, endCall, backLents, frzAll, clean, scal, scalOb, scal.scalAll]
  · rcases due_map ps with ⟨e1, e2⟩ | ⟨ds, e⟩
    · rw [e1, e2]
      simp -implicitDefEqProofs [okFl, runF, lentsOf, okArgs, apart, lentSl, peekSl, endCall, backLents, frzAll, clean, scal, scalOb, scal.scalAll]
      subst hT; refine wp_seqG fun T hT => ?_; simp -implicitDefEqProofs [okFl, runF, lentsOf, okArgs, apart, lentSl, peekSl, endCall, backLents, frzAll, clean, scal, scalOb, scal.scalAll]
    · rw [e]
      simp -implicitDefEqProofs [okFl, runF, lentsOf, okArgs, apart, lentSl, peekSl, endCall, backLents, frzAll, clean, scal, scalOb, scal.scalAll, op_ne_cons]
      subst hT; refine wp_seqG fun T hT => ?_; simp -implicitDefEqProofs [okFl, runF, lentsOf, okArgs, apart, lentSl, peekSl, endCall, backLents, frzAll, clean, scal, scalOb, scal.scalAll, op_ne_cons]
end Lw

namespace Lw
open PySem Mi
/-! a call whose word is s -/
abbrev fineS : Str := Str.ofString "fine"
def sameC (x : CRes) (s : Str) : Bool := match x with
  | .ret (.val _) [] => decide (s = fineS)
  | .exc e [] => !decide (s = fineS) && (match pickH exs e.cls w__law_met.hs with
    | some h => (match h.out e w__law_met.n with
      | some (.str t) => decide (t = s)
      | _ => false)
    | none => false)
  | _ => false
def WordP (x : CRes) (s : Str) : Prop := (s = fineS ∧ ∃ u, x = .ret (.val u) []) ∨ (s ≠ fineS ∧ ∃ e, x = .exc e [] ∧ ∀ Q r, wordE exs w__law_met Q e r = Q (.val (.str s)) r)
theorem sameC_of {x : CRes} {s : Str} (h : sameC x s = true) : WordP x s := by
  unfold sameC at h
  split at h
  · exact .inl ⟨of_decide_eq_true h, _, rfl⟩
  · rename_i e
    rw [Bool.and_eq_true, Bool.not_eq_true', decide_eq_false_iff_not] at h
    obtain ⟨h1, h2⟩ := h
    cases q : pickH exs e.cls w__law_met.hs with
    | none => rw [q] at h2; cases h2
    | some hd =>
      rw [q] at h2
      dsimp only at h2
      have h3 : hd.out e w__law_met.n = some (.str s) := by
        cases q2 : hd.out e w__law_met.n with
        | none => rw [q2] at h2; cases h2
        | some d =>
          rw [q2] at h2
          cases d <;> first | (cases h2; done) | rw [of_decide_eq_true h2]
      refine .inr ⟨h1, e, rfl, fun Q r => ?_⟩
      unfold wordE
      rw [q]
      dsimp only
      rw [h3]
  · cases h
theorem WordP.of {g g' : Fn} {vs : List Vl} {s : Str} (h : AyF g g') (q : sameC (g vs) s = true) : WordP (g' vs) s := by
  rcases h vs with e | e
  · rw [e] at q; cases q
  · rw [e]; exact sameC_of q
theorem WordP.fine {x : CRes} {s : Str} (h : WordP x s) (e : s = fineS) : ∃ u, x = .ret (.val u) [] := by
  rcases h with ⟨_, k⟩ | ⟨n, _⟩
  · exact k
  · exact absurd e n
theorem WordP.bad {x : CRes} {s : Str} (h : WordP x s) (e : s ≠ fineS) : ∃ e, x = .exc e [] ∧ ∀ Q r, wordE exs w__law_met Q e r = Q (.val (.str s)) r := by
  rcases h with ⟨n, _⟩ | ⟨_, k⟩
  · exact absurd n e
  · exact k
def W1 (L : List Da) (p : Da → Str) (g : Fn) : Prop := ∀ x ∈ L, WordP (g [.val x]) (p x)
def W2 (L M : List Da) (p : Da → Da → Str) (g : Fn) : Prop := ∀ x ∈ L, ∀ y ∈ M, WordP (g [.val x, .val y]) (p x y)
theorem W1.of {L : List Da} {p : Da → Str} {g g' : Fn} (h : AyF g g') (q : (L.all fun x => sameC (g [.val x]) (p x)) = true) : W1 L p g' := fun x hx => WordP.of h (List.all_eq_true.mp q x hx)
theorem W2.of {L M : List Da} {p : Da → Da → Str} {g g' : Fn} (h : AyF g g') (q : (L.all fun x => M.all fun y => sameC (g [.val x, .val y]) (p x y)) = true) : W2 L M p g' := fun x hx y hy => WordP.of h (List.all_eq_true.mp (List.all_eq_true.mp q x hx) y hy)
end Lw

namespace Lw
open PySem Mi
def oddL : List Da := [.none, .bool true, .bool false, .str (Str.ofString "7"), .tuple [.int 7], .list [.int 7], .dict [], .int 1000000000000000000000000000000000000000000000000000000000000, .int (-1000000000000000000000000000000000000000000000000000000000000), .int 1000000000000000000000000000000000000000000000000000000000000000000000000000000000000000000000000000000000000000000000000, .int 0, .int (-1), .int 1000000, .int 1000001, .int 20000, .int 20001, .int 1, .int 2, .int 15, .int 100000000000000000000000000000000000000000000000000000000000, .int (-100000000000000000000000000000000000000000000000000000000000), .int 24]
theorem odd_all : ∀ d ∈ oddL, isFn d = false ∧ shows d = true := by decide +kernel
def shB : Da → Bool
  | .int a => decide (-1000000000000000000000000000000000000000000000000000000000000 < a) && decide (a < 1000000000000000000000000000000000000000000000000000000000000)
  | _ => false
def wiB (l h : Int) : Da → Bool
  | .int a => decide (l ≤ a) && decide (a ≤ h)
  | _ => false
def geB : Da → Bool
  | .int a => shB (.int a) && decide (1 ≤ a)
  | _ => false
def unB : Da → Da → Bool
  | .int a, .int m => shB (.int a) && wiB 1 1000000 (.int m) && decide (Int.gcd a m = 1)
  | _, _ => false
abbrev opS : Str := Str.ofString "operation"
abbrev rowS : Str := Str.ofString "row"
def duo (a m : Da) : Str := dueW [(numS a, shB a), (numS m, wiB 1 1000000 m), (opS, unB a m)]
def dux (a m : Da) : Str := dueW [(numS a, shB a), (numS m, wiB 1 20000 m), (opS, unB a m)]
def dum (m : Da) : Str := dueW [(numS m, wiB 1 1000000 m)]
def dut (m t : Da) : Str := dueW [(numS m, wiB 1 1000000 m), (numS t, geB t)]
/-- how many generators -/
def nOf : Da → Nat
  | .int a => if a = 20000 ∨ a = 24 then 3 else if a = 15 then 2 else 0
  | _ => 0
def rep (d : Da) (n : Nat) : List Da := List.replicate n d
def rowsC (n : Nat) : List Da := [.tuple [], .tuple (rep (.int 0) n), .tuple (rep (.int 100000000000000000000000000000000000000000000000000000000000) n), .tuple (rep (.int 1000000000000000000000000000000000000000000000000000000000000) n), .tuple (rep (.bool true) n), .list (rep (.int 0) n), .none, .tuple (rep (.int 0) (n + 1))]
def rowB (n : Nat) : Da → Bool
  | .tuple ds => decide (ds.length = n) && ds.all shB
  | _ => false
def dur (m row : Da) : Str := dueW [(numS m, wiB 1 20000 m), (rowS, rowB (nOf m) row)]
def genB (m : Da) (x : CRes) : Bool := match x with
  | .ret (.val (.tuple l)) [] => decide (l.length = nOf m)
  | _ => false
def gcdB (a m : Da) (x : CRes) : Bool := match a, m, x with
  | .int a, .int m, .ret (.val (.int g)) [] => decide (g = (Int.gcd a m : Int))
  | _, _, _ => false
theorem all4 {p : Da → Bool} (h1 : (oddL.take 12).all p = true) (h2 : ((oddL.drop 12).take 4).all p = true) (h3 : ((oddL.drop 16).take 3).all p = true) (h4 : (oddL.drop 19).all p = true) : oddL.all p = true := by
  have e : oddL = oddL.take 12 ++ ((oddL.drop 12).take 4 ++ ((oddL.drop 16).take 3 ++ oddL.drop 19)) := rfl
  rw [e, List.all_append, List.all_append, List.all_append, h1, h2, h3, h4]
  rfl
theorem q_gcd0 : ((oddL.take 12).all fun a => oddL.all fun m => !(shB a && wiB 1 1000000 m) || gcdB a m (k__law_gcd [.val a, .val m])) = true := by decide +kernel
theorem q_gcd1 : (((oddL.drop 12).take 4).all fun a => oddL.all fun m => !(shB a && wiB 1 1000000 m) || gcdB a m (k__law_gcd [.val a, .val m])) = true := by decide +kernel
theorem q_gcd2 : (((oddL.drop 16).take 3).all fun a => oddL.all fun m => !(shB a && wiB 1 1000000 m) || gcdB a m (k__law_gcd [.val a, .val m])) = true := by decide +kernel
theorem q_gcd3 : ((oddL.drop 19).all fun a => oddL.all fun m => !(shB a && wiB 1 1000000 m) || gcdB a m (k__law_gcd [.val a, .val m])) = true := by decide +kernel
theorem q_gcd : (oddL.all fun a => oddL.all fun m => !(shB a && wiB 1 1000000 m) || gcdB a m (k__law_gcd [.val a, .val m])) = true := all4 q_gcd0 q_gcd1 q_gcd2 q_gcd3
theorem q_gen0 : ((oddL.take 12).all fun m => !wiB 1 20000 m || genB m (k_generators_of [.val m])) = true := by decide +kernel
theorem q_gen1 : (((oddL.drop 12).take 4).all fun m => !wiB 1 20000 m || genB m (k_generators_of [.val m])) = true := by decide +kernel
theorem q_gen2 : (((oddL.drop 16).take 3).all fun m => !wiB 1 20000 m || genB m (k_generators_of [.val m])) = true := by decide +kernel
theorem q_gen3 : ((oddL.drop 19).all fun m => !wiB 1 20000 m || genB m (k_generators_of [.val m])) = true := by decide +kernel
theorem q_gen : (oddL.all fun m => !wiB 1 20000 m || genB m (k_generators_of [.val m])) = true := all4 q_gen0 q_gen1 q_gen2 q_gen3
theorem q_order_of0 : ((oddL.take 12).all fun a => oddL.all fun m => sameC (k_order_of [.val a, .val m]) (duo a m)) = true := by decide +kernel
theorem q_order_of1 : (((oddL.drop 12).take 4).all fun a => oddL.all fun m => sameC (k_order_of [.val a, .val m]) (duo a m)) = true := by decide +kernel
theorem q_order_of2 : (((oddL.drop 16).take 3).all fun a => oddL.all fun m => sameC (k_order_of [.val a, .val m]) (duo a m)) = true := by decide +kernel
theorem q_order_of3 : ((oddL.drop 19).all fun a => oddL.all fun m => sameC (k_order_of [.val a, .val m]) (duo a m)) = true := by decide +kernel
theorem q_order_of : (oddL.all fun a => oddL.all fun m => sameC (k_order_of [.val a, .val m]) (duo a m)) = true := all4 q_order_of0 q_order_of1 q_order_of2 q_order_of3
theorem q_order_answer0 : ((oddL.take 12).all fun a => oddL.all fun m => sameC (k_order_answer [.val a, .val m]) (duo a m)) = true := by decide +kernel
theorem q_order_answer1 : (((oddL.drop 12).take 4).all fun a => oddL.all fun m => sameC (k_order_answer [.val a, .val m]) (duo a m)) = true := by decide +kernel
theorem q_order_answer2 : (((oddL.drop 16).take 3).all fun a => oddL.all fun m => sameC (k_order_answer [.val a, .val m]) (duo a m)) = true := by decide +kernel
theorem q_order_answer3 : ((oddL.drop 19).all fun a => oddL.all fun m => sameC (k_order_answer [.val a, .val m]) (duo a m)) = true := by decide +kernel
theorem q_order_answer : (oddL.all fun a => oddL.all fun m => sameC (k_order_answer [.val a, .val m]) (duo a m)) = true := all4 q_order_answer0 q_order_answer1 q_order_answer2 q_order_answer3
theorem q_exponents_of0 : ((oddL.take 12).all fun a => oddL.all fun m => sameC (k_exponents_of [.val a, .val m]) (dux a m)) = true := by decide +kernel
theorem q_exponents_of1 : (((oddL.drop 12).take 4).all fun a => oddL.all fun m => sameC (k_exponents_of [.val a, .val m]) (dux a m)) = true := by decide +kernel
theorem q_exponents_of2 : (((oddL.drop 16).take 3).all fun a => oddL.all fun m => sameC (k_exponents_of [.val a, .val m]) (dux a m)) = true := by decide +kernel
theorem q_exponents_of3 : ((oddL.drop 19).all fun a => oddL.all fun m => sameC (k_exponents_of [.val a, .val m]) (dux a m)) = true := by decide +kernel
theorem q_exponents_of : (oddL.all fun a => oddL.all fun m => sameC (k_exponents_of [.val a, .val m]) (dux a m)) = true := all4 q_exponents_of0 q_exponents_of1 q_exponents_of2 q_exponents_of3
theorem q_generators_of0 : ((oddL.take 12).all fun m => sameC (k_generators_of [.val m]) (dum m)) = true := by decide +kernel
theorem q_generators_of1 : (((oddL.drop 12).take 4).all fun m => sameC (k_generators_of [.val m]) (dum m)) = true := by decide +kernel
theorem q_generators_of2 : (((oddL.drop 16).take 3).all fun m => sameC (k_generators_of [.val m]) (dum m)) = true := by decide +kernel
theorem q_generators_of3 : ((oddL.drop 19).all fun m => sameC (k_generators_of [.val m]) (dum m)) = true := by decide +kernel
theorem q_generators_of : (oddL.all fun m => sameC (k_generators_of [.val m]) (dum m)) = true := all4 q_generators_of0 q_generators_of1 q_generators_of2 q_generators_of3
theorem q_units_answer0 : ((oddL.take 12).all fun m => sameC (k_units_answer [.val m]) (dum m)) = true := by decide +kernel
theorem q_units_answer1 : (((oddL.drop 12).take 4).all fun m => sameC (k_units_answer [.val m]) (dum m)) = true := by decide +kernel
theorem q_units_answer2 : (((oddL.drop 16).take 3).all fun m => sameC (k_units_answer [.val m]) (dum m)) = true := by decide +kernel
theorem q_units_answer3 : ((oddL.drop 19).all fun m => sameC (k_units_answer [.val m]) (dum m)) = true := by decide +kernel
theorem q_units_answer : (oddL.all fun m => sameC (k_units_answer [.val m]) (dum m)) = true := all4 q_units_answer0 q_units_answer1 q_units_answer2 q_units_answer3
theorem q_group_of0 : ((oddL.take 12).all fun m => sameC (k_group_of [.val m]) (dum m)) = true := by decide +kernel
theorem q_group_of1 : (((oddL.drop 12).take 4).all fun m => sameC (k_group_of [.val m]) (dum m)) = true := by decide +kernel
theorem q_group_of2 : (((oddL.drop 16).take 3).all fun m => sameC (k_group_of [.val m]) (dum m)) = true := by decide +kernel
theorem q_group_of3 : ((oddL.drop 19).all fun m => sameC (k_group_of [.val m]) (dum m)) = true := by decide +kernel
theorem q_group_of : (oddL.all fun m => sameC (k_group_of [.val m]) (dum m)) = true := all4 q_group_of0 q_group_of1 q_group_of2 q_group_of3
theorem q_greatest_order0 : ((oddL.take 12).all fun m => sameC (k_greatest_order [.val m]) (dum m)) = true := by decide +kernel
theorem q_greatest_order1 : (((oddL.drop 12).take 4).all fun m => sameC (k_greatest_order [.val m]) (dum m)) = true := by decide +kernel
theorem q_greatest_order2 : (((oddL.drop 16).take 3).all fun m => sameC (k_greatest_order [.val m]) (dum m)) = true := by decide +kernel
theorem q_greatest_order3 : ((oddL.drop 19).all fun m => sameC (k_greatest_order [.val m]) (dum m)) = true := by decide +kernel
theorem q_greatest_order : (oddL.all fun m => sameC (k_greatest_order [.val m]) (dum m)) = true := all4 q_greatest_order0 q_greatest_order1 q_greatest_order2 q_greatest_order3
theorem q_order_count0 : ((oddL.take 12).all fun m => oddL.all fun t => sameC (k_order_count [.val m, .val t]) (dut m t)) = true := by decide +kernel
theorem q_order_count1 : (((oddL.drop 12).take 4).all fun m => oddL.all fun t => sameC (k_order_count [.val m, .val t]) (dut m t)) = true := by decide +kernel
theorem q_order_count2 : (((oddL.drop 16).take 3).all fun m => oddL.all fun t => sameC (k_order_count [.val m, .val t]) (dut m t)) = true := by decide +kernel
theorem q_order_count3 : ((oddL.drop 19).all fun m => oddL.all fun t => sameC (k_order_count [.val m, .val t]) (dut m t)) = true := by decide +kernel
theorem q_order_count : (oddL.all fun m => oddL.all fun t => sameC (k_order_count [.val m, .val t]) (dut m t)) = true := all4 q_order_count0 q_order_count1 q_order_count2 q_order_count3
theorem q_unit_with0 : ((oddL.take 12).all fun m => (rowsC (nOf m)).all fun row => sameC (k_unit_with [.val m, .val row]) (dur m row)) = true := by decide +kernel
theorem q_unit_with1 : (((oddL.drop 12).take 4).all fun m => (rowsC (nOf m)).all fun row => sameC (k_unit_with [.val m, .val row]) (dur m row)) = true := by decide +kernel
theorem q_unit_with2 : (((oddL.drop 16).take 3).all fun m => (rowsC (nOf m)).all fun row => sameC (k_unit_with [.val m, .val row]) (dur m row)) = true := by decide +kernel
theorem q_unit_with3 : ((oddL.drop 19).all fun m => (rowsC (nOf m)).all fun row => sameC (k_unit_with [.val m, .val row]) (dur m row)) = true := by decide +kernel
theorem q_unit_with : (oddL.all fun m => (rowsC (nOf m)).all fun row => sameC (k_unit_with [.val m, .val row]) (dur m row)) = true := all4 q_unit_with0 q_unit_with1 q_unit_with2 q_unit_with3
theorem q_t1 : sameC (k_order_of [.val (.int 6), .val (.int 9)]) opS = true := by decide +kernel
theorem q_t2 : sameC (k_exponents_of [.val (.int 1), .val (.int 20001)]) (Str.ofString "number 20001") = true := by decide +kernel
theorem q_t3 : sameC (k_generators_of [.val (.int 0)]) (Str.ofString "number 0") = true := by decide +kernel
theorem q_t4 : sameC (k_unit_with [.val (.int 15), .val (.tuple [.int 1])]) rowS = true := by decide +kernel
theorem q_t5 : sameC (k_order_count [.val (.int 9), .val (.int 0)]) (Str.ofString "number 0") = true := by decide +kernel
end Lw

set_option exponentiation.threshold 600
set_option maxHeartbeats 4000000
namespace Lw
open PySem Mi
abbrev RightP : Vl → List Da → Prop := fun v ls => ∃ d', isDice d' ∧ v = .val (.bool true) ∧ ls = [d']
def C_right (g : Fn) : Prop := ∀ d, isDice d → Wc (g [.lent d]) RightP nX
def W_odd (g : Fn) : Prop := ∀ d, isDice d → Wc (g [.lent d]) (fun v ls => ∃ d' x, isDice d' ∧ x ∈ oddL ∧ v = .val x ∧ ls = [d']) nX
theorem v_odd {g : Fn} (h : W_pick g) : W_odd (b__law_odd g) := by
  intro d hd
  unfold b__law_odd
  refine wc_fn0 rfl ?_
  unfold s__law_odd
  refine wp_seqG fun T hT => ?_; simp -implicitDefEqProofs [okFl, runF, lentsOf, okArgs, apart, lentSl, peekSl, endCall, backLents, frzAll, clean, scal, scalOb, scal.scalAll, op_pow_i, pw10, mul60, op_mul_i]
  subst hT; refine wp_seqG fun T hT => ?_; simp -implicitDefEqProofs [okFl, runF, lentsOf, okArgs, apart, lentSl, peekSl, endCall, backLents, frzAll, clean, scal, scalOb, scal.scalAll, op_add_l, op_pow_i, pw10]
  subst hT; refine wp_seqG fun T hT => ?_; simp -implicitDefEqProofs [okFl, runF, lentsOf, okArgs, apart, lentSl, peekSl, endCall, backLents, frzAll, clean, scal, scalOb, scal.scalAll, op_add_l, op_pow_i, pw10]
  refine wp_cl (h d oddL hd (by decide) (by decide)) ?_
  rintro _ _ ⟨d1, x, hd1, hx, rfl, rfl⟩
  simp -implicitDefEqProofs [okFl, runF, lentsOf, okArgs, apart, lentSl, peekSl, endCall, backLents, frzAll, clean, scal, scalOb, scal.scalAll, dice_scal hd1]
  exact ⟨d1, hd1, x, hx, rfl, rfl⟩
def intB : Da → Bool
  | .int _ => true
  | _ => false
def J_whole (g : Fn) : Prop := ∀ d : Da, isFn d = false → g [.val d] = .ret (.val (.bool (intB d))) []
theorem v_lwhole : J_whole b__law_is_whole := fun d hd => by
  cases d <;> simp -implicitDefEqProofs [okFl, runF, lentsOf, okArgs, apart, lentSl, peekSl, endCall, backLents, frzAll, clean, scal, scalOb, scal.scalAll, b__law_is_whole, s__law_is_whole, intB, hd]
def J_short (g : Fn) : Prop := ∀ d : Da, isFn d = false → g [.val d] = .ret (.val (.bool (shB d))) []
theorem v_lshort {g : Fn} (h : J_whole g) : J_short (b__law_is_short g) := fun d hd => by
  have e := h d hd
  cases d with
  | int a =>
    have q : decide ((a.natAbs : Int) < 1000000000000000000000000000000000000000000000000000000000000) = (decide (-1000000000000000000000000000000000000000000000000000000000000 < a) && decide (a < 1000000000000000000000000000000000000000000000000000000000000)) := by
      by_cases c1 : -1000000000000000000000000000000000000000000000000000000000000 < a <;> by_cases c2 : a < 1000000000000000000000000000000000000000000000000000000000000 <;> simp only [c1, c2, decide_true, decide_false, Bool.and_self, Bool.and_true, Bool.and_false, Bool.false_and, decide_eq_true_eq, decide_eq_false_iff_not] <;> omega
    simp -implicitDefEqProofs [okFl, runF, lentsOf, okArgs, apart, lentSl, peekSl, endCall, backLents, frzAll, clean, scal, scalOb, scal.scalAll, b__law_is_short, s__law_is_short, e, intB, shB, op_pow_i, powOk, q]
  | _ => simp -implicitDefEqProofs [okFl, runF, lentsOf, okArgs, apart, lentSl, peekSl, endCall, backLents, frzAll, clean, scal, scalOb, scal.scalAll, b__law_is_short, s__law_is_short, e, intB, shB]
/-! judges -/
theorem wi_sh {x : Da} {l h : Int} (hl : -1000 ≤ l) (hh : h ≤ 1000000) (q : shB x = false) : wiB l h x = false := by
  cases x <;> first | rfl | skip
  rename_i a
  cases z : wiB l h (.int a) with
  | false => rfl
  | true =>
    simp only [wiB, Bool.and_eq_true, decide_eq_true_eq] at z
    have n1 : -1000000000000000000000000000000000000000000000000000000000000 < a := by omega
    have n2 : a < 1000000000000000000000000000000000000000000000000000000000000 := by omega
    simp only [shB, decide_eq_true n1, decide_eq_true n2, Bool.and_self] at q
    cases q
theorem wiB_int {l h : Int} {d : Da} (q : wiB l h d = true) : ∃ a, d = .int a ∧ l ≤ a ∧ a ≤ h := by
  cases d <;> first | cases q | skip
  unfold wiB at q
  simp only [Bool.and_eq_true, decide_eq_true_eq] at q
  exact ⟨_, rfl, q⟩
theorem wi_few {x : Da} (q : wiB 1 1000000 x = false) : wiB 1 20000 x = false := by
  cases z : wiB 1 20000 x with
  | false => rfl
  | true =>
    obtain ⟨a, rfl, a1, a2⟩ := wiB_int z
    have n2 : a ≤ 1000000 := by omega
    simp only [wiB, decide_eq_true a1, decide_eq_true n2, Bool.and_self] at q
    cases q
theorem un_i {a m : Int} : unB (.int a) (.int m) = (shB (.int a) && wiB 1 1000000 (.int m) && decide (Int.gcd a m = 1)) := rfl
theorem un_a {a m : Da} (q : shB a = false) : unB a m = false := by
  cases a <;> first | rfl | skip
  cases m <;> first | rfl | skip
  rw [un_i, q]
  rfl
theorem un_m {a m : Da} (q : wiB 1 1000000 m = false) : unB a m = false := by
  cases a <;> first | rfl | skip
  cases m <;> first | rfl | skip
  rw [un_i, q, Bool.and_false]
  rfl
def C_gcd (g : Fn) : Prop := ∀ x ∈ oddL, ∀ y ∈ oddL, ∀ a m : Int, x = .int a → y = .int m → shB x = true → wiB 1 1000000 y = true → g [.val x, .val y] = .ret (.val (.int (Int.gcd a m))) []
def C_gen (g : Fn) : Prop := ∀ m ∈ oddL, wiB 1 20000 m = true → ∃ l, l.length = nOf m ∧ g [.val m] = .ret (.val (.tuple l)) []
def W_unit (g : Fn) : Prop := ∀ m ∈ oddL, ∀ row ∈ rowsC (nOf m), WordP (g [.val m, .val row]) (dur m row)
structure TabP (tab : Str → Option (List Bool × Fn)) : Prop where
  oo : ∃ F, tab (Str.ofString "order_of") = some ([false, false], F) ∧ W2 oddL oddL duo F
  oa : ∃ F, tab (Str.ofString "order_answer") = some ([false, false], F) ∧ W2 oddL oddL duo F
  go : ∃ F, tab (Str.ofString "generators_of") = some ([false], F) ∧ W1 oddL dum F
  ua : ∃ F, tab (Str.ofString "units_answer") = some ([false], F) ∧ W1 oddL dum F
  gr : ∃ F, tab (Str.ofString "group_of") = some ([false], F) ∧ W1 oddL dum F
  gt : ∃ F, tab (Str.ofString "greatest_order") = some ([false], F) ∧ W1 oddL dum F
theorem n_zero : ∀ m ∈ oddL, wiB 1 20000 m = false → nOf m = 0 := by decide +kernel
theorem n_three : ∀ m ∈ oddL, nOf m = 0 ∨ nOf m = 2 ∨ nOf m = 3 := by decide +kernel
theorem rep_i {d : Da} {n : Nat} : repL [d] (n : Int) = rep d n := repL_sing d n
theorem mul_t {d : Da} {n : Nat} (h : n ≤ 4) : opMul [.tuple [d], .int (n : Int)] = some (.val (.tuple (rep d n))) := by
  rw [op_mul_ti (by unfold repIn; simp; omega), rep_i]
theorem mul_l {d : Da} {n : Nat} (h : n ≤ 4) : opMul [.list [d], .int (n : Int)] = some (.own (.list (rep d n))) := by
  rw [op_mul_li (by unfold repIn; simp; omega), rep_i]
theorem v_right {g1 g2 g3 g4 g5 g6 g7 g8 g9 : Fn} {tab : Str → Option (List Bool × Fn)} (h1 : C_gen g1) (h2 : W2 oddL oddL dux g2) (h3 : W_unit g3) (h4 : W2 oddL oddL dut g4) (h5 : W_pick g5) (h6 : C_gcd g6) (h7 : J_short g7) (h8 : C_due g8) (h9 : W_odd g9) (ht : TabP tab) : C_right (b__law_right g1 g2 g3 g4 g5 g6 g7 g8 g9 tab) := fun d0 hd0 => by
  unfold b__law_right
  refine wc_fn0 rfl ?_
  unfold s__law_right
  refine wp_seqG fun T hT => ?_; simp -implicitDefEqProofs [okFl, runF, lentsOf, okArgs, apart, lentSl, peekSl, endCall, backLents, frzAll, clean, scal, scalOb, scal.scalAll]
  refine wp_cl (h9 d0 hd0) ?_; rintro _ _ ⟨d1, a, hd1, ma, rfl, rfl⟩; simp -implicitDefEqProofs [okFl, runF, lentsOf, okArgs, apart, lentSl, peekSl, endCall, backLents, frzAll, clean, scal, scalOb, scal.scalAll, dice_scal hd1]
  refine wp_cl (h9 d1 hd1) ?_; rintro _ _ ⟨d2, m, hd2, mm, rfl, rfl⟩; simp -implicitDefEqProofs [okFl, runF, lentsOf, okArgs, apart, lentSl, peekSl, endCall, backLents, frzAll, clean, scal, scalOb, scal.scalAll, dice_scal hd2]
  obtain ⟨fa, sa⟩ := odd_all a ma
  obtain ⟨fm, sm⟩ := odd_all m mm
  have qa := (shows_r sa).1
  have qm := (shows_r sm).1
  have aa := add_num sa
  have am := add_num sm
  have ea := h7 a fa
  have em := h7 m fm
  subst hT; refine wp_seqG fun T hT => ?_
  suffices K : Wp (T [some (Vl.lent (d2)), some (Vl.val (a)), some (Vl.val (m)), some (Vl.val (PyData.bool (wiB 1 1000000 m))), none, none, none, none, none, none, none, none, none, none]) (retQ [true] RightP) nX by
    cases m with
    | int x =>
      cases c : shB (.int x) with
      | false =>
        rw [c] at em
        rw [wi_sh (by decide) (by decide) c] at K
        simp -implicitDefEqProofs [okFl, runF, lentsOf, okArgs, apart, lentSl, peekSl, endCall, backLents, frzAll, clean, scal, scalOb, scal.scalAll, em]
        exact K
      | true =>
        rw [c] at em
        by_cases c1 : 1 ≤ x <;> by_cases c2 : x ≤ 1000000 <;> (simp only [wiB, c1, c2, decide_true, decide_false, Bool.and_self, Bool.and_true, Bool.and_false, Bool.false_and] at K; simp -implicitDefEqProofs [okFl, runF, lentsOf, okArgs, apart, lentSl, peekSl, endCall, backLents, frzAll, clean, scal, scalOb, scal.scalAll, em, c1, c2, op_pow_i, pw10]; exact K)
    | _ =>
      simp -implicitDefEqProofs [okFl, runF, lentsOf, okArgs, apart, lentSl, peekSl, endCall, backLents, frzAll, clean, scal, scalOb, scal.scalAll, em, shB]
      exact K
  subst hT; refine wp_seqG fun T hT => ?_
  suffices K : Wp (T [some (Vl.lent (d2)), some (Vl.val (a)), some (Vl.val (m)), some (Vl.val (PyData.bool (wiB 1 1000000 m))), some (Vl.val (PyData.bool (wiB 1 20000 m))), none, none, none, none, none, none, none, none, none]) (retQ [true] RightP) nX by
    cases c : wiB 1 1000000 m with
    | false =>
      rw [c, wi_few c] at K
      simp -implicitDefEqProofs [okFl, runF, lentsOf, okArgs, apart, lentSl, peekSl, endCall, backLents, frzAll, clean, scal, scalOb, scal.scalAll]
      exact K
    | true =>
      obtain ⟨x, rfl, x1, x2⟩ := wiB_int c
      rw [c] at K
      simp only [wiB, decide_eq_true x1, Bool.true_and] at K
      simp -implicitDefEqProofs [okFl, runF, lentsOf, okArgs, apart, lentSl, peekSl, endCall, backLents, frzAll, clean, scal, scalOb, scal.scalAll]
      exact K
  subst hT; refine wp_seqG fun T hT => ?_
  suffices K : Wp (T [some (Vl.lent (d2)), some (Vl.val (a)), some (Vl.val (m)), some (Vl.val (PyData.bool (wiB 1 1000000 m))), some (Vl.val (PyData.bool (wiB 1 20000 m))), some (Vl.val (PyData.bool (unB a m))), none, none, none, none, none, none, none, none]) (retQ [true] RightP) nX by
    rcases Bool.eq_false_or_eq_true (shB a) with c | c
    · rcases Bool.eq_false_or_eq_true (wiB 1 1000000 m) with c2 | c2
      · cases a <;> first | cases c | skip
        rename_i x
        obtain ⟨y, rfl, _⟩ := wiB_int c2
        have eg := h6 _ ma _ mm x y rfl rfl c c2
        rw [c] at ea
        rw [c2] at K ⊢
        rw [un_i, c, c2, Bool.and_self, Bool.true_and] at K
        simp -implicitDefEqProofs [okFl, runF, lentsOf, okArgs, apart, lentSl, peekSl, endCall, backLents, frzAll, clean, scal, scalOb, scal.scalAll, ea, eg]
        by_cases g0 : Int.gcd x y = 1
        · have g0' : ((Int.gcd x y : Nat) : Int) = 1 := by omega
          rw [decide_eq_true g0] at K
          simp only [g0', decide_true]
          exact K
        · have g0' : ¬ ((Int.gcd x y : Nat) : Int) = 1 := by omega
          rw [decide_eq_false g0] at K
          simp only [g0', decide_false]
          exact K
      · rw [un_m c2, c2] at K
        rw [c] at ea
        rw [c2]
        simp -implicitDefEqProofs [okFl, runF, lentsOf, okArgs, apart, lentSl, peekSl, endCall, backLents, frzAll, clean, scal, scalOb, scal.scalAll, ea]
        exact K
    · rw [un_a c] at K
      rw [c] at ea
      simp -implicitDefEqProofs [okFl, runF, lentsOf, okArgs, apart, lentSl, peekSl, endCall, backLents, frzAll, clean, scal, scalOb, scal.scalAll, ea]
      exact K
  subst hT
  refine wp_seqG fun T hT => ?_; simp -implicitDefEqProofs [okFl, runF, lentsOf, okArgs, apart, lentSl, peekSl, endCall, backLents, frzAll, clean, scal, scalOb, scal.scalAll, qa, qm, aa, am, ea]
  obtain ⟨F1, t1, a1⟩ := ht.oo
  obtain ⟨F2, t2, a2⟩ := ht.oa
  obtain ⟨F3, t3, a3⟩ := ht.go
  obtain ⟨F4, t4, a4⟩ := ht.ua
  obtain ⟨F5, t5, a5⟩ := ht.gr
  obtain ⟨F6, t6, a6⟩ := ht.gt
  have k1 := fun r => cv_fn (os := [.sl 1, .sl 2]) (r := r) t1 rfl
  have k2 := fun r => cv_fn (os := [.sl 1, .sl 2]) (r := r) t2 rfl
  have k3 := fun r => cv_fn (os := [.sl 2]) (r := r) t3 rfl
  have k4 := fun r => cv_fn (os := [.sl 2]) (r := r) t4 rfl
  have k5 := fun r => cv_fn (os := [.sl 2]) (r := r) t5 rfl
  have k6 := fun r => cv_fn (os := [.sl 2]) (r := r) t6 rfl
  have du := h8 [(numS a, shB a), (numS m, wiB 1 1000000 m), (opS, unB a m)] (by simp)
  simp only [List.map, dueD] at du
  have b1 := a1 a ma m mm
  have b2 := a2 a ma m mm
  subst hT; refine wp_seqG fun T hT => ?_
  suffices K : Wp (T [some (Vl.lent (d2)), some (Vl.val (a)), some (Vl.val (m)), some (Vl.val (PyData.bool (wiB 1 1000000 m))), some (Vl.val (PyData.bool (wiB 1 20000 m))), some (Vl.val (PyData.bool (unB a m))), some (Vl.own (PyData.list ([.tuple [.str (numS a), .bool (shB a)], .tuple [.str (numS m), .bool (wiB 1 1000000 m)], .tuple [.str opS, .bool (unB a m)]]))), some (Vl.val (fnD (Str.ofString "order_answer"))), none, none, none, none, none, none]) (retQ [true] RightP) nX by
    by_cases c : duo a m = fineS
    · obtain ⟨u1, w1⟩ := b1.fine c
      obtain ⟨u2, w2⟩ := b2.fine c
      have du' := du
      rw [show dueW [(numS a, shB a), (numS m, wiB 1 1000000 m), (opS, unB a m)] = fineS from c] at du'
      simp -implicitDefEqProofs [okFl, runF, lentsOf, okArgs, apart, lentSl, peekSl, endCall, backLents, frzAll, clean, scal, scalOb, scal.scalAll, forL_wp, forL_wp0, k1, k2, w1, w2, word_f, du']
      exact K
    · obtain ⟨u1, w1, v1⟩ := b1.bad c
      obtain ⟨u2, w2, v2⟩ := b2.bad c
      have du' := du
      rw [show dueW [(numS a, shB a), (numS m, wiB 1 1000000 m), (opS, unB a m)] = duo a m from rfl] at du'
      simp -implicitDefEqProofs [okFl, runF, lentsOf, okArgs, apart, lentSl, peekSl, endCall, backLents, frzAll, clean, scal, scalOb, scal.scalAll, forL_wp, forL_wp0, k1, k2, w1, w2, v1, v2, du']
      exact K
  clear du b1 b2 k1 k2 a1 a2 t1 t2
  subst hT; refine wp_seqG fun T hT => ?_; simp -implicitDefEqProofs [okFl, runF, lentsOf, okArgs, apart, lentSl, peekSl, endCall, backLents, frzAll, clean, scal, scalOb, scal.scalAll, qm, am]
  have du := h8 [(numS a, shB a), (numS m, wiB 1 20000 m), (opS, unB a m)] (by simp)
  simp only [List.map, dueD] at du
  have b1 := h2 a ma m mm
  subst hT; refine wp_seqG fun T hT => ?_
  suffices K : Wp (T [some (Vl.lent (d2)), some (Vl.val (a)), some (Vl.val (m)), some (Vl.val (PyData.bool (wiB 1 1000000 m))), some (Vl.val (PyData.bool (wiB 1 20000 m))), some (Vl.val (PyData.bool (unB a m))), some (Vl.own (PyData.list ([.tuple [.str (numS a), .bool (shB a)], .tuple [.str (numS m), .bool (wiB 1 20000 m)], .tuple [.str opS, .bool (unB a m)]]))), some (Vl.val (fnD (Str.ofString "order_answer"))), none, none, none, none, none, none]) (retQ [true] RightP) nX by
    by_cases c : dux a m = fineS
    · obtain ⟨u1, w1⟩ := b1.fine c
      rw [show dueW [(numS a, shB a), (numS m, wiB 1 20000 m), (opS, unB a m)] = fineS from c] at du
      simp -implicitDefEqProofs [okFl, runF, lentsOf, okArgs, apart, lentSl, peekSl, endCall, backLents, frzAll, clean, scal, scalOb, scal.scalAll, w1, word_f, du]
      exact K
    · obtain ⟨u1, w1, v1⟩ := b1.bad c
      rw [show dueW [(numS a, shB a), (numS m, wiB 1 20000 m), (opS, unB a m)] = dux a m from rfl] at du
      simp -implicitDefEqProofs [okFl, runF, lentsOf, okArgs, apart, lentSl, peekSl, endCall, backLents, frzAll, clean, scal, scalOb, scal.scalAll, w1, v1, du]
      exact K
  clear du b1
  have du := h8 [(numS m, wiB 1 1000000 m)] (by simp)
  simp only [List.map, dueD] at du
  have b3 := a3 m mm
  have b4 := a4 m mm
  have b5 := a5 m mm
  have b6 := a6 m mm
  subst hT; refine wp_seqG fun T hT => ?_
  suffices K : Wp (T [some (Vl.lent (d2)), some (Vl.val (a)), some (Vl.val (m)), some (Vl.val (PyData.bool (wiB 1 1000000 m))), some (Vl.val (PyData.bool (wiB 1 20000 m))), some (Vl.val (PyData.bool (unB a m))), some (Vl.own (PyData.list ([.tuple [.str (numS a), .bool (shB a)], .tuple [.str (numS m), .bool (wiB 1 20000 m)], .tuple [.str opS, .bool (unB a m)]]))), some (Vl.val (fnD (Str.ofString "greatest_order"))), none, none, none, none, none, none]) (retQ [true] RightP) nX by
    by_cases c : dum m = fineS
    · obtain ⟨u3, w3⟩ := b3.fine c
      obtain ⟨u4, w4⟩ := b4.fine c
      obtain ⟨u5, w5⟩ := b5.fine c
      obtain ⟨u6, w6⟩ := b6.fine c
      rw [show dueW [(numS m, wiB 1 1000000 m)] = fineS from c] at du
      simp -implicitDefEqProofs [okFl, runF, lentsOf, okArgs, apart, lentSl, peekSl, endCall, backLents, frzAll, clean, scal, scalOb, scal.scalAll, forL_wp, forL_wp0, k3, k4, k5, k6, w3, w4, w5, w6, word_f, du, qm, am]
      exact K
    · obtain ⟨u3, w3, v3⟩ := b3.bad c
      obtain ⟨u4, w4, v4⟩ := b4.bad c
      obtain ⟨u5, w5, v5⟩ := b5.bad c
      obtain ⟨u6, w6, v6⟩ := b6.bad c
      rw [show dueW [(numS m, wiB 1 1000000 m)] = dum m from rfl] at du
      simp -implicitDefEqProofs [okFl, runF, lentsOf, okArgs, apart, lentSl, peekSl, endCall, backLents, frzAll, clean, scal, scalOb, scal.scalAll, forL_wp, forL_wp0, k3, k4, k5, k6, w3, w4, w5, w6, v3, v4, v5, v6, du, qm, am]
      exact K
  clear du b3 b4 b5 b6 k3 k4 k5 k6 a3 a4 a5 a6 t3 t4 t5 t6
  subst hT
  refine wp_seqG fun T hT => ?_; simp -implicitDefEqProofs [okFl, runF, lentsOf, okArgs, apart, lentSl, peekSl, endCall, backLents, frzAll, clean, scal, scalOb, scal.scalAll]
  refine wp_cl (h9 d2 hd2) ?_; rintro _ _ ⟨d3, t, hd3, mt, rfl, rfl⟩; simp -implicitDefEqProofs [okFl, runF, lentsOf, okArgs, apart, lentSl, peekSl, endCall, backLents, frzAll, clean, scal, scalOb, scal.scalAll, dice_scal hd3]
  obtain ⟨ft, st⟩ := odd_all t mt
  have qt := (shows_r st).1
  have at' := add_num st
  have et := h7 t ft
  subst hT; refine wp_seqG fun T hT => ?_
  suffices K : Wp (T [some (Vl.lent (d3)), some (Vl.val (a)), some (Vl.val (m)), some (Vl.val (PyData.bool (wiB 1 1000000 m))), some (Vl.val (PyData.bool (wiB 1 20000 m))), some (Vl.val (PyData.bool (unB a m))), some (Vl.own (PyData.list ([.tuple [.str (numS m), .bool (wiB 1 1000000 m)], .tuple [.str (numS t), .bool (geB t)]]))), some (Vl.val (fnD (Str.ofString "greatest_order"))), some (Vl.val (t)), none, none, none, none, none]) (retQ [true] RightP) nX by
    cases t with
    | int x =>
      cases c : shB (.int x) with
      | false =>
        have gt : geB (.int x) = false := by show (shB (.int x) && _) = false; rw [c]; rfl
        rw [c] at et
        rw [gt] at K
        simp -implicitDefEqProofs [okFl, runF, lentsOf, okArgs, apart, lentSl, peekSl, endCall, backLents, frzAll, clean, scal, scalOb, scal.scalAll, qm, am, qt, at', et]
        exact K
      | true =>
        have gt : geB (.int x) = decide (1 ≤ x) := by show (shB (.int x) && _) = _; rw [c]; rfl
        rw [c] at et
        rw [gt] at K
        simp -implicitDefEqProofs [okFl, runF, lentsOf, okArgs, apart, lentSl, peekSl, endCall, backLents, frzAll, clean, scal, scalOb, scal.scalAll, qm, am, qt, at', et]
        exact K
    | _ =>
      simp -implicitDefEqProofs [okFl, runF, lentsOf, okArgs, apart, lentSl, peekSl, endCall, backLents, frzAll, clean, scal, scalOb, scal.scalAll, qm, am, qt, at', et, shB]
      exact K
  have du := h8 [(numS m, wiB 1 1000000 m), (numS t, geB t)] (by simp)
  simp only [List.map, dueD] at du
  have b1 := h4 m mm t mt
  subst hT; refine wp_seqG fun T hT => ?_
  suffices K : Wp (T [some (Vl.lent (d3)), some (Vl.val (a)), some (Vl.val (m)), some (Vl.val (PyData.bool (wiB 1 1000000 m))), some (Vl.val (PyData.bool (wiB 1 20000 m))), some (Vl.val (PyData.bool (unB a m))), some (Vl.own (PyData.list ([.tuple [.str (numS m), .bool (wiB 1 1000000 m)], .tuple [.str (numS t), .bool (geB t)]]))), some (Vl.val (fnD (Str.ofString "greatest_order"))), some (Vl.val (t)), none, none, none, none, none]) (retQ [true] RightP) nX by
    by_cases c : dut m t = fineS
    · obtain ⟨u1, w1⟩ := b1.fine c
      rw [show dueW [(numS m, wiB 1 1000000 m), (numS t, geB t)] = fineS from c] at du
      simp -implicitDefEqProofs [okFl, runF, lentsOf, okArgs, apart, lentSl, peekSl, endCall, backLents, frzAll, clean, scal, scalOb, scal.scalAll, w1, word_f, du]
      exact K
    · obtain ⟨u1, w1, v1⟩ := b1.bad c
      rw [show dueW [(numS m, wiB 1 1000000 m), (numS t, geB t)] = dut m t from rfl] at du
      simp -implicitDefEqProofs [okFl, runF, lentsOf, okArgs, apart, lentSl, peekSl, endCall, backLents, frzAll, clean, scal, scalOb, scal.scalAll, w1, v1, du]
      exact K
  clear du b1
  have n3 := n_three m mm
  have n4 : nOf m ≤ 3 := by omega
  subst hT; refine wp_seqG fun T hT => ?_
  suffices K : Wp (T [some (Vl.lent (d3)), some (Vl.val (a)), some (Vl.val (m)), some (Vl.val (PyData.bool (wiB 1 1000000 m))), some (Vl.val (PyData.bool (wiB 1 20000 m))), some (Vl.val (PyData.bool (unB a m))), some (Vl.own (PyData.list ([.tuple [.str (numS m), .bool (wiB 1 1000000 m)], .tuple [.str (numS t), .bool (geB t)]]))), some (Vl.val (fnD (Str.ofString "greatest_order"))), some (Vl.val (t)), some (Vl.val (PyData.int ((nOf m : Int)))), none, none, none, none]) (retQ [true] RightP) nX by
    cases c : wiB 1 20000 m with
    | true =>
      obtain ⟨l, hl, e⟩ := h1 m mm c
      rw [c] at K
      have ol : opLen [.tuple l] = some (.val (.int (nOf m : Int))) := by rw [← hl]; exact (by simp)
      simp -implicitDefEqProofs [okFl, runF, lentsOf, okArgs, apart, lentSl, peekSl, endCall, backLents, frzAll, clean, scal, scalOb, scal.scalAll, e, ol]
      exact K
    | false =>
      have n0 : nOf m = 0 := n_zero m mm c
      rw [c, n0] at K
      simp -implicitDefEqProofs [okFl, runF, lentsOf, okArgs, apart, lentSl, peekSl, endCall, backLents, frzAll, clean, scal, scalOb, scal.scalAll]
      exact K
  have x1 := mul_t (d := .int 0) (n := nOf m) (by omega)
  have x2 := mul_t (d := .int 100000000000000000000000000000000000000000000000000000000000) (n := nOf m) (by omega)
  have x3 := mul_t (d := .int 1000000000000000000000000000000000000000000000000000000000000) (n := nOf m) (by omega)
  have x4 := mul_t (d := .bool true) (n := nOf m) (by omega)
  have x5 := mul_l (d := .int 0) (n := nOf m) (by omega)
  have x6 : opMul [.tuple [.int 0], .int ((nOf m : Int) + 1)] = some (.val (.tuple (rep (.int 0) (nOf m + 1)))) := mul_t (n := nOf m + 1) (by omega)
  have hu := h3 m mm
  generalize hn : nOf m = n at *
  subst hT
  refine wp_seqG fun T hT => ?_; simp -implicitDefEqProofs [okFl, runF, lentsOf, okArgs, apart, lentSl, peekSl, endCall, backLents, frzAll, clean, scal, scalOb, scal.scalAll, op_pow_i, pw10, x1, x2, x3, x4, x5]
  subst hT; refine wp_seqG fun T hT => ?_; simp -implicitDefEqProofs [okFl, runF, lentsOf, okArgs, apart, lentSl, peekSl, endCall, backLents, frzAll, clean, scal, scalOb, scal.scalAll, x6, op_add_l]
  refine wp_cl (h5 d3 (rowsC n) hd3 (by show 0 < 8; decide) (by show 8 < 1000; decide)) ?_
  rintro _ _ ⟨d4, row, hd4, mr, rfl, rfl⟩
  simp -implicitDefEqProofs [okFl, runF, lentsOf, okArgs, apart, lentSl, peekSl, endCall, backLents, frzAll, clean, scal, scalOb, scal.scalAll, dice_scal hd4]
  have e1 : g7 [.val (.int 0)] = _ := h7 (.int 0) rfl
  have e2 : g7 [.val (.int 100000000000000000000000000000000000000000000000000000000000)] = _ := h7 (.int 100000000000000000000000000000000000000000000000000000000000) rfl
  have e3 : g7 [.val (.int 1000000000000000000000000000000000000000000000000000000000000)] = _ := h7 (.int 1000000000000000000000000000000000000000000000000000000000000) rfl
  have e4 : g7 [.val (.bool true)] = _ := h7 (.bool true) rfl
  rw [show shB (.int 0) = true by decide] at e1
  rw [show shB (.int 100000000000000000000000000000000000000000000000000000000000) = true by decide] at e2
  rw [show shB (.int 1000000000000000000000000000000000000000000000000000000000000) = false by decide] at e3
  rw [show shB (.bool true) = false by decide] at e4
  have b1 := hu row mr
  have du := h8 [(numS m, wiB 1 20000 m), (rowS, rowB n row)] (by simp)
  simp only [List.map, dueD] at du
  clear hu x1 x2 x3 x4 x5 x6 h1 h2 h3 h4 h5 h6 h7 h8 h9
  subst hT; refine wp_seqG fun T hT => ?_
  suffices K : Wp (T [some (Vl.lent (d4)), some (Vl.val (a)), some (Vl.val (m)), some (Vl.val (PyData.bool (wiB 1 1000000 m))), some (Vl.val (PyData.bool (wiB 1 20000 m))), some (Vl.val (PyData.bool (unB a m))), some (Vl.own (PyData.list ([.tuple [.str (numS m), .bool (wiB 1 1000000 m)], .tuple [.str (numS t), .bool (geB t)]]))), some (Vl.val (fnD (Str.ofString "greatest_order"))), some (Vl.val (t)), some (Vl.val (PyData.int ((n : Int)))), some (Vl.own (PyData.list ([.tuple [], .tuple (rep (.int 0) n), .tuple (rep (.int 100000000000000000000000000000000000000000000000000000000000) n), .tuple (rep (.int 1000000000000000000000000000000000000000000000000000000000000) n), .tuple (rep (.bool true) n), .list (rep (.int 0) n), .none]))), some (Vl.val (row)), some (Vl.val (PyData.bool (rowB n row))), none]) (retQ [true] RightP) nX by
    clear du b1
    generalize hX : PyData.list [.tuple [], .tuple (rep (.int 0) n), .tuple (rep (.int 100000000000000000000000000000000000000000000000000000000000) n), .tuple (rep (.int 1000000000000000000000000000000000000000000000000000000000000) n), .tuple (rep (.bool true) n), .list (rep (.int 0) n), .none] = X at K ⊢
    clear hX
    rcases n3 with rfl | rfl | rfl
    all_goals
      simp only [rowsC, rep, List.replicate, List.mem_cons, List.not_mem_nil, or_false] at mr
      rcases mr with rfl | rfl | rfl | rfl | rfl | rfl | rfl | rfl
      all_goals
        simp -implicitDefEqProofs [okFl, runF, lentsOf, okArgs, apart, lentSl, peekSl, endCall, backLents, frzAll, clean, scal, scalOb, scal.scalAll, lc_cons, lc_nil, e1, e2, e3, e4, op_eq_cons]
        exact K
  have dr : dur m row = dueW [(numS m, wiB 1 20000 m), (rowS, rowB n row)] := by unfold dur; rw [hn]
  by_cases c : dur m row = fineS
  · obtain ⟨u1, w1⟩ := b1.fine c
    rw [← dr, c] at du
    subst hT; refine wp_seqG fun T hT => ?_; simp -implicitDefEqProofs [okFl, runF, lentsOf, okArgs, apart, lentSl, peekSl, endCall, backLents, frzAll, clean, scal, scalOb, scal.scalAll, w1, word_f, du, qm, am]
    exact ⟨_, hd4, rfl, rfl⟩
  · obtain ⟨u1, w1, v1⟩ := b1.bad c
    rw [← dr] at du
    subst hT; refine wp_seqG fun T hT => ?_; simp -implicitDefEqProofs [okFl, runF, lentsOf, okArgs, apart, lentSl, peekSl, endCall, backLents, frzAll, clean, scal, scalOb, scal.scalAll, w1, v1, du, qm, am]
    exact ⟨_, hd4, rfl, rfl⟩
end Lw

set_option exponentiation.threshold 600
set_option maxHeartbeats 4000000
namespace Lw
open PySem Mi
theorem gen_of {g : Fn} (h : AyF k_generators_of g) : C_gen g := fun m hm c => by
  have q := List.all_eq_true.mp q_gen m hm
  rw [c] at q
  simp only [Bool.not_true, Bool.false_or] at q
  rcases h [.val m] with z | z
  · rw [z] at q; cases q
  · rw [z]
    unfold genB at q
    split at q
    · rename_i l e
      exact ⟨l, of_decide_eq_true q, e⟩
    · cases q
theorem gcd_of {g : Fn} (h : AyF k__law_gcd g) : C_gcd g := fun x hx y hy a m ea em c1 c2 => by
  have q := List.all_eq_true.mp (List.all_eq_true.mp q_gcd x hx) y hy
  rw [c1, c2] at q
  simp only [Bool.and_self, Bool.not_true, Bool.false_or] at q
  rcases h [.val x, .val y] with z | z
  · rw [z] at q
    subst ea em
    cases q
  · rw [z]
    subst ea em
    unfold gcdB at q
    split at q
    · rename_i g' e1 e2 e
      cases e1
      cases e2
      rw [e, of_decide_eq_true q]
    · cases q
theorem unit_of {g : Fn} (h : AyF k_unit_with g) : W_unit g := fun m hm row hr => WordP.of h (List.all_eq_true.mp (List.all_eq_true.mp q_unit_with m hm) row hr)
theorem shaped_strs (ss : List Str) (hs : ∀ s ∈ ss, PyData.strOk s = true) : SeqAt.shaped (.list (ss.map .str)) = true := by
  have key : ∀ ss : List Str, (∀ s ∈ ss, PyData.strOk s = true) → PyData.canLayAll0 (ss.map .str) = true ∧ PyData.depthAll (ss.map .str) = 0 := by
    intro ss
    induction ss with
    | nil => exact fun _ => ⟨rfl, rfl⟩
    | cons d ds ih =>
      intro hs
      obtain ⟨i1, i2⟩ := ih fun s h => hs s (List.mem_cons_of_mem _ h)
      have h0 := hs d List.mem_cons_self
      simp only [List.map_cons, PyData.canLayAll0, PyData.depthAll, PyData.canLay0, PyData.depth, i1, i2]
      simp [h0]
  obtain ⟨k1, k2⟩ := key ss hs
  exact shaped_d (by simpa only [PyData.canLay0] using k1) (by simp only [PyData.depth, k2]; decide)
theorem eq5 : opEq [.list [.str (Str.ofString "operation"), .str (Str.ofString "number 20001"), .str (Str.ofString "number 0"), .str (Str.ofString "row"), .str (Str.ofString "number 0")], .list [.str (Str.ofString "operation"), .str (Str.ofString "number 20001"), .str (Str.ofString "number 0"), .str (Str.ofString "row"), .str (Str.ofString "number 0")]] = some (.val (.bool true)) :=
  op_eq_refl (shaped_strs [Str.ofString "operation", Str.ofString "number 20001", Str.ofString "number 0", Str.ofString "row", Str.ofString "number 0"] (by decide +kernel))
def C_law (g : Fn) : Prop := ∀ zs : List Int, zs.length ≤ 63 → g [.val (.list (zs.map .int))] = .ret (.val (.bool true)) []
theorem v_law {g1 g2 g3 g4 g5 g6 g7 : Fn} (h1 : WordP (g1 [.val (.int 6), .val (.int 9)]) opS) (h2 : WordP (g2 [.val (.int 0)]) (Str.ofString "number 0")) (h3 : WordP (g3 [.val (.int 1), .val (.int 20001)]) (Str.ofString "number 20001"))
    (h4 : WordP (g4 [.val (.int 15), .val (.tuple [.int 1])]) rowS) (h5 : WordP (g5 [.val (.int 9), .val (.int 0)]) (Str.ofString "number 0")) (h6 : W_dice g6) (h7 : C_right g7) : C_law (b_law g1 g2 g3 g4 g5 g6 g7) := fun zs hz => by
  refine wc_eq ?_
  unfold b_law
  refine wc_fn0 rfl ?_
  unfold s_law
  obtain ⟨m, hm, m4⟩ : ∃ m : Nat, max 1 (min 3 (zs.length : Int)) = m ∧ m ≤ 4 := ⟨(max 1 (min 3 (zs.length : Int))).toNat, by omega, by omega⟩
  refine wp_seqG fun T hT => ?_; simp -implicitDefEqProofs [okFl, runF, lentsOf, okArgs, apart, lentSl, peekSl, endCall, backLents, frzAll, clean, scal, scalOb, scal.scalAll, hm, rg_nat (n := m) (by omega)]
  refine wp_forN (fun j r => ∃ (z1 z2 z3 : Option Vl), stb z1 ∧ stb z2 ∧ stb z3 ∧ r = [some (Vl.val (PyData.list (zs.map .int))), z1, z2, z3, none]) ⟨none, none, none, stb_none, stb_none, stb_none, rfl⟩ ?_ ?_
  · rintro j r hj ⟨z1, z2, z3, s1, s2, s3, rfl⟩
    simp -implicitDefEqProofs [okFl, runF, lentsOf, okArgs, apart, lentSl, peekSl, endCall, backLents, frzAll, clean, scal, scalOb, scal.scalAll, st_stb s1]
    refine wp_cl (h6 zs j (by omega)) ?_; rintro _ _ ⟨d, hd, rfl, rfl⟩; simp -implicitDefEqProofs [okFl, runF, lentsOf, okArgs, apart, lentSl, peekSl, endCall, backLents, frzAll, clean, scal, scalOb, scal.scalAll, st_stb s2, dice_scal hd]
    refine wp_forN (n := 12) (fun i r => ∃ (d : Da) (z3 : Option Vl), isDice d ∧ stb z3 ∧ r = [some (Vl.val (PyData.list (zs.map .int))), some (Vl.val (PyData.int ((j : Int)))), some (Vl.own (d)), z3, none]) ⟨d, z3, hd, s3, rfl⟩ ?_ ?_
    · rintro i r hi ⟨d, z3, hd, s3, rfl⟩
      simp -implicitDefEqProofs [okFl, runF, lentsOf, okArgs, apart, lentSl, peekSl, endCall, backLents, frzAll, clean, scal, scalOb, scal.scalAll, st_stb s3]
      refine wp_cl (h7 d hd) ?_; rintro _ _ ⟨d1, hd1, rfl, rfl⟩; simp -implicitDefEqProofs [okFl, runF, lentsOf, okArgs, apart, lentSl, peekSl, endCall, backLents, frzAll, clean, scal, scalOb, scal.scalAll, dice_scal hd1]
      exact hd1
    · rintro r ⟨d, z3, hd, s3, rfl⟩
      simp -implicitDefEqProofs [okFl, runF, lentsOf, okArgs, apart, lentSl, peekSl, endCall, backLents, frzAll, clean, scal, scalOb, scal.scalAll]
      exact ⟨_, stb_val, _, stb_own, _, s3, rfl, rfl, rfl⟩
  · rintro r ⟨z1, z2, z3, s1, s2, s3, rfl⟩
    obtain ⟨u1, w1, v1⟩ := h1.bad (by decide +kernel)
    obtain ⟨u2, w2, v2⟩ := h2.bad (by decide +kernel)
    obtain ⟨u3, w3, v3⟩ := h3.bad (by decide +kernel)
    obtain ⟨u4, w4, v4⟩ := h4.bad (by decide +kernel)
    obtain ⟨u5, w5, v5⟩ := h5.bad (by decide +kernel)
    subst hT; refine wp_seqG fun T hT => ?_; simp -implicitDefEqProofs [okFl, runF, lentsOf, okArgs, apart, lentSl, peekSl, endCall, backLents, frzAll, clean, scal, scalOb, scal.scalAll, w1, v1]
    subst hT; refine wp_seqG fun T hT => ?_; simp -implicitDefEqProofs [okFl, runF, lentsOf, okArgs, apart, lentSl, peekSl, endCall, backLents, frzAll, clean, scal, scalOb, scal.scalAll, w3, v3, appD]
    subst hT; refine wp_seqG fun T hT => ?_; simp -implicitDefEqProofs [okFl, runF, lentsOf, okArgs, apart, lentSl, peekSl, endCall, backLents, frzAll, clean, scal, scalOb, scal.scalAll, w2, v2, appD]
    subst hT; refine wp_seqG fun T hT => ?_; simp -implicitDefEqProofs [okFl, runF, lentsOf, okArgs, apart, lentSl, peekSl, endCall, backLents, frzAll, clean, scal, scalOb, scal.scalAll, w4, v4, appD]
    subst hT; refine wp_seqG fun T hT => ?_; simp -implicitDefEqProofs [okFl, runF, lentsOf, okArgs, apart, lentSl, peekSl, endCall, backLents, frzAll, clean, scal, scalOb, scal.scalAll, w5, v5, appD]
    subst hT; refine wp_seqG fun T hT => ?_; simp -implicitDefEqProofs [okFl, runF, lentsOf, okArgs, apart, lentSl, peekSl, endCall, backLents, frzAll, clean, scal, scalOb, scal.scalAll, eq5]
/-! ## all joined -/
theorem tab_oo (k : Nat) : T_ k (Str.ofString "order_of") = some ([false, false], F_order_of k) := by kernel_rfl
theorem tab_oa (k : Nat) : T_ k (Str.ofString "order_answer") = some ([false, false], F_order_answer k) := by kernel_rfl
theorem tab_go (k : Nat) : T_ k (Str.ofString "generators_of") = some ([false], F_generators_of k) := by kernel_rfl
theorem tab_ua (k : Nat) : T_ k (Str.ofString "units_answer") = some ([false], F_units_answer k) := by kernel_rfl
theorem tab_gr (k : Nat) : T_ k (Str.ofString "group_of") = some ([false], F_group_of k) := by kernel_rfl
theorem tab_gt (k : Nat) : T_ k (Str.ofString "greatest_order") = some ([false], F_greatest_order k) := by kernel_rfl
theorem t_lwhole (k : Nat) : J_whole (F__law_is_whole (k + 1)) := by
  rw [e__law_is_whole]
  exact v_lwhole 
theorem t_lshort (k : Nat) : J_short (F__law_is_short (k + 2)) := by
  rw [e__law_is_short]
  exact v_lshort (t_lwhole k)
theorem t_dice (k : Nat) : W_dice (F__law_dice (k + 1)) := by
  rw [e__law_dice]
  exact v_dice 
theorem t_roll (k : Nat) : W_roll (F__law_up (k + 1)) := by
  rw [e__law_up]
  exact v_roll 
theorem t_pick (k : Nat) : W_pick (F__law_pick (k + 2)) := by
  rw [e__law_pick]
  exact v_pick (t_roll k)
theorem t_odd (k : Nat) : W_odd (F__law_odd (k + 3)) := by
  rw [e__law_odd]
  exact v_odd (t_pick k)
theorem t_due (k : Nat) : C_due (F__law_due (k + 1)) := by
  rw [e__law_due]
  exact v_due 
theorem t_right : C_right (F__law_right (24 + 1)) := by
  rw [e__law_right]
  exact v_right (gen_of (l_generators_of 19)) (W2.of (l_exponents_of 19) q_exponents_of) (unit_of (l_unit_with 18)) (W2.of (l_order_count 16) q_order_count) (t_pick 22) (gcd_of (l__law_gcd 23)) (t_lshort 22) (t_due 23) (t_odd 21)
    ⟨⟨_, tab_oo _, W2.of (l_order_of 19) q_order_of⟩, ⟨_, tab_oa _, W2.of (l_order_answer 14) q_order_answer⟩, ⟨_, tab_go _, W1.of (l_generators_of 19) q_generators_of⟩, ⟨_, tab_ua _, W1.of (l_units_answer 14) q_units_answer⟩, ⟨_, tab_gr _, W1.of (l_group_of 18) q_group_of⟩, ⟨_, tab_gt _, W1.of (l_greatest_order 17) q_greatest_order⟩⟩
theorem law_true : ∀ zs : List Int, zs.length ≤ 63 → lawF [.val (.list (zs.map .int))] = .ret (.val (.bool true)) [] := fun zs hz => by
  show F_law (25 + 1) _ = _
  rw [e_law]
  exact v_law (WordP.of (l_order_of 20) q_t1) (WordP.of (l_generators_of 20) q_t3) (WordP.of (l_exponents_of 20) q_t2) (WordP.of (l_unit_with 19) q_t4) (WordP.of (l_order_count 17) q_t5) (t_dice 24) t_right zs hz
end Lw

set_option maxHeartbeats 0
open PySem PySem.W PySem.Calls PyProof.Rows in
theorem PySem.Challenge.cw_forevern_k21_errors_of_units_holds : PySem.Challenge.rw_forevern_k21_errors_of_units.Holds := by
  w_on; o_law
  refine HandSHeadRun.head_any (r := Lw.Rw) (q := view Lw.Rw.prog [64]) (H := Lw.hk) (ob := Lw.ob) (M := 4300) (loose := [Str.ofString "is_whole", Str.ofString "is_short", Str.ofString "is_within", Str.ofString "is_short_from", Str.ofString "require_short", Str.ofString "require_from", Str.ofString "require_within", Str.ofString "require_modulus", Str.ofString "raised", Str.ofString "raised_modulo", Str.ofString "euclid", Str.ofString "divisor_of_two", Str.ofString "undone", Str.ofString "parts_in", Str.ofString "does_make", Str.ofString "prime_paper", Str.ofString "parts_paper", Str.ofString "phi_of_parts", Str.ofString "units_number", Str.ofString "require_unit", Str.ofString "order_within", Str.ofString "order_of", Str.ofString "order_answer", Str.ofString "least_generator", Str.ofString "own_generators", Str.ofString "residue_with", Str.ofString "generators_of", Str.ofString "units_answer", Str.ofString "exponent_to", Str.ofString "part_exponents", Str.ofString "exponents_of", Str.ofString "unit_with", Str.ofString "group_of", Str.ofString "greatest_order", Str.ofString "order_count", Str.ofString "_law_dice", Str.ofString "_law_up", Str.ofString "_law_pick", Str.ofString "_law_gcd", Str.ofString "_law_is_whole", Str.ofString "_law_met", Str.ofString "_law_is_short", Str.ofString "_law_due", Str.ofString "_law_odd", Str.ofString "_law_right", Str.ofString "NumberError", Str.ofString "InvalidRow", Str.ofString "InvalidPoly", Str.ofString "InvalidOperation", Str.ofString "InvalidNumber", Str.ofString "TooMany", Str.ofString "MAX_MODULUS", Str.ofString "FAR", Str.ofString "LEAST_PRIME", Str.ofString "MAX_GENERATED", Str.ofString "ORDER", Str.ofString "UNITS"]) (d := HandSHeadRun.topDef Lw.Rw.prog 64) (kwd := []) Lw.ob_eq
    (by kernel_rfl) (fun s => by kernel_rfl) Lw.run (by kernel_rfl) (by kernel_rfl) (by kernel_rfl) (by rfl) (by first | assumption | decide +kernel) (by decide +kernel) ⟨rfl, rfl, rfl, rfl, rfl, by decide +kernel⟩ ?hw ?hc
  case hw => w_witness2
  case hc =>
    refine Mi.walk_ofG (l := PySem.Challenge.rw_forevern_k21_errors_of_units) (n := 63) (k := 4 * Lw.deep) (x := "script") rfl (by decide) (by kernel_rfl) ⟨rfl, by decide, by decide⟩ ?F
    intro w mg fa h Y G hmg0
    obtain ⟨K0, KX0, c, nl, dl⟩ := Y
    have KX := Mi.cut_in (lam := Lw.lams) KX0
    obtain ⟨n1, n2, n3, n4⟩ := Mi.ckN_ok nl
    have lm := Mi.lamB_ok n3
    have hmg : mg ("law" : PySem.Str) = some (.ref fa) := by
      have e : (HandSHeadRun.topDef Lw.Rw.prog 64).name = ("law" : PySem.Str) := by kernel_rfl
      rw [← e]
      exact hmg0
    obtain ⟨f, fd, D, b⟩ := Lw.law_def KX G c lm
    have e : f = fa := by cases D.gl.symm.trans hmg; rfl
    subst e
    exact ⟨Mi.cutK Lw.lams K0, fd, _, KX, b, Mi.noLst_ok n1, Mi.tabB_ok KX0 n3, fun H a zs hl ht hs => Mi.law_sp (R := Mi.RXp (Mi.cutK Lw.lams K0) (He.ga (Mi.cutK Lw.lams K0)) Lw.exs) (F := Lw.lawF) Lw.law_true hl ht hs, fun base KB GB TB => Mi.tab_ok (Lw.all_defs KX G c lm) (Lw.all_consts (w := w) KX G c n4 dl) (Lw.all_blts KX G c) (Mi.cls_one (Lw.all_cls KX G c) Mi.exOf_none) (Mi.cls_two (Lw.all_kno KX G c) (Lw.all_exm c)) (Mi.cls_three (Lw.all_flds KX G n2)) TB Lw.deep "law" f fd Lw.d_law D⟩


