import PyProof.Rows.All
import Wide.All
import OpenK.AllK
import Wide.FinOn
import PySem.Challenge.RW_truelevels_k00_nets_are_checked
import HandS.ForMost
import HandS.Exc
import HandS.ExcOwn
import HandS.WordsExc
import HandS.ExcInit
import HandS.ExcSuper
import HandS.ExcField
import HandS.ExcIs
import HandS.IsInst
import HandS.TupAny
import HandS.TupMul
import HandS.Style
import HandS.Conv
import HandS.SortInts
import KE.KSuper
import KE.KExcSuper
import KE.KExcIs
import HandS.FStrTup
set_option Elab.async false
set_option linter.all false
set_option maxRecDepth 100000
set_option maxHeartbeats 4000000
namespace NC
open PySem PySem.Spec PyProof.Rows L2
/-! ### the text -/
def topS (i : Nat) : Stmt := PySem.Challenge.pw_truelevels_k00_nets_are_checked.main.body.getD i (.Pass ⟨0, 0, 0, 0⟩)
abbrev sInit : Stmt := inClass (topS 2) 0
end NC
namespace NC
open PySem PySem.Spec PySem.W PySem.Calls PyProof.Rows PySem.HandSPX L2
/-! ### BadNet(line, reason) -/
def initSc : Scope := defScope sInit
/-- what the written part says of BadNet, at C, of its __init__, at fI, of the cell that holds __class__, at cc -/
structure BadTxt (prog : Program) (K : Frag) (mg : Str → Option Value) (C fI : Addr) : Prop where
  gC : mg "BadNet" = some (.ref C)
  oex : OexC K C
  gg : findIn K (.ref C) "__getattr__" = some none
  ga : findIn K (.ref C) "__getattribute__" = some (some (.builtin "BaseException.__getattribute__"))
  nL : findIn K (.ref C) "line" = some none
  nR : findIn K (.ref C) "reason" = some none
  iC : findIn K (.ref C) "__init__" = some (some (.ref fI))
  tC : typeIn K (.ref fI) = some (.type "function")
  hdC : hasDictIn K C = true
  mC : mroIn K C (.ref C) = some true
  sV : subIn K (.ref C) (.type "ValueError") = some true
  sup : ks_superIn K C C "__init__" = some (some (.builtin "ValueError.__init__"))
  msup : mg "super" = none
  tp : nsIn K cStatics "thirdparty.any" = some none
  fn : ∃ (oc : Value) (od : Option Addr) (dV kV doc pm : Value) (an : Option Addr) (cda cc : Addr) (ct : Value) (osl : Array (Option Value)) (ccl cl : Value) (cdd cld : Option Addr) (vs : Array Value) (ccs csl : Array (Option Value)) (file : Str) (tf : Tok),
    K.lookup fI = some ⟨oc, od, .func (ksFn "__init__" "BadNet.__init__" (defArgs sInit) (defBody sInit) (defScope sInit) .none kV doc pm an (.ref cda) ct cc), osl⟩ ∧ codeIn K (.ref cda) "BadNet.__init__" = true ∧
    K.lookup cda = some ⟨ccl, cdd, .fields vs, ccs⟩ ∧ vs[2]? = some (.str file tf) ∧ ((prog.main.file : Str) == file) = true ∧ K.lookup cc = some ⟨cl, cld, .cell (some (.ref C)), csl⟩ ∧
    (prog.main.scope.names.lookup ("super" : Str)).isSome = false
/-- what __init__ leaves of a fresh exception at x -/
structure InitEnd (h h' : Heap) (x C dx t1 : Addr) (l r : Value) : Prop where
  keep : ∀ b o, b ≠ x → h.get? b = some o → h'.get? b = some o
  obj : h'.get? x = some { cls := .ref C, dict := some dx, data := .fields #[.ref t1, .none, .none, .none, .bool false, .none] }
  dbig : h.objs.size ≤ dx
  dne : dx ≠ x
  ns : h'.Ns1 dx (fun y => if y = "reason" then some r else if y = "line" then some l else none)
/-- a made BadNet -/
structure BadMade (h h' : Heap) (e C d : Addr) (l r : Value) : Prop where
  keep : ∀ b o, h.get? b = some o → h'.get? b = some o
  new : h.objs.size ≤ e
  obj : ∃ oe vs, h'.get? e = some oe ∧ oe.cls = .ref C ∧ oe.dict = some d ∧ oe.data = .fields vs ∧ vs[1]? = some .none
  dbig : h.objs.size ≤ d
  dne : d ≠ e
  ns : h'.Ns1 d (fun y => if y = "reason" then some r else if y = "line" then some l else none)
section
variable {prog : Program} {w : World} {A : Around} {E : Value → Shared → Prop} {R : Result → Shared → Prop} {s : Shared} {K : Frag} {mg mb : Str → Option Value} {C fI : Addr}
theorem ldK {M : Model} {s : Shared} {env : Env} {m : Str → Option Value} {x : Str} {pos : Pos} {v : Value} {Q : Value → Shared → Prop} {A : Around} {E : Value → Shared → Prop} (hn : s.heap.Ns env.locals m) (hv : m x = some v) (h : Q v s)
    (hk : env.scope.kind = .function := by rfl) (hl : env.kindOf x = some .local := by rfl) (hd : (x == ("__debug__" : Str)) = false := by decide) :
    wpAny M A (eval (.Name x pos) env) Q E s := wpAny_Name (wpAny_loadName_local hk hl hn hv h) hd
/-- the wrapper of ValueError.__init__, called -/
theorem call_bwV {h : Heap} {g : Array GenState} {d : Drawn} {t : Nat} {os : OsState} {nm q : Str} {N : Addr} {bs bm : List Value} {hdct : Bool} {sn : List Str} {sub : List Value} {ab : Bool} {col : Option Bool} {dd : Option Addr} {k0 k1 k2 k3 k5 : Option Value}
    {u e t0 : Addr} {rest : List Value} {Q : Value → Shared → Prop}
    (hC : h.get? C = some (excClassObj nm q C N bs bm hdct sn sub ab col dd k0 k1 k2 k3 k5 "ValueError.__new__")) (he : h.get? e = some (excO C t0)) (hu : h.get? u = some (kxs_mw "ValueError.__init__" e)) (hrest : rest.length ≤ sizeLine)
    (hq : ∀ h' t1, (∀ b o, b ≠ e → h.get? b = some o → h'.get? b = some o) → h'.get? e = some (excO C t1) → Q .none ⟨h', g, d, t, os⟩) :
    wpAny (model prog w) A (call (.ref u) rest) Q E ⟨h, g, d, t, os⟩ := by
  refine wpAny_call (codeAny_of_tree ?_)
  show wpAny _ A.in1 (callAny (.ref u) ⟨rest, []⟩) _ _ _
  simp only [callAny]
  refine wpAny_bind (wpAny_load hu ?_)
  simp only [kxs_mw, show (Value.type "method-wrapper" == Value.type "method" || Value.type "method-wrapper" == Value.type "builtin_function_or_method" || Value.type "method-wrapper" == Value.type "method-wrapper") = true by decide, if_true]
  refine W.KFB.if_so (by decide) ?_
  refine wpAny_bind (ESX.check_bound F.excBase_ValueError hC he rfl ?_)
  refine wpAny_bind (wpAny_pure (wpAny_pure ?_))
  refine ⟨Code.quiet_builtin _ (by decide +kernel), codeAny_builtin F.excBase_ValueError.initEntry ?_⟩
  rw [Around.under_plainId F.excBase_ValueError.init.plain _]
  wp_walk
  refine hq _ h.objs.size (fun b o hb ho => ?_) ?_
  · rw [Heap.get?_update_other _ _ (Ne.symm hb)]
    exact Heap.get?_push_of_some _ ho
  · rw [Heap.get?_update_self _ (Heap.get?_push_of_some _ he) rfl]
    rfl
end
end NC
set_option maxRecDepth 100000
set_option maxHeartbeats 4000000
namespace NC
open PySem PySem.Spec PySem.W PySem.Calls PyProof.Rows PySem.HandSPX L2
section
variable {prog : Program} {w : World} {A : Around} {E : Value → Shared → Prop} {R : Result → Shared → Prop} {s : Shared} {K : Frag} {mg mb : Str → Option Value} {C fI : Addr}
theorem binds3 {a b c : Value} {y : Str × Value} (hy : y ∈ [(("self" : Str), a), (("line" : Str), b), (("reason" : Str), c)]) : (defScope sInit).names.lookup y.1 = some .local := by
  rcases List.mem_cons.mp hy with rfl | hy
  · rfl
  rcases List.mem_cons.mp hy with rfl | hy
  · rfl
  rcases List.mem_cons.mp hy with rfl | hy
  · rfl
  cases hy
theorem kept_but {K : Frag} {h h' : Heap} {x : Addr} (X : K.In h) (hx : K.lookup x = none) (k : ∀ b o, b ≠ x → h.get? b = some o → h'.get? b = some o) : K.In h' := fun a o e =>
  k a o (fun z => by rw [z, hx] at e; cases e) (X a o e)
theorem ns_but {h h' : Heap} {L x : Addr} {m : Str → Option Value} (n : h.Ns L m) (hx : L ≠ x) (k : ∀ b o, b ≠ x → h.get? b = some o → h'.get? b = some o) : h'.Ns L m := by
  obtain ⟨o, es, ep, e, r⟩ := n
  exact ⟨o, es, ep, k _ _ hx e, r⟩
theorem bad_init (T : BadTxt prog K mg C fI) {x t0 : Addr} {l r : Value} (X : K.In s.heap) (hgl : s.heap.Ns mainGlobals mg) (hbl : s.heap.Ns builtinsNs mb) (hsb : mb "super" = some (.type "super")) (hlim : s.heap.NoLimit)
    (hx : s.heap.get? x = some (excO C t0)) (hnx : K.lookup x = none) (hroom : A.depth < recursionLimit)
    (hq : ∀ h' tk dx t1, InitEnd s.heap h' x C dx t1 l r → R (.ok (.ret .none)) { s with heap := h', toks := tk }) :
    codeAny (model prog w) A (.call (.ref fI) ⟨[.ref x, l, r], []⟩) R s := by
  obtain ⟨oc, od, dV, kV, doc, pm, an, cda, cc, ct, osl, ccl, cl, cdd, cld, vs, ccs, csl, file, tf, ho, hcd, hcode, hvs, hfile, hcell, htop⟩ := T.fn
  obtain ⟨nm, q, N, bs, bm, sn, sub, ab, col, dd, k0, k1, k2, k3, k5, hC, hbm⟩ := T.oex.cls
  have hcl : clsIn K C = some { name := nm, bases := bs, mro := .ref C :: bm, ns := N, qualname := q, hasDict := true, slotNames := sn, subclasses := sub, abstract := ab, collection := col, hasDel := false } := by unfold clsIn; rw [hC] <;> rfl
  refine ks_codeAny_call_defAt (fd := ksFn "__init__" "BadNet.__init__" (defArgs sInit) (defBody sInit) (defScope sInit) .none kV doc pm an (.ref cda) ct cc) (body := defBody sInit) (binds := [("self", .ref x), ("line", l), ("reason", r)])
    hroom (X _ _ ho) rfl hlim (codeRec_of X hcd) rfl (BindsTo.of_eq rfl) (show ∀ y ∈ (defScope sInit).names, y.2 ≠ .cell by decide +kernel) (fun y hy => ?_) (fun h₁ hns hk₁ => ?_) rfl rfl rfl
  case _ => exact binds3 hy
  have hxL : s.heap.objs.size ≠ x := Nat.ne_of_gt (Heap.lt_size hx)
  have X₁ : K.In h₁ := X.keeps hk₁
  have hx₁ := hk₁ _ _ hx
  have hgl₁ := hgl.keeps hk₁
  have hbl₁ := hbl.keeps hk₁
  have IA : InstAt h₁ x (excO C t0) C none := ⟨hx₁, rfl, rfl, trivial⟩
  -- super().__init__(reason)
  show _root_.PySem.wpAt _ _ _ (execs (_ :: _) _) _ _ _
  refine ks_wpAt_execs_cons (ks_wpAt_Expr_any (ks_wpAt_MethodCall ?_))
  refine ks_wpAt_super_base (env := ksEnv "BadNet.__init__" (defScope sInit) s.heap.objs.size fI (.ref cda) cc) rfl rfl (by decide) rfl (X₁ _ _ ho) rfl rfl rfl (X₁ _ _ hcode) rfl hvs hfile htop ?_
  refine ks_loadName_global rfl rfl (loadGlobal_builtin (env := ksEnv "BadNet.__init__" (defScope sInit) s.heap.objs.size fI (.ref cda) cc) hgl₁ T.msup hbl₁ hsb ⟨rfl, ?_⟩)
  refine wpAny_loadName_free rfl rfl rfl ⟨_, X₁ _ _ hcell, rfl⟩ ?_
  refine wpAny_loadName_local rfl rfl hns (v := .ref x) (by first | rfl | decide +kernel) ?_
  refine ks_wpAny_isType_cls (X₁ _ _ hC) rfl ⟨rfl, ?_⟩
  refine ks_wpAny_call_super (X₁ _ _ hC) rfl hx₁ rfl (fun c e => by cases e) (looks_mroIn X₁ T.mC) (fun h₂ hso k₂ => ?_)
  have X₂ : K.In h₂ := X₁.keeps k₂
  have hns₂ := hns.keeps k₂
  have hx₂ := k₂ _ _ hx₁
  have IA₂ : InstAt h₂ x (excO C t0) C none := ⟨hx₂, rfl, rfl, trivial⟩
  have hxC : x ≠ C := ks_ne X₁ IA hcl
  have hl0 : alongIn K "__init__" ((({ name := nm, bases := bs, mro := .ref C :: bm, ns := N, qualname := q, hasDict := true, slotNames := sn, subclasses := sub, abstract := ab, collection := col, hasDel := false } : ClassData).mro.dropWhile (· != .ref C)).drop 1) = some (some (.builtin "ValueError.__init__")) := by
    have z := T.sup
    unfold ks_superIn at z
    rw [hcl] at z
    exact z
  refine kxs_getMethod kxs_ValueError hso (looks_opaque X₂ T.tp) (l₀ := .ref C :: bm) (fun A Q E s k q => wpAny_bind ((looks_clsIn X₂ hcl) A _ E s k (wpAny_pure q))) rfl X₂ hl0 (IA₂.type.andThen (looks_subIn X₂ T.sV)) hxC (by decide) ?_
  have k₃ : ∀ b o, h₂.get? b = some o → (h₂.push (kxs_mw "ValueError.__init__" x)).get? b = some o := fun b o e => Heap.get?_push_of_some _ e
  have X₃ := X₂.keeps k₃
  have hns₃ := hns₂.keeps k₃
  have hx₃ := k₃ _ _ hx₂
  have hmw : (h₂.push (kxs_mw "ValueError.__init__" x)).get? h₂.objs.size = some (kxs_mw "ValueError.__init__" x) := Heap.get?_push_at rfl rfl
  refine kxs_callWith (i := "ValueError.__init__") (x := x) (by first | rfl | decide) ?_
  refine evalArgs_plain ?_
  refine Calls.spliced_cons (ldK (v := r) hns₃ (by first | rfl | decide +kernel) ?_)
  refine Calls.spliced_nil ⟨hmw, ?_⟩
  refine call_bwV (X₃ _ _ hC) hx₃ hmw (by show 1 ≤ sizeLine; decide) fun h₄ t1 k₄ hx₄ => ?_
  have X₄ := kept_but X₃ hnx k₄
  have hns₄ := ns_but hns₃ hxL k₄
  -- self.line = line
  refine wpAt_of_wpAny ?_
  show wpAny _ _ (execs (_ :: _) _) _ _ _
  refine wpAny_execs_cons (plainObj_wpAny_Assign_Attribute ?_)
  refine ldK (v := l) hns₄ (by first | rfl | decide +kernel) (ldK (v := .ref x) hns₄ (by first | rfl | decide +kernel) ?_)
  refine set_plain X₄ (ox := excO C t1) (od := none) ⟨hx₄, rfl, rfl, trivial⟩ T.oex.sa ?_
  refine exc_osa X₄ hx₄ hcl (show refsVE (.ref C :: bm) = true from hbm) rfl T.nL (fun h₅ tk₅ dx k₅ dn dne hx₅ hn₅ => ?_)
  have X₅ := kept_but X₄ hnx k₅
  have hns₅ := ns_but hns₄ hxL k₅
  obtain ⟨oD, _, _, hoD, _, _⟩ := hn₅.count (Within.cons "line" l Within.nil)
  -- self.reason = reason
  show wpAny _ _ (execs (_ :: _) _) _ _ _
  refine wpAny_execs_cons (plainObj_wpAny_Assign_Attribute ?_)
  refine ldK (v := r) hns₅ (by first | rfl | decide +kernel) (ldK (v := .ref x) hns₅ (by first | rfl | decide +kernel) ?_)
  refine set_plain X₅ (ox := { cls := .ref C, dict := some dx, data := .fields #[.ref t1, .none, .none, .none, .bool false, .none] }) (od := some oD) ⟨hx₅, rfl, rfl, hoD⟩ T.oex.sa ?_
  refine PySem.OEX.osa_old X₅ hx₅ hn₅ (Within.cons "line" l Within.nil) (by decide) hcl (show refsVE (.ref C :: bm) = true from hbm) rfl T.nR (fun h₆ tk₆ k₆ hn₆ => ?_)
  refine wpAny_execs_nil (hq h₆ tk₆ dx t1 ⟨fun b o hb e => ?_, k₆ _ _ (Ne.symm dne) hx₅, ?_, dne, hn₆⟩)
  · have e4 := k₄ b o hb (k₃ _ _ (k₂ _ _ (hk₁ _ _ e)))
    exact k₆ b o (Nat.ne_of_lt (Nat.lt_of_lt_of_le (Heap.lt_size e4) dn)) (k₅ b o hb e4)
  · exact Nat.le_of_lt (Nat.lt_of_lt_of_le hns₄.lt dn)
theorem bad_made (T : BadTxt prog K mg C fI) {l r : Value} (X : K.In s.heap) (hgl : s.heap.Ns mainGlobals mg) (hbl : s.heap.Ns builtinsNs mb) (hsb : mb "super" = some (.type "super")) (hlim : s.heap.NoLimit) (hroom : A.depth + 1 < recursionLimit)
    (hq : ∀ h' tk e d, BadMade s.heap h' e C d l r → R (.ok (.ret (.ref e))) { s with heap := h', toks := tk }) :
    codeAny (model prog w) A (.call (.ref C) ⟨[l, r], []⟩) R s := by
  obtain ⟨nm, q, N, bs, bm, sn, sub, ab, col, dd, k0, k1, k2, k3, k5, hC, hbm⟩ := T.oex.cls
  obtain ⟨hp, g, dr, tk, os⟩ := s
  have k : ∀ b o, hp.get? b = some o → ((hp.push (kdv_tup [l, r])).push (excO C hp.objs.size)).get? b = some o := fun b o e => Heap.get?_push_of_some _ (Heap.get?_push_of_some _ e)
  have hget : ((hp.push (kdv_tup [l, r])).push (excO C hp.objs.size)).get? (hp.objs.size + 1) = some (excO C hp.objs.size) := by heap_get
  have hnx : K.lookup (hp.objs.size + 1) = none := by
    cases e : K.lookup (hp.objs.size + 1) with
    | none => rfl
    | some o =>
      have z : hp.get? (hp.objs.size + 1) = some o := X _ _ e
      exact absurd (Nat.lt_of_succ_lt (Heap.lt_size z)) (Nat.lt_irrefl _)
  refine call_own F.excBase_ValueError (fun X => refsVE_contains X bm hbm) (X _ _ hC) (looks_findIn X T.iC) (fun self => bind_fn X self T.tC) (by show 2 ≤ sizeLine; decide) ?_
  refine bad_init (s := ⟨(hp.push (kdv_tup [l, r])).push (excO C hp.objs.size), g, dr, tk, os⟩) T (X.keeps k) (hgl.keeps k) (hbl.keeps k) hsb (hlim.keeps k) hget hnx ?_ fun h' tk' dx t1 ⟨k', hx, dn, dne, hns⟩ => ?_
  · show A.depth + 1 < recursionLimit
    exact hroom
  · have old : ∀ b o, hp.get? b = some o → h'.get? b = some o := fun b o e => k' b o (Nat.ne_of_lt (Nat.lt_succ_of_lt (Heap.lt_size e))) (k b o e)
    have z : hp.objs.size + 1 + 1 ≤ dx := by
      first
        | (simpa only [Heap.size_push] using dn)
        | exact dn
        | (have q := dn; rw [Heap.size_push, Heap.size_push] at q; exact q)
    exact ⟨rfl, hq h' tk' (hp.objs.size + 1) dx ⟨old, Nat.le_succ _, ⟨_, _, hx, rfl, rfl, rfl, rfl⟩, Nat.le_trans (Nat.le_trans (Nat.le_succ _) (Nat.le_succ _)) z, dne, hns⟩⟩
end
end NC
namespace NC
open PySem PySem.Spec PyProof.Rows L2
section
variable {X : Cx} {C fI : Addr}
theorem relO_bad {l r : V} {l' r' : Value} (rl : RelV l l') (rr : RelV r r') (f : Str) : RelO (List.lookup f [(("reason" : Str), r), (("line" : Str), l)]) (if f = "reason" then some r' else if f = "line" then some l' else none) := by
  rw [lookup_put]
  by_cases h : f = "reason"
  · rw [if_pos h, if_pos h]
    exact rr
  · rw [if_neg h, if_neg h, lookup_put]
    by_cases h2 : f = "line"
    · rw [if_pos h2, if_pos h2]
      exact rl
    · rw [if_neg h2, if_neg h2]
      trivial
/-- BadNet(l, r) -/
def tMkBad (C : Addr) (ta : TA) : L2.St → Hp → XK → Prop := fun σ H Q => ta σ H fun vs H1 => ∃ l r, vs = [l, r] ∧ ∀ d, H1 d = none → Q (.ref C) (some d) (upd H1 d (.xd [(("reason" : Str), r), (("line" : Str), l)]))
theorem pmk_bad {a b : Expr} {ta : TA} {p pos : Pos} {k : Nat} (T : BadTxt X.prog X.K X.mg C fI) (hr : Room k X.A) (ha : PA X [a, b] ta) (hg : Gl X "BadNet" := by rfl)
    (he : starEach (a :: [b]) X.env = (false, eval a X.env) :: starEach [b] X.env := by rfl) (hpl : (backTo pos (starEach [b] X.env)).any (·.1) = false := by rfl) :
    PMk X (.Call (.Name "BadNet" p) [a, b] [] pos) (tMkBad C ta) := by
  intro pins s σ H Q I h
  refine wpAny_Call_Name_kw (ld_glob I hg T.gC ?_)
  refine PySem.W.callWith_K (h₀ := X.base) I.ok.mod.kin T.oex.kC (thn (ha.run pos pins s σ H _ I h) fun us s1 hh => ?_) he hpl
  obtain ⟨vs, H1, I1, r1, l, r, ev, q1⟩ := hh
  subst ev
  refine ⟨I1.kIn, ?_⟩
  obtain ⟨u1, u2, rfl, rl, rr⟩ := vals2 r1
  show wpAny _ _ (call (.ref C) [u1, u2]) _ _ _
  have hlim := I1.nolimit
  obtain ⟨mb, hb1, hb2⟩ := I1.mod.blt
  have hgl := I1.mod.glob.keeps I1.bk
  have hbl := hb1.keeps I1.bk
  obtain ⟨hp, g, dr, tk, os⟩ := s1
  refine wpAny_call (bad_made T I1.kIn hgl hbl ((hb2 "super" (by decide)).trans (by decide +kernel)) hlim (by have := hr.dp; omega) fun h' tk' e d M => ?_)
  show MkP X pins σ Q (.ref e) ⟨h', g, dr, tk', os⟩
  obtain ⟨oe, fv, hoe, hc, hd, hdat, h1⟩ := M.obj
  have hns := M.ns
  obtain ⟨G', g1, g2⟩ := restrict h' fun b => decide (b ≠ e)
  have gk : ∀ b, b ≠ e → G'.get? b = h'.get? b := fun b hb => g1 b (decide_eq_true hb)
  have ge : G'.get? e = none := g2 e (by simp)
  have old : ∀ b o, hp.get? b = some o → G'.get? b = some o := fun b o q => (gk b (Nat.ne_of_lt (Nat.lt_of_lt_of_le (Heap.lt_size q) M.new))).trans (M.keep b o q)
  have ob : ObjOk X.prog X.w (upd H1 d (.xd [(("reason" : Str), r), (("line" : Str), l)])) G' d (.xd [(("reason" : Str), r), (("line" : Str), l)]) :=
    ⟨_, hns.at (fun o q => (gk d M.dne).trans q), fun f => relO_bad rl rr f⟩
  have J : Inv X pins σ (upd H1 d (.xd [(("reason" : Str), r), (("line" : Str), l)])) ⟨G', g, dr, tk', os⟩ := I1.laid (t' := tk') old M.dbig ob
  refine ⟨e, oe, fv, ⟨G', g, dr, tk', os⟩, _, .ref C, some d, rfl, J, fun b o q => ?_, ge, hoe, ⟨hc, hd⟩, hdat, h1, ?_, rfl, I1.bare, raises_own T.oex.exC T.oex.tyC, q1 d (I1.hok.fresh M.dbig)⟩
  · by_cases hb : b = e
    · have q' : G'.get? b = some o := q
      rw [hb, ge] at q'; cases q'
    · exact (gk b hb).symm.trans q
  · rw [upd_ne (Ne.symm M.dne)]
    exact I1.hok.fresh M.new
/-- raise BadNet(l, r) -/
def tRaiseBad (C : Addr) (W : WX) (ta : TA) : TS := fun _ σ H => tMkBad C ta σ H fun cls d H' => W cls d σ H'
theorem ps_raiseBad {a b : Expr} {ta : TA} {W : WX} {p pos pos2 : Pos} {k : Nat} (hc : X.calm = true) (T : BadTxt X.prog X.K X.mg C fI) (hr : Room k X.A) (tk : Takes X W) (ha : PA X [a, b] ta) (hg : Gl X "BadNet" := by rfl)
    (he : starEach (a :: [b]) X.env = (false, eval a X.env) :: starEach [b] X.env := by rfl) (hpl : (backTo pos (starEach [b] X.env)).any (·.1) = false := by rfl) :
    PS X (.Raise (some (.Call (.Name "BadNet" p) [a, b] [] pos)) none pos2) (tRaiseBad C W ta) := ps_raise hc tk (pmk_bad T hr ha hg he hpl)
/-- isinstance(e, c), e the exception that the suite holds, with its own dict -/
def rIsX (K : PySem.W.Frag) (D a : Addr) (cls : Value) (d : Option Addr) : List V → Hp → VK → Prop := fun xs H Q => cls = .ref D ∧ (∀ dd, d = some dd → ∃ fs, H dd = some (.xd fs)) ∧ rIsE K D a xs H Q
theorem call_isX {a D : Addr} {cls : Value} {d : Option Addr} {oe : Obj} {pn : List (Addr × Obj)} (T : ExcC X.K D) (hz : Zc cls d oe) (hf : ∃ vs, oe.data = .fields vs) :
    CallR (X.suite a ((a, oe) :: pn)) (.builtin "isinstance") (rIsX X.K D a cls d) := by
  intro pins s σ H xs us Q I r h
  obtain ⟨rfl, hdd, c, cv, b, rfl, hcv, e, q⟩ := h
  cases r with
  | cons rx rr =>
    cases rr with
    | cons rt rr =>
      cases rr
      cases rx
      have ec := hcv _ rt
      subst ec
      obtain ⟨hget, _⟩ := I.pin (a, oe) (List.mem_append.mpr (.inl List.mem_cons_self))
      obtain ⟨vs, hv⟩ := hf
      obtain ⟨od, J⟩ : ∃ od, PySem.W.InstAt s.heap a oe D od := by
        obtain ⟨oc, odt, oda, osl⟩ := oe
        obtain ⟨h1, h2⟩ := hz
        dsimp only at h1 h2 hv
        subst h1 h2 hv
        cases odt with
        | none => exact ⟨none, hget, rfl, rfl, trivial⟩
        | some dd =>
          obtain ⟨fs, hfs⟩ := hdd dd rfl
          have hx : ObjOk X.prog X.w H s.heap dd (.xd fs) := I.hok dd _ hfs
          obtain ⟨mA, ⟨o, es, ep, ho, _⟩, _⟩ := hx
          exact ⟨some o, hget, rfl, rfl, ho⟩
      have Z : PySem.W.KitX X.K (.ref a) (.ref D) (fun h => PySem.W.InstAt h a oe D od) := PySem.W.kitx_exc (by obtain ⟨cdD, hcD, _⟩ := PySem.W.any_some T.hd; rw [hcD]; rfl) T.hg T.hk T.hs T.ha T.hn T.ht T.hm
      exact PySem.W.kia_one Z I.kIn J e (fun z => nomatch z) fun tk => ⟨.bl b, H, I.kept (t' := tk) fun _ _ z => z, rfl, q⟩
end
end NC
set_option maxRecDepth 100000
set_option maxHeartbeats 4000000
namespace NC
open PySem PySem.Spec PyProof.Rows L2
/-! ### the text, by places -/
abbrev sInt : Stmt := topS 11
abbrev sName : Stmt := topS 12
abbrev sMarks : Stmt := topS 13
abbrev sRead : Stmt := topS 14
abbrev sReads : Stmt := topS 15
abbrev sReach : Stmt := topS 16
abbrev sJoin : Stmt := topS 17
abbrev sShape : Stmt := topS 18
abbrev sCheck : Stmt := topS 19
abbrev sCell : Stmt := topS 21
abbrev sDigs : Stmt := topS 22
abbrev sDraw : Stmt := topS 23
abbrev sPick : Stmt := topS 24
abbrev sSame : Stmt := topS 25
abbrev sLMarks : Stmt := topS 26
abbrev sLRead : Stmt := topS 27
abbrev sLNet : Stmt := topS 28
abbrev sTold : Stmt := topS 31
abbrev sBadR : Stmt := topS 32
abbrev sBadM : Stmt := topS 33
abbrev sLReach : Stmt := topS 34
abbrev sLaw : Stmt := topS 35
theorem scInt : FnScope ["n", "least", "most"] ["n", "least", "most"] (defScope sInt) := ⟨rfl, rfl, rfl, by decide +kernel, rfl, by decide +kernel, by decide +kernel⟩
theorem scName : FnScope ["name", "char"] ["name"] (defScope sName) := ⟨rfl, rfl, rfl, by decide +kernel, rfl, by decide +kernel, by decide +kernel⟩
theorem scMarks : FnScope ["marks", "seen", "name"] ["marks"] (defScope sMarks) := ⟨rfl, rfl, rfl, by decide +kernel, rfl, by decide +kernel, by decide +kernel⟩
theorem scRead : FnScope ["reading", "many"] ["reading", "many"] (defScope sRead) := ⟨rfl, rfl, rfl, by decide +kernel, rfl, by decide +kernel, by decide +kernel⟩
theorem scReads : FnScope ["readings", "many", "reading"] ["readings", "many"] (defScope sReads) := ⟨rfl, rfl, rfl, by decide +kernel, rfl, by decide +kernel, by decide +kernel⟩
theorem scReach : FnScope ["many", "readings", "start", "there", "changed", "one", "other", "_", "mark"] ["many", "readings", "start"] (defScope sReach) := ⟨rfl, rfl, rfl, by decide +kernel, rfl, by decide +kernel, by decide +kernel⟩
theorem scJoin : FnScope ["marks", "readings"] ["marks", "readings"] (defScope sJoin) := ⟨rfl, rfl, rfl, by decide +kernel, rfl, by decide +kernel, by decide +kernel⟩
theorem scShape : FnScope ["net"] ["net"] (defScope sShape) := ⟨rfl, rfl, rfl, by decide +kernel, rfl, by decide +kernel, by decide +kernel⟩
theorem scCheck : FnScope ["net"] ["net"] (defScope sCheck) := ⟨rfl, rfl, rfl, by decide +kernel, rfl, by decide +kernel, by decide +kernel⟩
/-! ### the names that are the built-ins' -/
structure Blt (mg : Str → Option Value) : Prop where
  isinstance : mg "isinstance" = none
  int : mg "int" = none
  bool : mg "bool" = none
  str : mg "str" = none
  tuple : mg "tuple" = none
  list : mg "list" = none
  len : mg "len" = none
  range : mg "range" = none
theorem bt_isinstance : bootBuiltins "isinstance" = some (.builtin "isinstance") := by decide +kernel
theorem bt_len : bootBuiltins "len" = some (.builtin "len") := by decide +kernel
theorem bt_int : bootBuiltins "int" = some (.type "int") := by decide +kernel
theorem bt_bool : bootBuiltins "bool" = some (.type "bool") := by decide +kernel
theorem bt_str : bootBuiltins "str" = some (.type "str") := by decide +kernel
theorem bt_tuple : bootBuiltins "tuple" = some (.type "tuple") := by decide +kernel
theorem bt_list : bootBuiltins "list" = some (.type "list") := by decide +kernel
/-! ### data -/
def tyD : PyData → String
  | .none => "NoneType"
  | .bool _ => "bool"
  | .int _ => "int"
  | .str _ => "str"
  | .list _ => "list"
  | .tuple _ => "tuple"
  | .dict _ => "dict"
def isTupB : PyData → Bool | .tuple _ => true | _ => false
def isStrB : PyData → Bool | .str _ => true | _ => false
def isIntB : PyData → Bool | .int _ => true | .bool _ => true | _ => false
def isBoolB : PyData → Bool | .bool _ => true | _ => false
theorem k_tup (d : PyData) : kitB (tyD d) "tuple" = some (isTupB d) := by cases d <;> (simp only [tyD, isTupB]; decide +kernel)
theorem k_str (d : PyData) : kitB (tyD d) "str" = some (isStrB d) := by cases d <;> (simp only [tyD, isStrB]; decide +kernel)
theorem k_int (d : PyData) : kitB (tyD d) "int" = some (isIntB d) := by cases d <;> (simp only [tyD, isIntB]; decide +kernel)
theorem k_bool (d : PyData) : kitB (tyD d) "bool" = some (isBoolB d) := by cases d <;> (simp only [tyD, isBoolB]; decide +kernel)
section
variable {K : PySem.W.Frag} {H H' : Hp}
theorem sq_ty_l {a : Addr} {xs : List V} (h : SqL K H a xs) : TyX K H (.ref a) (.type "list") := by
  rcases h with (h | ⟨o, h⟩) | ⟨o, its, n, hk, hc, _⟩
  · exact .base (.lst h)
  · exact .base (.frz h)
  · exact .kList hk hc
theorem sq_ty_t {a : Addr} {xs : List V} (h : SqT K H a xs) : TyX K H (.ref a) (.type "tuple") := by
  rcases h with (h | ⟨o, h⟩) | ⟨o, its, n, hk, hc, _⟩
  · exact .base (.tup h)
  · exact .fTuple h
  · exact .kTuple hk hc
theorem ty_of {x : V} {d : PyData} (h : Dp K H x d) : TyX K H x (.type (tyD d)) := by
  cases h with
  | non => exact .base .non
  | bl b => exact .base (.bl b)
  | int i => exact .base (.int i)
  | str z => exact .base (.str z)
  | lst h _ => exact sq_ty_l h
  | tup h _ => exact sq_ty_t h
theorem same_T {a : Addr} {xs : List V} (e : Same H H') (h : SqT K H a xs) : SqT K H' a xs := by
  rcases h with (h | ⟨o, h⟩) | h
  · exact .inl (.inl (e _ _ h))
  · exact .inl (.inr ⟨o, e _ _ h⟩)
  · exact .inr h
mutual
theorem dp_same (e : Same H H') : ∀ (d : PyData) (v : V), Dp K H v d → Dp K H' v d
  | .none, _, h => by cases h; exact .non
  | .bool b, _, h => by cases h; exact .bl b
  | .int i, _, h => by cases h; exact .int i
  | .str x, _, h => by cases h; exact .str x
  | .list ds, _, h => by
    cases h with
    | lst hs ha => exact .lst (e.seq hs) (dp_sameAll e ds _ ha)
  | .tuple ds, _, h => by
    cases h with
    | tup hs ha => exact .tup (same_T e hs) (dp_sameAll e ds _ ha)
  | .dict _, _, h => by cases h
theorem dp_sameAll (e : Same H H') : ∀ (ds : List PyData) (vs : List V), DpAll K H vs ds → DpAll K H' vs ds
  | [], _, h => by cases h; exact .nil
  | d :: ds, _, h => by
    cases h with
    | cons h1 h2 => exact .cons (dp_same e d _ h1) (dp_sameAll e ds _ h2)
end
theorem dpAll_len : ∀ {vs : List V} {ds : List PyData}, DpAll K H vs ds → vs.length = ds.length
  | _, _, .nil => rfl
  | _, _, .cons _ t => by rw [List.length_cons, List.length_cons, dpAll_len t]
theorem dpAll_get : ∀ {vs : List V} {ds : List PyData} {i : Nat} {v : V}, DpAll K H vs ds → vs[i]? = some v → ∃ d, ds[i]? = some d ∧ Dp K H v d
  | _, _, _, _, .nil, e => by simp at e
  | _, _, 0, _, .cons h _, e => by
    have e' := Option.some.inj e
    subst e'
    exact ⟨_, rfl, h⟩
  | _, _, i + 1, _, .cons _ t, e => dpAll_get (i := i) t e
theorem dpAll_get' {vs : List V} {ds : List PyData} {i : Nat} {d : PyData} (h : DpAll K H vs ds) (e : ds[i]? = some d) : ∃ v, vs[i]? = some v ∧ Dp K H v d := by
  have hi : i < ds.length := (List.getElem?_eq_some_iff.mp e).1
  have hv : i < vs.length := by rw [dpAll_len h]; exact hi
  obtain ⟨d', e', hd⟩ := dpAll_get h (List.getElem?_eq_getElem hv)
  rw [e] at e'
  cases e'
  exact ⟨_, List.getElem?_eq_getElem hv, hd⟩
end
/-! ### what the program's tests say -/
def lettersS : Str := "abcdefghijklmnopqrstuvwxyz"
def intB (lo hi : Int) : PyData → Bool
  | .int i => decide (lo ≤ i) && decide (i ≤ hi)
  | _ => false
def nameB : PyData → Bool
  | .str z => decide (1 ≤ z.length) && (decide (z.length ≤ 8) && z.cps.toList.all fun c => decide (c ∈ lettersS.cps.toList))
  | _ => false
section
variable {P : Program} {w : World} {K : PySem.W.Frag} {mg : Str → Option Value} {base : Heap}
def spInt (K : PySem.W.Frag) : Sp := fun vs H Q _ => ∃ x d lo hi, vs = [x, .int lo, .int hi] ∧ Dp K H x d ∧ Q (.bl (intB lo hi d)) H
theorem ok_int {f : Addr} {fd : FuncData} (F : Fun K "is_integer" "is_integer" sInt f fd) (T : Blt mg) : FnOk P w K mg base CX0 1 f fd ["n", "least", "most"] (spInt K) := by
  refine F.ok scInt (fun vs H Q E h => ?_) (fun cdv A outer s H vs Q E hr h => ?_)
  · obtain ⟨x, d, lo, hi, rfl, _⟩ := h
    rfl
  · obtain ⟨x, d, lo, hi, rfl, hD, q⟩ := h
    refine ⟨_, pss_one (ps_ret (pe_and (pe_callB call_isi (by rfl) T.isinstance bt_isinstance (pa_cons (pv 0) (pa_cons (pe_bltn (v := .ty "int") (by rfl) T.int bt_int rfl) pa_nil)))
      (pe_and (pe_not (pe_callB call_isi (by rfl) T.isinstance bt_isinstance (pa_cons (pv 0) (pa_cons (pe_bltn (v := .ty "bool") (by rfl) T.bool bt_bool rfl) pa_nil))))
        (pe_one (pe_chain op_le op_le (pv 1) (pv 0) (pv 2)))))), ?_⟩
    refine ⟨x, rfl, x, _, _, _, _, rfl, .ty "int", ty_of hD, kit_ty (k_int d), _, rfl, ?_⟩
    by_cases hI : isIntB d = true
    · rw [hI]
      refine iteT ⟨x, rfl, x, _, _, _, _, rfl, .ty "bool", ty_of hD, kit_ty (k_bool d), _, rfl, _, rfl, ?_⟩
      cases d with
      | int i =>
        cases hD
        refine iteT ⟨_, rfl, _, rfl, _, _, rfl, rfl, _, rfl, ?_⟩
        by_cases h1 : lo ≤ i
        · rw [decide_eq_true h1]
          refine iteT ⟨_, rfl, _, _, rfl, rfl, ?_⟩
          simpa [intB, h1] using q
        · rw [decide_eq_false h1]
          refine iteF ?_
          simpa [intB, h1] using q
      | bool b => exact iteF q
      | _ => simp [isIntB] at hI
    · rw [Bool.eq_false_iff.mpr hI]
      refine iteF ?_
      cases d <;> first | exact q | simp [isIntB] at hI
end
end NC
set_option maxRecDepth 100000
set_option maxHeartbeats 4000000
namespace NC
open PySem PySem.Spec PyProof.Rows L2
structure Cst (mg : Str → Option Value) : Prop where
  mMarks : ∃ t, mg "MOST_MARKS" = some (.int 16 t)
  mReads : ∃ t, mg "MOST_READINGS" = some (.int 80 t)
  mVal : ∃ t, mg "MOST_VALUE" = some (.int 1000000 t)
  mName : ∃ t, mg "MOST_NAME" = some (.int 8 t)
  mLet : ∃ t, mg "LETTERS" = some (.str lettersS t)
def fitD : PyData → Prop | .str z => z.length ≤ 1000 | _ => True
theorem fit_line {z : Str} (h : fitD (.str z)) : z.length ≤ sizeLine := Nat.le_of_lt (small1000 h)
theorem all_take {α : Type} {p : α → Bool} : ∀ {l : List α} {i : Nat} {x : α}, l[i]? = some x → (l.take (i + 1)).all p = ((l.take i).all p && p x)
  | [], i, x, h => by simp at h
  | a :: l, 0, x, h => by
    have e : a = x := Option.some.inj h
    subst e
    simp
  | a :: l, i + 1, x, h => by
    have ih := all_take (p := p) (l := l) (i := i) (x := x) h
    rw [List.take_succ_cons, List.all_cons, ih, List.take_succ_cons, List.all_cons, Bool.and_assoc]
theorem all_false {α : Type} {p : α → Bool} {l : List α} {i : Nat} {x : α} (h : l[i]? = some x) (hp : p x = false) : l.all p = false := by
  rw [List.all_eq_false]
  exact ⟨x, List.mem_of_getElem? h, by simp [hp]⟩
section
variable {P : Program} {w : World} {K : PySem.W.Frag} {mg : Str → Option Value} {base : Heap}
def spName (K : PySem.W.Frag) : Sp := fun vs H Q _ => ∃ x d, vs = [x] ∧ Dp K H x d ∧ fitD d ∧ Q (.bl (nameB d)) H
theorem ok_name {f : Addr} {fd : FuncData} (F : Fun K "is_name" "is_name" sName f fd) (T : Blt mg) (C : Cst mg) : FnOk P w K mg base CX0 1 f fd ["name"] (spName K) := by
  obtain ⟨t8, m8⟩ := C.mName
  obtain ⟨tl, ml⟩ := C.mLet
  refine F.ok scName (fun vs H Q E h => ?_) (fun cdv A outer s H vs Q E hr h => ?_)
  · obtain ⟨x, d, rfl, _⟩ := h
    rfl
  · obtain ⟨x, d, rfl, hD, hfit, q⟩ := h
    refine ⟨_, pss_cons (ps_if (PW.pt (pw_or (pt_not (pt_val (pe_callB call_isi (by rfl) T.isinstance bt_isinstance (pa_cons (pv 0) (pa_cons (pe_bltn (v := .ty "str") (by rfl) T.str bt_str rfl) pa_nil)))))
        (pw_or1 (pt_not (pt_chain op_le op_le pe_int (pe_callB call_len_str (by rfl) T.len bt_len (pa_cons (pv 0) pa_nil)) (pe_glob (v := .int 8) (by rfl) m8 ⟨_, rfl⟩)))))) (pss_one (ps_ret pe_bl)) pss_nil)
      (pss_cons (ps_for PassesOwn.never rfl (pi_str (pv 0)) (pg_name (i := 1) scName.nd rfl (.inl rfl))
        (pss_one (ps_if (pt_cmpR op_notIn_sign (pv 1) (pe_glob (v := .str lettersS) (by rfl) ml ⟨_, rfl⟩) rfl) (pss_one (ps_ret pe_bl)) pss_nil)))
      (pss_one (ps_ret pe_bl))), ?_⟩
    refine ⟨x, rfl, x, _, _, _, _, rfl, .ty "str", ty_of hD, kit_ty (k_str d), _, rfl, ?_⟩
    cases d with
    | str z =>
      cases hD
      have hz := fit_line hfit
      refine iteF ⟨_, rfl, z, rfl, hz, _, _, rfl, rfl, _, rfl, ?_⟩
      have bad : (decide (1 ≤ z.length) && (decide (z.length ≤ 8) && z.cps.toList.all fun c => decide (c ∈ lettersS.cps.toList))) = false → Q (.bl false) H := fun e => by
        have q' : Q (.bl (decide (1 ≤ z.length) && (decide (z.length ≤ 8) && z.cps.toList.all fun c => decide (c ∈ lettersS.cps.toList)))) H := q
        rw [e] at q'
        exact q'
      by_cases h1 : 1 ≤ z.length
      · rw [decide_eq_true (show (1 : Int) ≤ (z.length : Int) by omega)]
        refine iteT ⟨_, _, rfl, rfl, _, rfl, ?_⟩
        by_cases h2 : z.length ≤ 8
        · rw [decide_eq_true (show (z.length : Int) ≤ 8 by omega)]
          refine iteF ?_
          refine ⟨_, rfl, z, rfl, fun i m σ H3 => ∃ y, σ = [some (.str z), y] ∧ i + m = z.cps.size ∧ i ≤ z.cps.size ∧ H3 = H ∧ (z.cps.toList.take i).all (fun c => decide (c ∈ lettersS.cps.toList)) = true, ⟨z.cps.size, none, rfl, by omega, by omega, rfl, rfl⟩, fun i m σ H3 hW => ?_⟩
          obtain ⟨y, rfl, em, hi, rfl, hall⟩ := hW
          by_cases hlt : i < z.cps.size
          · refine .inr ⟨hlt, fun σ' H' => ∃ y, σ' = [some (.str z), y] ∧ H' = H3 ∧ (z.cps.toList.take (i + 1)).all (fun c => decide (c ∈ lettersS.cps.toList)) = true, fun σ' H' hN => ?_, fun v H' hy => ?_⟩
            · obtain ⟨y', e1, e2, e3⟩ := hN
              exact ⟨m - 1, by omega, y', e1, by omega, hlt, e2, e3⟩
            · obtain ⟨rfl, c, hc, rfl⟩ := hy
              have hc' : z.cps.toList[i]? = some c := by rw [Array.getElem?_toList]; exact hc
              refine ⟨_, rfl, c, lettersS, rfl, rfl, _, rfl, ?_⟩
              by_cases hm : c ∈ lettersS.cps.toList
              · rw [decide_eq_true hm]
                refine iteF ⟨_, rfl, rfl, ?_⟩
                rw [all_take hc', hall, decide_eq_true hm]
                rfl
              · rw [decide_eq_false hm]
                refine iteT (bad ?_)
                rw [all_false (p := fun c => decide (c ∈ lettersS.cps.toList)) hc' (decide_eq_false hm), Bool.and_false, Bool.and_false]
          · refine .inl ⟨Nat.le_of_not_lt hlt, ?_⟩
            have e : i = z.cps.size := by omega
            subst e
            have ht : z.cps.toList.take z.cps.size = z.cps.toList := List.take_of_length_le (by simp)
            rw [ht] at hall
            have q' : Q (.bl (decide (1 ≤ z.length) && (decide (z.length ≤ 8) && z.cps.toList.all fun c => decide (c ∈ lettersS.cps.toList)))) H3 := q
            rw [hall, decide_eq_true h1, decide_eq_true h2] at q'
            exact q'
        · rw [decide_eq_false (show ¬ (z.length : Int) ≤ 8 by omega)]
          refine iteT (bad ?_)
          rw [decide_eq_false h2, Bool.false_and, Bool.and_false]
      · rw [decide_eq_false (show ¬ (1 : Int) ≤ (z.length : Int) by omega)]
        refine iteF ⟨_, rfl, iteT (bad ?_)⟩
        rw [decide_eq_false h1, Bool.false_and]
    | _ => exact iteT q
end
end NC
set_option maxRecDepth 100000
set_option maxHeartbeats 1000000
namespace NC
open PySem PySem.Spec PyProof.Rows L2
/-- a def that is called: its promise, and how it stands in the module -/
structure Cal (P : Program) (w : World) (K : PySem.W.Frag) (mg : Str → Option Value) (base : Heap) (CX : CXT) (k : Nat) (x : Str) (f : Addr) (fd : FuncData) (ps : List Str) (sp : Sp) : Prop where
  ok : FnOk P w K mg base CX k f fd ps sp
  g : mg x = some (.ref f)
  kp : PySem.W.keepIn K (.ref f) = true
  b : Binds K fd ps []
theorem dec3 {i j : Int} (h : i = j) : (!decide (V.int i = V.int j)) = false := by simp [h]
theorem dec3' {i j : Int} (h : i ≠ j) : (!decide (V.int i = V.int j)) = true := by simp [h]
def neInt : PyData → PyData → Bool
  | .int i, .int j => !decide (i = j)
  | _, _ => false
def readingB (many : Int) : PyData → Bool
  | .tuple [a, b, v] => intB 0 (many - 1) a && (intB 0 (many - 1) b && (neInt a b && intB (-1000000) 1000000 v))
  | _ => false
def readingsB (many : Int) : PyData → Bool
  | .tuple ds => decide (ds.length ≤ 80) && ds.all (readingB many)
  | _ => false
theorem readingB_len {many : Int} {ds : List PyData} (h : ds.length ≠ 3) : readingB many (.tuple ds) = false := by
  match ds, h with
  | [], _ => rfl
  | [_], _ => rfl
  | [_, _], _ => rfl
  | [_, _, _], h => exact absurd rfl h
  | _ :: _ :: _ :: _ :: _, _ => rfl
theorem intB_int {lo hi : Int} {d : PyData} (h : intB lo hi d = true) : ∃ i, d = .int i ∧ lo ≤ i ∧ i ≤ hi := by
  cases d with
  | int i =>
    simp only [intB, Bool.and_eq_true, decide_eq_true_eq] at h
    exact ⟨i, rfl, h.1, h.2⟩
  | _ => simp [intB] at h
section
variable {P : Program} {w : World} {K : PySem.W.Frag} {mg : Str → Option Value} {base : Heap}
theorem dp3 {K : PySem.W.Frag} {H : Hp} {xs : List V} {ds : List PyData} (h : DpAll K H xs ds) (hl : ds.length = 3) : ∃ x0 x1 x2 d0 d1 d2, xs = [x0, x1, x2] ∧ ds = [d0, d1, d2] ∧ Dp K H x0 d0 ∧ Dp K H x1 d1 ∧ Dp K H x2 d2 := by
  cases h with
  | nil => cases hl
  | cons h0 h =>
    cases h with
    | nil => cases hl
    | cons h1 h =>
      cases h with
      | nil => cases hl
      | cons h2 h =>
        cases h with
        | nil => exact ⟨_, _, _, _, _, _, rfl, rfl, h0, h1, h2⟩
        | cons _ _ => simp at hl
def spRead (K : PySem.W.Frag) : Sp := fun vs H Q _ => ∃ x d many, vs = [x, .int many] ∧ Dp K H x d ∧ Q (.bl (readingB many d)) H
theorem ok_read {f fI : Addr} {fd fdI : FuncData} (F : Fun K "is_reading" "is_reading" sRead f fd) (T : Blt mg) (C : Cst mg) (GI : Cal P w K mg base CX0 1 "is_integer" fI fdI ["n", "least", "most"] (spInt K)) :
    FnOk P w K mg base CX0 2 f fd ["reading", "many"] (spRead K) := by
  obtain ⟨tv, mv⟩ := C.mVal
  refine F.ok scRead (fun vs H Q E h => ?_) (fun cdv A outer s H vs Q E hr h => ?_)
  · obtain ⟨x, d, many, rfl, _⟩ := h
    rfl
  · obtain ⟨x, d, many, rfl, hD, q⟩ := h
    refine ⟨_, pss_cons (ps_if (PW.pt (pw_or (pt_not (pt_val (pe_callB call_isi (by rfl) T.isinstance bt_isinstance (pa_cons (pv 0) (pa_cons (pe_bltn (v := .ty "tuple") (by rfl) T.tuple bt_tuple rfl) pa_nil)))))
        (pw_or1 (pt_cmpR op_ne (pe_callB call_len_seq (by rfl) T.len bt_len (pa_cons (pv 0) pa_nil)) pe_int (nomark _))))) (pss_one (ps_ret pe_bl)) pss_nil)
      (pss_cons (ps_if (PW.pt (pw_or (pt_not (pt_val (pe_call GI.ok hr (by rfl) GI.g GI.kp GI.b .nil pass0 (pa_cons (pe_ix ix_tup (pv 0) pe_int (fun _ _ => rfl)) (pa_cons pe_int (pa_cons (pe_op op_sub (pv 1) pe_int) pa_nil))))))
          (pw_or1 (pt_not (pt_val (pe_call GI.ok hr (by rfl) GI.g GI.kp GI.b .nil pass0 (pa_cons (pe_ix ix_tup (pv 0) pe_int (fun _ _ => rfl)) (pa_cons pe_int (pa_cons (pe_op op_sub (pv 1) pe_int) pa_nil))))))))) (pss_one (ps_ret pe_bl)) pss_nil)
      (pss_one (ps_ret (pe_and (pe_cmpR op_ne (pe_ix ix_tup (pv 0) pe_int (fun _ _ => rfl)) (pe_ix ix_tup (pv 0) pe_int (fun _ _ => rfl)) (nomark _))
        (pe_one (pe_call GI.ok hr (by rfl) GI.g GI.kp GI.b .nil pass0 (pa_cons (pe_ix ix_tup (pv 0) pe_int (fun _ _ => rfl)) (pa_cons (pe_un un_neg (pe_glob (v := .int 1000000) (by rfl) mv ⟨_, rfl⟩)) (pa_cons (pe_glob (v := .int 1000000) (by rfl) mv ⟨_, rfl⟩) pa_nil))))))))), ?_⟩
    refine ⟨x, rfl, x, _, _, _, _, rfl, .ty "tuple", ty_of hD, kit_ty (k_tup d), _, rfl, ?_⟩
    cases d with
    | tuple ds =>
      cases hD with
      | @tup a xs _ hS hA =>
        have hl := dpAll_len hA
        refine iteF ⟨_, rfl, a, xs, rfl, .inr hS, rfl, _, rfl, ?_⟩
        by_cases h3 : ds.length = 3
        · rw [dec3 (show ((xs.length : Nat) : Int) = 3 by rw [hl, h3]; rfl)]
          refine iteF ?_
          obtain ⟨x0, x1, x2, d0, d1, d2, rfl, rfl, h0, h1, h2⟩ := dp3 hA h3
          refine ⟨_, rfl, a, _, 0, x0, rfl, rfl, hS, atI_nat (j := 0) rfl, _, rfl, many, 1, rfl, rfl, x0, d0, 0, many - 1, rfl, h0, _, rfl, ?_⟩
          have q' : Q (.bl (intB 0 (many - 1) d0 && (intB 0 (many - 1) d1 && (neInt d0 d1 && intB (-1000000) 1000000 d2)))) H := q
          cases e0 : intB 0 (many - 1) d0 with
          | false =>
            rw [e0] at q'
            exact iteT q'
          | true =>
            refine iteF ⟨_, rfl, a, _, 1, x1, rfl, rfl, hS, atI_nat (j := 1) rfl, _, rfl, many, 1, rfl, rfl, x1, d1, 0, many - 1, rfl, h1, _, rfl, ?_⟩
            cases e1 : intB 0 (many - 1) d1 with
            | false =>
              rw [e0, e1] at q'
              exact iteT q'
            | true =>
              rw [e0, e1] at q'
              obtain ⟨i, rfl, _, _⟩ := intB_int e0
              obtain ⟨j, rfl, _, _⟩ := intB_int e1
              cases h0
              cases h1
              refine iteF ⟨_, rfl, a, _, 0, .int i, rfl, rfl, hS, atI_nat (j := 0) rfl, _, rfl, a, _, 1, .int j, rfl, rfl, hS, atI_nat (j := 1) rfl, rfl, _, rfl, ?_⟩
              by_cases hij : i = j
              · rw [dec3 hij]
                refine iteF ?_
                simpa [neInt, hij] using q'
              · rw [dec3' hij]
                refine iteT ⟨_, rfl, a, _, 2, x2, rfl, rfl, hS, atI_nat (j := 2) rfl, 1000000, rfl, x2, d2, -1000000, 1000000, rfl, h2, ?_⟩
                simpa [neInt, hij] using q'
        · rw [dec3' (show ((xs.length : Nat) : Int) ≠ 3 by rw [hl]; omega)]
          refine iteT ?_
          rw [readingB_len h3] at q
          exact q
    | _ => exact iteT q
end
end NC
set_option maxRecDepth 100000
set_option maxHeartbeats 1000000
namespace NC
open PySem PySem.Spec PyProof.Rows L2
def strOf : PyData → Str | .str z => z | _ => ⟨#[]⟩
def marksB : PyData → Bool
  | .tuple ds => decide (1 ≤ ds.length) && (decide (ds.length ≤ 16) && (ds.all nameB && decide ((ds.map strOf).Nodup)))
  | _ => false
theorem nameB_str {d : PyData} (h : nameB d = true) : ∃ z, d = .str z := by
  cases d with
  | str z => exact ⟨z, rfl⟩
  | _ => simp [nameB] at h
theorem inV_str (z : Str) (zs : List Str) : inV (.str z) (zs.map V.str) = decide (z ∈ zs) := by
  induction zs with
  | nil => rfl
  | cons y zs ih =>
    show (eqV (.str y) (.str z) || inV (.str z) (zs.map V.str)) = _
    rw [ih]
    show ((y == z) || decide (z ∈ zs)) = _
    rw [Bool.eq_iff_iff, Bool.or_eq_true, beq_iff_eq, decide_eq_true_eq, decide_eq_true_eq, List.mem_cons]
    exact ⟨fun h => h.imp Eq.symm id, fun h => h.imp Eq.symm id⟩
theorem all_flat (zs : List Str) : (zs.map V.str).all flatV = true := by
  rw [List.all_map]
  exact List.all_eq_true.mpr fun _ _ => rfl
theorem take_snoc {α : Type} {l : List α} {i : Nat} {x : α} (h : l[i]? = some x) : l.take (i + 1) = l.take i ++ [x] := by
  rw [List.take_add_one, h]
  rfl
theorem nodup_take_not {α : Type} {l : List α} {i : Nat} {x : α} (h : l[i]? = some x) (hm : x ∈ l.take i) : ¬ l.Nodup := fun hn => by
  have h2 : (l.take (i + 1)).Nodup := hn.sublist (List.take_sublist _ _)
  rw [take_snoc h, List.nodup_append] at h2
  exact h2.2.2 x hm x (by simp) rfl
theorem nodup_snoc {α : Type} {l : List α} {x : α} (hn : l.Nodup) (hm : x ∉ l) : (l ++ [x]).Nodup := by
  rw [List.nodup_append]
  refine ⟨hn, by simp, fun a ha b hb => ?_⟩
  have e : b = x := by simpa using hb
  subst e
  exact fun z => hm (z ▸ ha)
theorem same_upd {H : Hp} {p : Addr} {o : HO} (h : H p = none) : Same H (upd H p o) := fun b x e => by
  rw [upd_ne (ne_of_none e h)]
  exact e
/-- what stood ahead of a new object still stands behind a change of it -/
theorem same_new {H H' : Hp} {p : Addr} {o : HO} (e : Same H H') (h : H p = none) : Same H (upd H' p o) := fun b x q => by
  rw [upd_ne (ne_of_none q h)]
  exact e b x q
section
variable {P : Program} {w : World} {K : PySem.W.Frag} {mg : Str → Option Value} {base : Heap}
def spReads (K : PySem.W.Frag) : Sp := fun vs H Q _ => ∃ x d many, vs = [x, .int many] ∧ Dp K H x d ∧ Q (.bl (readingsB many d)) H
theorem ok_reads {f fR : Addr} {fd fdR : FuncData} (F : Fun K "are_readings" "are_readings" sReads f fd) (T : Blt mg) (C : Cst mg) (GR : Cal P w K mg base CX0 2 "is_reading" fR fdR ["reading", "many"] (spRead K)) :
    FnOk P w K mg base CX0 3 f fd ["readings", "many"] (spReads K) := by
  obtain ⟨tv, mv⟩ := C.mReads
  refine F.ok scReads (fun vs H Q E h => ?_) (fun cdv A outer s H vs Q E hr h => ?_)
  · obtain ⟨x, d, many, rfl, _⟩ := h
    rfl
  · obtain ⟨x, d, many, rfl, hD, q⟩ := h
    refine ⟨_, pss_cons (ps_if (PW.pt (pw_or (pt_not (pt_val (pe_callB call_isi (by rfl) T.isinstance bt_isinstance (pa_cons (pv 0) (pa_cons (pe_bltn (v := .ty "tuple") (by rfl) T.tuple bt_tuple rfl) pa_nil)))))
        (pw_or1 (pt_cmpR op_gt (pe_callB call_len_seq (by rfl) T.len bt_len (pa_cons (pv 0) pa_nil)) (pe_glob (v := .int 80) (by rfl) mv ⟨_, rfl⟩) (nomark _))))) (pss_one (ps_ret pe_bl)) pss_nil)
      (pss_cons (ps_for PassesOwn.never rfl (pi_tup (pv 0)) (pg_name (i := 2) scReads.nd rfl (.inl rfl))
        (pss_one (ps_if (pt_not (pt_val (pe_call GR.ok hr (by rfl) GR.g GR.kp GR.b .nil pass0 (pa_cons (pv 2) (pa_cons (pv 1) pa_nil))))) (pss_one (ps_ret pe_bl)) pss_nil)))
      (pss_one (ps_ret pe_bl))), ?_⟩
    refine ⟨x, rfl, x, _, _, _, _, rfl, .ty "tuple", ty_of hD, kit_ty (k_tup d), _, rfl, ?_⟩
    cases d with
    | tuple ds =>
      cases hD with
      | @tup a xs _ hS hA =>
        have hl := dpAll_len hA
        refine iteF ⟨_, rfl, a, xs, rfl, .inr hS, _, _, rfl, rfl, _, rfl, ?_⟩
        have q' : Q (.bl (decide (ds.length ≤ 80) && ds.all (readingB many))) H := q
        by_cases h80 : ds.length ≤ 80
        · rw [decide_eq_false (show ¬ (80 : Int) < ((xs.length : Nat) : Int) by rw [hl]; omega)]
          rw [decide_eq_true h80, Bool.true_and] at q'
          refine iteF ?_
          refine ⟨_, rfl, a, rfl, ⟨_, hS⟩, for_tup (xs := xs) (fun i σ H' => ∃ y, σ = [some (.ref a), some (.int many), y] ∧ H' = H ∧ (ds.take i).all (readingB many) = true) ⟨none, rfl, rfl, rfl⟩ (fun i σ H' _ ⟨_, _, e, _⟩ => by rw [e]; exact hS) (fun i y σ H' hi hP => ?_) (fun σ H' hP => ?_)⟩
          · obtain ⟨y0, rfl, rfl, hall⟩ := hP
            obtain ⟨d, hd, hyD⟩ := dpAll_get hA hi
            refine ⟨_, rfl, _, rfl, y, d, many, rfl, hyD, _, rfl, ?_⟩
            cases hb : readingB many d with
            | true =>
              refine iteF ⟨_, rfl, rfl, ?_⟩
              rw [all_take hd, hall, hb]
              rfl
            | false =>
              refine iteT ?_
              rw [all_false hd hb] at q'
              exact q'
          · obtain ⟨y0, rfl, rfl, hall⟩ := hP
            rw [hl, List.take_length] at hall
            rw [hall] at q'
            exact q'
        · rw [decide_eq_true (show (80 : Int) < ((xs.length : Nat) : Int) by rw [hl]; omega)]
          refine iteT ?_
          rw [decide_eq_false h80, Bool.false_and] at q'
          exact q'
    | _ => exact iteT q
def spMarks (K : PySem.W.Frag) : Sp := fun vs H Q _ => ∃ x d, vs = [x] ∧ Dp K H x d ∧ (∀ ds, d = .tuple ds → ∀ e ∈ ds, fitD e) ∧ ∀ H', Same H H' → Q (.bl (marksB d)) H'
theorem ok_marks {f fN : Addr} {fd fdN : FuncData} (F : Fun K "are_marks" "are_marks" sMarks f fd) (T : Blt mg) (C : Cst mg) (GN : Cal P w K mg base CX0 1 "is_name" fN fdN ["name"] (spName K)) :
    FnOk P w K mg base CX0 2 f fd ["marks"] (spMarks K) := by
  obtain ⟨tv, mv⟩ := C.mMarks
  refine F.ok scMarks (fun vs H Q E h => ?_) (fun cdv A outer s H vs Q E hr h => ?_)
  · obtain ⟨x, d, rfl, _⟩ := h
    rfl
  · obtain ⟨x, d, rfl, hD, hfit, q⟩ := h
    refine ⟨_, pss_cons (ps_if (PW.pt (pw_or (pt_not (pt_val (pe_callB call_isi (by rfl) T.isinstance bt_isinstance (pa_cons (pv 0) (pa_cons (pe_bltn (v := .ty "tuple") (by rfl) T.tuple bt_tuple rfl) pa_nil)))))
        (pw_or1 (pt_not (pt_chain op_le op_le pe_int (pe_callB call_len_seq (by rfl) T.len bt_len (pa_cons (pv 0) pa_nil)) (pe_glob (v := .int 16) (by rfl) mv ⟨_, rfl⟩)))))) (pss_one (ps_ret pe_bl)) pss_nil)
      (pss_cons (ps_set (i := 1) scMarks.nd rfl (.inl rfl) (pe_lst pa_nil))
      (pss_cons (ps_for PassesOwn.never rfl (pi_tup (pv 0)) (pg_name (i := 2) scMarks.nd rfl (.inl rfl))
        (pss_cons (ps_if (PW.pt (pw_or (pt_not (pt_val (pe_call GN.ok hr (by rfl) GN.g GN.kp GN.b .nil pass0 (pa_cons (pv 2) pa_nil)))) (pw_or1 (pt_cmpR op_in_seq (pv 2) (pv 1) (by rfl))))) (pss_one (ps_ret pe_bl)) pss_nil)
        (pss_one (ps_expr (pe_bm PySem.F.plainAttrs_list PySem.F.slot_list_append PySem.F.type_list_append mt_append (pv 1) (pa_cons (pv 2) pa_nil))))))
      (pss_one (ps_ret pe_bl)))), ?_⟩
    refine ⟨x, rfl, x, _, _, _, _, rfl, .ty "tuple", ty_of hD, kit_ty (k_tup d), _, rfl, ?_⟩
    cases d with
    | tuple ds =>
      cases hD with
      | @tup a xs _ hS hA =>
        have hl := dpAll_len hA
        have hf := hfit ds rfl
        refine iteF ⟨_, rfl, a, xs, rfl, .inr hS, _, _, rfl, rfl, _, rfl, ?_⟩
        have q' : ∀ H', Same H H' → Q (.bl (decide (1 ≤ ds.length) && (decide (ds.length ≤ 16) && (ds.all nameB && decide ((ds.map strOf).Nodup))))) H' := q
        by_cases h1 : 1 ≤ ds.length
        · rw [decide_eq_true (show (1 : Int) ≤ ((xs.length : Nat) : Int) by rw [hl]; omega)]
          refine iteT ⟨_, _, rfl, rfl, _, rfl, ?_⟩
          by_cases h16 : ds.length ≤ 16
          · rw [decide_eq_true (show ((xs.length : Nat) : Int) ≤ 16 by rw [hl]; omega)]
            rw [decide_eq_true h1, decide_eq_true h16, Bool.true_and, Bool.true_and] at q'
            refine iteF ⟨Nat.zero_le _, fun l nl => ?_⟩
            refine ⟨_, rfl, a, rfl, ⟨_, same_T (same_upd nl) hS⟩, for_tup (xs := xs) (fun i σ H' => ∃ y, σ = [some (.ref a), some (.ref l), y] ∧ Same H H' ∧ H' l = some (.lst (((ds.take i).map strOf).map V.str)) ∧ (ds.take i).all nameB = true ∧ ((ds.take i).map strOf).Nodup)
              ⟨none, rfl, same_upd nl, upd_same, rfl, List.nodup_nil⟩ (fun i σ H' _ ⟨_, _, e, _⟩ => same_T e hS) (fun i y σ H' hi hP => ?_) (fun σ H' hP => ?_)⟩
            · obtain ⟨y0, rfl, sm, el, hall, hnd⟩ := hP
              obtain ⟨d, hd, hyD⟩ := dpAll_get hA hi
              have hyD' := dp_same sm d y hyD
              refine ⟨_, rfl, y, d, rfl, hyD', hf d (List.mem_of_getElem? hd), _, rfl, ?_⟩
              cases hb : nameB d with
              | false =>
                have qq := q' H' sm
                rw [all_false hd hb, Bool.false_and] at qq
                exact iteT qq
              | true =>
                obtain ⟨z, rfl⟩ := nameB_str hb
                cases hyD
                refine iteF ⟨_, rfl, _, rfl, l, _, rfl, .inl (SqL.of el), rfl, all_flat _, _, rfl, ?_⟩
                have hz : (ds.map strOf)[i]? = some z := by rw [List.getElem?_map, hd]; rfl
                rw [inV_str]
                by_cases hm : z ∈ (ds.take i).map strOf
                · show if decide (z ∈ (ds.take i).map strOf) = true then _ else _
                  rw [decide_eq_true hm]
                  refine iteT ?_
                  have qq := q' H' sm
                  rw [decide_eq_false (nodup_take_not hz (by rw [← List.map_take]; exact hm)), Bool.and_false] at qq
                  exact qq
                · show if decide (z ∈ (ds.take i).map strOf) = true then _ else _
                  rw [decide_eq_false hm]
                  refine iteF ⟨_, rfl, .inl ⟨rfl, _, SqL.of el⟩, _, rfl, l, _, _, rfl, rfl, el, ?_, ?_⟩
                  · rw [List.length_map, List.length_map, List.length_take]
                    exact small1000 (by omega)
                  · refine ⟨_, rfl, same_new sm nl, ?_, ?_, ?_⟩
                    · rw [upd_same, take_snoc hd, List.map_append, List.map_append]
                      rfl
                    · rw [all_take hd, hall, hb]
                      rfl
                    · rw [take_snoc hd, List.map_append]
                      exact nodup_snoc hnd hm
            · obtain ⟨y0, rfl, sm, el, hall, hnd⟩ := hP
              rw [hl, List.take_length] at hall hnd
              have qq := q' H' sm
              rw [hall, decide_eq_true hnd] at qq
              exact qq
          · rw [decide_eq_false (show ¬ ((xs.length : Nat) : Int) ≤ 16 by rw [hl]; omega)]
            refine iteT ?_
            have qq := q' H (Same.refl H)
            rw [decide_eq_false h16, Bool.false_and, Bool.and_false] at qq
            exact qq
        · rw [decide_eq_false (show ¬ (1 : Int) ≤ ((xs.length : Nat) : Int) by rw [hl]; omega)]
          refine iteF ⟨_, rfl, iteT ?_⟩
          have qq := q' H (Same.refl H)
          rw [decide_eq_false h1, Bool.false_and] at qq
          exact qq
    | _ => exact iteT (q H (Same.refl H))
end
end NC
set_option maxRecDepth 100000
set_option maxHeartbeats 1000000
namespace NC
open PySem PySem.Spec PyProof.Rows L2
/-! ### walks over readings -/
abbrev Rdg := Nat × Nat × Int
def rdD (r : Rdg) : PyData := .tuple [.int (r.1 : Int), .int (r.2.1 : Int), .int r.2.2]
inductive Reach (rs : List Rdg) (s : Nat) : Nat → Prop
  | base : Reach rs s s
  | fwd {r : Rdg} : r ∈ rs → Reach rs s r.1 → Reach rs s r.2.1
  | bwd {r : Rdg} : r ∈ rs → Reach rs s r.2.1 → Reach rs s r.1
theorem Reach.mono {rs rs' : List Rdg} {s m : Nat} (h : Reach rs s m) (hs : ∀ r ∈ rs, r ∈ rs') : Reach rs' s m := by
  induction h with
  | base => exact .base
  | fwd hr _ ih => exact .fwd (hs _ hr) ih
  | bwd hr _ ih => exact .bwd (hs _ hr) ih
noncomputable instance decReach (rs : List Rdg) (s m : Nat) : Decidable (Reach rs s m) := Classical.propDecidable _
noncomputable def compo (n : Nat) (rs : List Rdg) (s : Nat) : List Nat := (List.range n).filter fun m => decide (Reach rs s m)
theorem mem_compo {n : Nat} {rs : List Rdg} {s m : Nat} : m ∈ compo n rs s ↔ m < n ∧ Reach rs s m := by
  unfold compo
  rw [List.mem_filter, List.mem_range, decide_eq_true_eq]
theorem compo_len_le (n : Nat) (rs : List Rdg) (s : Nat) : (compo n rs s).length ≤ n := by
  have h := List.length_filter_le (fun m => decide (Reach rs s m)) (List.range n)
  rw [List.length_range] at h
  exact h
theorem compo_full {n : Nat} {rs : List Rdg} {s : Nat} : (compo n rs s).length = n ↔ ∀ m, m < n → Reach rs s m := by
  constructor
  · intro h m hm
    have e : (compo n rs s).length = (List.range n).length := by rw [h, List.length_range]
    have h2 := (List.length_filter_eq_length_iff (l := List.range n) (p := fun m => decide (Reach rs s m))).mp e m (List.mem_range.mpr hm)
    exact of_decide_eq_true h2
  · intro h
    have e : compo n rs s = List.range n := by
      unfold compo
      exact List.filter_eq_self.mpr fun m hm => decide_eq_true (h m (List.mem_range.mp hm))
    rw [e, List.length_range]
/-- between two passes: what is marked is reached -/
structure Good (rs : List Rdg) (s n : Nat) (bs : List Bool) : Prop where
  len : bs.length = n
  st : bs[s]? = some true
  ok : ∀ m, bs[m]? = some true → Reach rs s m
theorem set_true {bs : List Bool} {a : Nat} (h : bs[a]? = some true) : bs.set a true = bs := by
  apply List.ext_getElem?
  intro i
  by_cases e : a = i
  · subst e
    rw [List.getElem?_set_self (List.getElem?_eq_some_iff.mp h).1, h]
  · rw [List.getElem?_set_ne e]
theorem count_set_true : ∀ {bs : List Bool} {a : Nat}, bs[a]? = some false → (bs.set a true).count false + 1 = bs.count false
  | [], a, h => by simp at h
  | b :: bs, 0, h => by
    have e : b = false := Option.some.inj h
    subst e
    rw [List.set_cons_zero, List.count_cons, List.count_cons]
    rfl
  | b :: bs, a + 1, h => by
    have ih := count_set_true (bs := bs) (a := a) h
    rw [List.set_cons_succ, List.count_cons, List.count_cons]
    omega
theorem get_set_true {bs : List Bool} {a m : Nat} (h : (bs.set a true)[m]? = some true) : bs[m]? = some true ∨ (m = a) := by
  by_cases e : a = m
  · exact .inr e.symm
  · rw [List.getElem?_set_ne e] at h
    exact .inl h
theorem set_keeps {bs : List Bool} {a m : Nat} (h : bs[m]? = some true) : (bs.set a true)[m]? = some true := by
  by_cases e : a = m
  · subst e
    rw [List.getElem?_set_self (List.getElem?_eq_some_iff.mp h).1]
  · rw [List.getElem?_set_ne e]
    exact h
theorem good_step {rs : List Rdg} {s n : Nat} {bs : List Bool} {r : Rdg} {x y : Bool} (g : Good rs s n bs) (hr : r ∈ rs) (hx : bs[r.1]? = some x) (hy : bs[r.2.1]? = some y) (ne : x ≠ y) :
    Good rs s n ((bs.set r.1 true).set r.2.1 true) ∧ ((bs.set r.1 true).set r.2.1 true).count false < bs.count false := by
  have R : Reach rs s r.1 ∧ Reach rs s r.2.1 := by
    cases x with
    | true => exact ⟨g.ok _ hx, .fwd hr (g.ok _ hx)⟩
    | false =>
      cases y with
      | true => exact ⟨.bwd hr (g.ok _ hy), g.ok _ hy⟩
      | false => exact absurd rfl ne
  refine ⟨⟨by rw [List.length_set, List.length_set]; exact g.len, set_keeps (set_keeps g.st), fun m hm => ?_⟩, ?_⟩
  · rcases get_set_true hm with h | rfl
    · rcases get_set_true h with h | rfl
      · exact g.ok m h
      · exact R.1
    · exact R.2
  · cases x with
    | true =>
      cases y with
      | true => exact absurd rfl ne
      | false =>
        rw [set_true hx]
        have := count_set_true hy
        omega
    | false =>
      cases y with
      | false => exact absurd rfl ne
      | true =>
        have h2 := count_set_true hx
        rw [set_true (set_keeps hy)]
        omega
theorem good_closed {rs : List Rdg} {s n : Nat} {bs : List Bool} (g : Good rs s n bs) (hc : ∀ r ∈ rs, bs[r.1]? = bs[r.2.1]?) {m : Nat} (h : Reach rs s m) : bs[m]? = some true := by
  induction h with
  | base => exact g.st
  | fwd hr _ ih => rw [← hc _ hr]; exact ih
  | bwd hr _ ih => rw [hc _ hr]; exact ih
theorem compo_of {rs : List Rdg} {s n : Nat} {bs : List Bool} (g : Good rs s n bs) (hc : ∀ r ∈ rs, bs[r.1]? = bs[r.2.1]?) : compo n rs s = (List.range n).filter fun m => bs.getD m false := by
  unfold compo
  refine List.filter_congr fun m hm => ?_
  rw [Bool.eq_iff_iff, decide_eq_true_eq, List.getD_eq_getElem?_getD]
  constructor
  · intro h
    rw [good_closed g hc h]
    rfl
  · intro h
    cases e : bs[m]? with
    | none =>
      rw [e] at h
      cases h
    | some b =>
      rw [e] at h
      have h' : b = true := h
      subst h'
      exact g.ok m e
theorem good_start {rs : List Rdg} {s n : Nat} (hs : s < n) : Good rs s n ((List.range n).map fun m => decide (m = s)) := by
  refine ⟨by rw [List.length_map, List.length_range], ?_, fun m hm => ?_⟩
  · rw [List.getElem?_map, List.getElem?_range hs]
    simp
  · rw [List.getElem?_map] at hm
    by_cases h : m < n
    · rw [List.getElem?_range h] at hm
      have e : decide (m = s) = true := Option.some.inj hm
      rw [of_decide_eq_true e]
      exact .base
    · rw [List.getElem?_eq_none (by rw [List.length_range]; omega)] at hm
      cases hm
/-- in a pass that began at bs0: nothing has turned so far, or less is unmarked -/
def Pass (rs : List Rdg) (s n : Nat) (bs0 : List Bool) (i : Nat) (c : Bool) (bs : List Bool) : Prop :=
  Good rs s n bs ∧ ((c = false ∧ bs = bs0 ∧ ∀ r ∈ rs.take i, bs[r.1]? = bs[r.2.1]?) ∨ (c = true ∧ bs.count false < bs0.count false))
theorem pass_skip {rs : List Rdg} {s n : Nat} {bs0 bs : List Bool} {i : Nat} {c : Bool} {r : Rdg} (h : Pass rs s n bs0 i c bs) (hr : rs[i]? = some r) (e : bs[r.1]? = bs[r.2.1]?) : Pass rs s n bs0 (i + 1) c bs := by
  obtain ⟨g, h⟩ := h
  refine ⟨g, ?_⟩
  rcases h with ⟨h1, h2, h3⟩ | h
  · refine .inl ⟨h1, h2, fun q hq => ?_⟩
    rw [take_snoc hr] at hq
    rcases List.mem_append.mp hq with hq | hq
    · exact h3 q hq
    · have z : q = r := by simpa using hq
      rw [z]
      exact e
  · exact .inr h
theorem pass_step {rs : List Rdg} {s n : Nat} {bs0 bs : List Bool} {i : Nat} {c : Bool} {r : Rdg} {x y : Bool} (h : Pass rs s n bs0 i c bs) (hr : rs[i]? = some r) (hx : bs[r.1]? = some x) (hy : bs[r.2.1]? = some y) (ne : x ≠ y) :
    Pass rs s n bs0 (i + 1) true ((bs.set r.1 true).set r.2.1 true) := by
  obtain ⟨g, h⟩ := h
  obtain ⟨g', l⟩ := good_step g (List.mem_of_getElem? hr) hx hy ne
  refine ⟨g', .inr ⟨rfl, ?_⟩⟩
  rcases h with ⟨_, h2, _⟩ | ⟨_, h⟩
  · rw [← h2]
    exact l
  · omega
end NC
set_option maxRecDepth 100000
set_option maxHeartbeats 1000000
namespace NC
open PySem PySem.Spec PyProof.Rows L2
abbrev nReach : List Str := ["many", "readings", "start", "there", "changed", "one", "other", "_", "mark"]
theorem ixN_nat {n j : Nat} (h : j < n) : ixN n (j : Int) = some j := by
  unfold ixN
  rw [if_pos (by omega), if_pos (by omega)]
  simp
theorem dec_m {i s : Nat} : decide (V.int (0 + (i : Int)) = V.int (s : Int)) = decide (i = s) := by
  rw [Bool.eq_iff_iff, decide_eq_true_eq, decide_eq_true_eq]
  constructor
  · intro h
    have := V.int.inj h
    omega
  · intro h
    rw [h, Int.zero_add]
theorem dp_rd {K : PySem.W.Frag} {H : Hp} {x : V} {r : Rdg} (h : Dp K H x (rdD r)) : ∃ t, x = .ref t ∧ SqT K H t [.int (r.1 : Int), .int (r.2.1 : Int), .int r.2.2] := by
  cases h with
  | @tup t xs _ hS hA =>
    cases hA with
    | cons h0 hA =>
      cases hA with
      | cons h1 hA =>
        cases hA with
        | cons h2 hA =>
          cases hA
          cases h0
          cases h1
          cases h2
          exact ⟨t, rfl, hS⟩
section
variable {P : Program} {w : World} {K : PySem.W.Frag} {mg : Str → Option Value} {base : Heap}
def spReach (K : PySem.W.Frag) : Sp := fun vs H Q _ => ∃ (x : V) (n s : Nat) (rs : List Rdg), vs = [.int n, x, .int s] ∧ n ≤ 900 ∧ s < n ∧ Dp K H x (.tuple (rs.map rdD)) ∧ (∀ r ∈ rs, r.1 < n ∧ r.2.1 < n) ∧
  ∀ H' p, Same H H' → H p = none → H' p = some (.tup ((compo n rs s).map fun m : Nat => V.int (m : Int))) → Q (.ref p) H'
theorem ok_reach {f : Addr} {fd : FuncData} (F : Fun K "reached" "reached" sReach f fd) (T : Blt mg) : FnOk P w K mg base CX0 1 f fd ["many", "readings", "start"] (spReach K) := by
  refine F.ok scReach (fun vs H Q E h => ?_) (fun cdv A outer s₀ H vs Q E hr h => ?_)
  · obtain ⟨x, n, s, rs, rfl, _⟩ := h
    rfl
  · obtain ⟨x, n, s, rs, rfl, hn, hs, hD, hrs, q⟩ := h
    refine ⟨_, pss_cons (ps_set (i := 3) scReach.nd rfl (.inr rfl) (pe_lc (own := [("mark", 8)]) (g := gName 8) (tt := tYes) rfl scReach.nd (pi_range1 (by rfl) T.range (pa_cons (pv 0) pa_nil)) (blkOk_by (own := [("mark", 8)]) (N := nReach) (sc := defScope sReach) (by decide +kernel))
        (fun _ _ _ _ _ => pg_name (i := 8) scReach.nd rfl (.inl rfl)) (fun _ _ _ _ _ => pts_nil) (fun _ _ _ _ _ => pe_cmpR op_eq (pv 8) (pv 2) (nomark _))))
      (pss_cons (ps_set (i := 4) scReach.nd rfl (.inl rfl) pe_bl)
      (pss_cons (ps_while PassesOwn.never (pt_val (pv 4)) (pss_cons (ps_set (i := 4) scReach.nd rfl (.inl rfl) pe_bl)
        (pss_one (ps_for PassesOwn.never rfl (pi_tup (pv 1)) (pg_tup rfl (pgs_cons (pg_name (i := 5) scReach.nd rfl (.inl rfl)) (pgs_cons (pg_name (i := 6) scReach.nd rfl (.inl rfl)) (pgs_cons (pg_name (i := 7) scReach.nd rfl (.inl rfl)) pgs_nil))))
          (pss_one (ps_if (pt_cmpR op_ne (pe_ix ix_list (pv 3) (pv 5) (fun _ _ => rfl)) (pe_ix ix_list (pv 3) (pv 6) (fun _ _ => rfl)) (nomark _))
            (pss_cons (ps_asg pe_bl (pg_sub (pv 3) (pv 5) set_list)) (pss_cons (ps_asg pe_bl (pg_sub (pv 3) (pv 6) set_list)) (pss_one (ps_set (i := 4) scReach.nd rfl (.inl rfl) pe_bl)))) pss_nil))))))
      (pss_one (ps_ret (pe_callTy call_tuple_of (by rfl) T.tuple bt_tuple (pa_cons
        (pe_lc (own := [("mark", 8)]) (g := gName 8) (tt := tB (tOp (rIxL K) (tVar 3) (tVar 8))) rfl scReach.nd (pi_range1 (by rfl) T.range (pa_cons (pv 0) pa_nil)) (blkOk_by (own := [("mark", 8)]) (N := nReach) (sc := defScope sReach) (by decide +kernel))
        (fun _ _ _ _ _ => pg_name (i := 8) scReach.nd rfl (.inl rfl)) (fun _ _ _ _ _ => pts_one (pt_val (pe_ix ix_list (pv 3) (pv 8) (fun _ _ => rfl)))) (fun _ _ _ _ _ => pv 8)) pa_nil)))))), ?_⟩
    obtain ⟨a, xs, rfl, hS, hA⟩ : ∃ a xs, x = .ref a ∧ SqT K H a xs ∧ DpAll K H xs (rs.map rdD) := by
      cases hD with
      | @tup a xs _ hS hA => exact ⟨a, xs, rfl, hS, hA⟩
    have hl : xs.length = rs.length := by rw [dpAll_len hA, List.length_map]
    -- there = [mark == start for mark in range(many)]
    refine ⟨_, rfl, n, rfl, by omega, by omega, fun D nD => lc_range (lo := 0) (n := n) (fun i H' => Same H H' ∧ H' D = some (.lst (((List.range i).map fun m => decide (m = s)).map V.bl))) ⟨same_upd nD, upd_same⟩ (fun i H' hi hP => ?_) (fun H1 hP => ?_)⟩
    · obtain ⟨sm, eD⟩ := hP
      refine ⟨rfl, _, rfl, _, rfl, rfl, _, eD, ?_, same_new sm nD, ?_⟩
      · rw [List.length_map, List.length_map, List.length_range]
        exact small1000 (by omega)
      · rw [upd_same, dec_m, List.range_succ, List.map_append, List.map_append]
        rfl
    obtain ⟨sm1, eD1⟩ := hP
    -- changed = True; while changed
    refine ⟨fun m σ H' => ∃ c bs y5 y6 y7, σ = [some (.int n), some (.ref a), some (.int s), some (.ref D), some (.bl c), y5, y6, y7, none] ∧ Same H H' ∧ H' D = some (.lst (bs.map V.bl)) ∧ Good rs s n bs ∧
      (c = false → ∀ r ∈ rs, bs[r.1]? = bs[r.2.1]?) ∧ m = 2 * bs.count false + (if c = true then 1 else 0), ⟨_, true, _, none, none, none, rfl, sm1, eD1, good_start hs, fun z => (by cases z), rfl⟩, fun m σ H2 hW => ?_⟩
    obtain ⟨c, bs, y5, y6, y7, rfl, sm2, eD2, g2, cl2, rfl⟩ := hW
    refine ⟨_, rfl, c, rfl, ?_⟩
    cases c with
    | true =>
      refine iteT ⟨fun σ' H' => ∃ c' bs' y5 y6 y7, σ' = [some (.int n), some (.ref a), some (.int s), some (.ref D), some (.bl c'), y5, y6, y7, none] ∧ Same H H' ∧ H' D = some (.lst (bs'.map V.bl)) ∧ Pass rs s n bs rs.length c' bs', fun σ' H' hN => ?_, ?_⟩
      · obtain ⟨c', bs', y5, y6, y7, e1, e2, e3, g', hp⟩ := hN
        refine ⟨_, ?_, c', bs', y5, y6, y7, e1, e2, e3, g', fun z => ?_, rfl⟩
        · rcases hp with ⟨h1, h2, _⟩ | ⟨h1, h2⟩
          · rw [h1, h2]
            simp
          · rw [h1]
            simp
            omega
        · rcases hp with ⟨_, _, h3⟩ | ⟨h1, _⟩
          · rw [List.take_length] at h3
            exact h3
          · rw [z] at h1
            cases h1
      · -- the pass
        refine ⟨_, rfl, a, rfl, ⟨_, same_T sm2 hS⟩, for_tup (xs := xs) (fun i σ H' => ∃ c' bs' y5 y6 y7, σ = [some (.int n), some (.ref a), some (.int s), some (.ref D), some (.bl c'), y5, y6, y7, none] ∧ Same H H' ∧ H' D = some (.lst (bs'.map V.bl)) ∧ Pass rs s n bs i c' bs')
          ⟨false, bs, y5, y6, y7, rfl, sm2, eD2, g2, .inl ⟨rfl, rfl, fun r hr => by simp at hr⟩⟩ (fun i σ H' _ ⟨_, _, _, _, _, _, e, _⟩ => same_T e hS) (fun i y σ H3 hi hP => ?_) (fun σ H3 hP => ?_)⟩
        · obtain ⟨c', bs', z5, z6, z7, rfl, sm3, eD3, hp⟩ := hP
          obtain ⟨d, hd, hyD⟩ := dpAll_get hA hi
          rw [List.getElem?_map] at hd
          obtain ⟨r, hr, rfl⟩ := Option.map_eq_some_iff.mp hd
          obtain ⟨t, rfl, hSt⟩ := dp_rd hyD
          have hb := hrs r (List.mem_of_getElem? hr)
          have hlen : bs'.length = n := hp.1.len
          have hx : bs'[r.1]? = some bs'[r.1] := List.getElem?_eq_getElem (by omega)
          have hy : bs'[r.2.1]? = some bs'[r.2.1] := List.getElem?_eq_getElem (by omega)
          refine ⟨t, _, rfl, same_T sm3 hSt, rfl, _, _, rfl, _, _, rfl, _, _, rfl, rfl, ?_⟩
          refine ⟨_, rfl, _, rfl, D, _, (r.1 : Int), .bl bs'[r.1], rfl, rfl, SqL.of eD3, atI_nat (by rw [List.getElem?_map, hx]; rfl), _, rfl, _, rfl, D, _, (r.2.1 : Int), .bl bs'[r.2.1], rfl, rfl, SqL.of eD3, atI_nat (by rw [List.getElem?_map, hy]; rfl), rfl, _, rfl, ?_⟩
          by_cases e : bs'[r.1] = bs'[r.2.1]
          · rw [e, decide_eq_true rfl]
            exact iteF ⟨c', bs', _, _, _, rfl, sm3, eD3, pass_skip hp hr (by rw [hx, hy, e])⟩
          · rw [decide_eq_false (fun z => e (V.bl.inj z))]
            refine iteT ⟨_, rfl, _, rfl, D, _, (r.1 : Int), r.1, rfl, rfl, eD3, ixN_nat (by rw [List.length_map]; omega), ?_⟩
            refine ⟨_, rfl, _, rfl, D, _, (r.2.1 : Int), r.2.1, rfl, rfl, upd_same, ixN_nat (by rw [List.length_set, List.length_map]; omega), ?_⟩
            refine ⟨true, (bs'.set r.1 true).set r.2.1 true, _, _, _, rfl, ?_, ?_, pass_step hp hr hx hy e⟩
            · exact same_new (same_new sm3 nD) nD
            · rw [upd_same, List.map_set, List.map_set]
        · obtain ⟨c', bs', z5, z6, z7, e1, sm3, eD3, hp⟩ := hP
          rw [hl] at hp
          exact ⟨c', bs', z5, z6, z7, e1, sm3, eD3, hp⟩
    | false =>
      have hc := cl2 rfl
      refine iteF ?_
      -- return tuple([mark for mark in range(many) if there[mark]])
      refine ⟨_, rfl, n, rfl, by omega, by omega, fun D2 nD2 => lc_range (lo := 0) (n := n) (fun i H' => Same H2 H' ∧ H' D2 = some (.lst (((List.range i).filter fun m => bs.getD m false).map fun m : Nat => V.int (m : Int)))) ⟨same_upd nD2, upd_same⟩ (fun i H' hi hP => ?_) (fun H3 hP => ?_)⟩
      · obtain ⟨sm3, e3⟩ := hP
        have hib : i < bs.length := by rw [g2.len]; exact hi
        have hb : bs[i]? = some bs[i] := List.getElem?_eq_getElem hib
        have hg : bs.getD i false = bs[i] := by rw [List.getD_eq_getElem?_getD, hb]; rfl
        refine ⟨rfl, _, rfl, _, rfl, D, _, (0 + (i : Int)), .bl bs[i], rfl, rfl, SqL.of (sm3 _ _ eD2), at_of (j := i) (by omega) (by rw [List.getElem?_map, hb]; rfl), _, rfl, ?_⟩
        cases e : bs[i] with
        | true =>
          refine iteT ⟨_, rfl, _, e3, ?_, same_new sm3 nD2, ?_⟩
          · rw [List.length_map]
            have := List.length_filter_le (fun m => bs.getD m false) (List.range i)
            rw [List.length_range] at this
            exact small1000 (by omega)
          · rw [upd_same, List.range_succ, List.filter_append, List.map_append, List.filter_cons, hg, e, Int.zero_add]
            rfl
        | false =>
          refine iteF ⟨sm3, ?_⟩
          rw [e3, List.range_succ, List.filter_append, List.filter_cons, hg, e]
          simp
      · obtain ⟨sm3, e3⟩ := hP
        refine ⟨D2, _, rfl, .inl ⟨SqL.of e3, fun l nl => ?_⟩⟩
        have sm := (sm2.trans sm3)
        refine q _ l (same_new sm (sm.free nl)) (sm.free nl) ?_
        rw [upd_same, compo_of g2 hc]
end
end NC
set_option maxRecDepth 100000
set_option maxHeartbeats 1000000
namespace NC
open PySem PySem.Spec PyProof.Rows L2
def lenN : PyData → Nat | .tuple ds => ds.length | _ => 0
def rdOf : PyData → Rdg | .tuple [.int a, .int b, .int v] => (a.toNat, b.toNat, v) | _ => (0, 0, 0)
def rdsD : PyData → List Rdg | .tuple ds => ds.map rdOf | _ => []
def isNetW : PyData → Bool | .str z => z == "net" | _ => false
def shapedB : PyData → Bool
  | .tuple [a, m, r] => isNetW a && (marksB m && readingsB (lenN m) r)
  | _ => false
noncomputable def joinedB : PyData → Bool
  | .tuple [_, m, r] => decide ((compo (lenN m) (rdsD r) 0).length = lenN m)
  | _ => false
/-- the reason for which check_net refuses, if it does -/
noncomputable def wordD (d : PyData) : Option Str := if shapedB d = true then (if joinedB d = true then none else some "not joined") else some "not a net"
noncomputable def toldD (d : PyData) : PyData := match wordD d with
  | none => .str ""
  | some z => .tuple [.int 0, .str z]
def fitNet (d : PyData) : Prop := ∀ z m r, d = .tuple [z, m, r] → ∀ ds, m = .tuple ds → ∀ e ∈ ds, fitD e
theorem shapedB_len {ds : List PyData} (h : ds.length ≠ 3) : shapedB (.tuple ds) = false := by
  match ds, h with
  | [], _ => rfl
  | [_], _ => rfl
  | [_, _], _ => rfl
  | [_, _, _], h => exact absurd rfl h
  | _ :: _ :: _ :: _ :: _, _ => rfl
theorem readingB_is {n : Nat} {d : PyData} (h : readingB n d = true) : d = rdD (rdOf d) ∧ (rdOf d).1 < n ∧ (rdOf d).2.1 < n := by
  unfold readingB at h
  split at h
  · rename_i a b v
    rw [Bool.and_eq_true, Bool.and_eq_true, Bool.and_eq_true] at h
    obtain ⟨ha, hb, hab, hv⟩ := h
    obtain ⟨i, rfl, hi, hi'⟩ := intB_int ha
    obtain ⟨j, rfl, hj, hj'⟩ := intB_int hb
    obtain ⟨k, rfl, _, _⟩ := intB_int hv
    refine ⟨?_, ?_, ?_⟩
    · show PyData.tuple [.int i, .int j, .int k] = .tuple [.int ((i.toNat : Nat) : Int), .int ((j.toNat : Nat) : Int), .int k]
      rw [Int.toNat_of_nonneg hi, Int.toNat_of_nonneg hj]
    · show i.toNat < n
      omega
    · show j.toNat < n
      omega
  · cases h
theorem readingsB_is {n : Nat} {d : PyData} (h : readingsB n d = true) : d = .tuple ((rdsD d).map rdD) ∧ ∀ r ∈ rdsD d, r.1 < n ∧ r.2.1 < n := by
  unfold readingsB at h
  split at h
  · rename_i ds
    rw [Bool.and_eq_true, List.all_eq_true] at h
    refine ⟨?_, fun r hr => ?_⟩
    · show PyData.tuple ds = .tuple ((ds.map rdOf).map rdD)
      rw [List.map_map]
      congr 1
      conv => lhs; rw [← List.map_id ds]
      exact List.map_congr_left fun x hx => (readingB_is (h.2 x hx)).1
    · obtain ⟨x, hx, rfl⟩ := List.mem_map.mp hr
      exact (readingB_is (h.2 x hx)).2
  · cases h
theorem marksB_is {d : PyData} (h : marksB d = true) : ∃ ds, d = .tuple ds ∧ 1 ≤ ds.length ∧ ds.length ≤ 16 := by
  cases d with
  | tuple ds =>
    simp only [marksB, Bool.and_eq_true, decide_eq_true_eq] at h
    exact ⟨ds, rfl, h.1, h.2.1⟩
  | _ => simp [marksB] at h
section
variable {P : Program} {w : World} {K : PySem.W.Frag} {mg : Str → Option Value} {base : Heap}
def spJoin (K : PySem.W.Frag) : Sp := fun vs H Q _ => ∃ (a : Addr) (ms : List V) (x : V) (rs : List Rdg), vs = [.ref a, x] ∧ SqT K H a ms ∧ 1 ≤ ms.length ∧ ms.length ≤ 900 ∧ Dp K H x (.tuple (rs.map rdD)) ∧ (∀ r ∈ rs, r.1 < ms.length ∧ r.2.1 < ms.length) ∧
  ∀ H', Same H H' → Q (.bl (decide ((compo ms.length rs 0).length = ms.length))) H'
theorem ok_join {f fR : Addr} {fd fdR : FuncData} (F : Fun K "is_joined" "is_joined" sJoin f fd) (T : Blt mg) (GR : Cal P w K mg base CX0 1 "reached" fR fdR ["many", "readings", "start"] (spReach K)) :
    FnOk P w K mg base CX0 2 f fd ["marks", "readings"] (spJoin K) := by
  refine F.ok scJoin (fun vs H Q E h => ?_) (fun cdv A outer s₀ H vs Q E hr h => ?_)
  · obtain ⟨a, ms, x, rs, rfl, _⟩ := h
    rfl
  · obtain ⟨a, ms, x, rs, rfl, hS, h1, h9, hD, hrs, q⟩ := h
    refine ⟨_, pss_one (ps_ret (pe_cmpR op_eq (pe_callB call_len_seq (by rfl) T.len bt_len (pa_cons (pe_call GR.ok hr (by rfl) GR.g GR.kp GR.b .nil pass0
        (pa_cons (pe_callB call_len_seq (by rfl) T.len bt_len (pa_cons (pv 0) pa_nil)) (pa_cons (pv 1) (pa_cons pe_int pa_nil)))) pa_nil))
      (pe_callB call_len_seq (by rfl) T.len bt_len (pa_cons (pv 0) pa_nil)) (nomark _))), ?_⟩
    refine ⟨_, rfl, a, ms, rfl, .inr hS, _, rfl, x, ms.length, 0, rs, rfl, h9, h1, hD, hrs, fun H1 p sm np ep => ?_⟩
    refine ⟨p, _, rfl, .inr (SqT.of ep), _, rfl, a, ms, rfl, .inr (same_T sm hS), rfl, ?_⟩
    have e : decide (V.int ((((compo ms.length rs 0).map fun m : Nat => V.int (m : Int)).length : Nat) : Int) = V.int ((ms.length : Nat) : Int)) = decide ((compo ms.length rs 0).length = ms.length) := by
      rw [List.length_map, Bool.eq_iff_iff, decide_eq_true_eq, decide_eq_true_eq]
      exact ⟨fun h => by have := V.int.inj h; omega, fun h => by rw [h]⟩
    have q' := q H1 sm
    rw [← e] at q'
    exact q'
def spShape (K : PySem.W.Frag) : Sp := fun vs H Q _ => ∃ x d, vs = [x] ∧ Dp K H x d ∧ fitNet d ∧ ∀ H', Same H H' → Q (.bl (shapedB d)) H'
theorem ok_shape {f fM fR : Addr} {fd fdM fdR : FuncData} (F : Fun K "is_shaped" "is_shaped" sShape f fd) (T : Blt mg) (GM : Cal P w K mg base CX0 2 "are_marks" fM fdM ["marks"] (spMarks K))
    (GR : Cal P w K mg base CX0 3 "are_readings" fR fdR ["readings", "many"] (spReads K)) : FnOk P w K mg base CX0 4 f fd ["net"] (spShape K) := by
  refine F.ok scShape (fun vs H Q E h => ?_) (fun cdv A outer s₀ H vs Q E hr h => ?_)
  · obtain ⟨x, d, rfl, _⟩ := h
    rfl
  · obtain ⟨x, d, rfl, hD, hfit, q⟩ := h
    refine ⟨_, pss_cons (ps_if (PW.pt (pw_or (pt_not (pt_val (pe_callB call_isi (by rfl) T.isinstance bt_isinstance (pa_cons (pv 0) (pa_cons (pe_bltn (v := .ty "tuple") (by rfl) T.tuple bt_tuple rfl) pa_nil)))))
        (pw_or (pt_cmpR op_ne (pe_callB call_len_seq (by rfl) T.len bt_len (pa_cons (pv 0) pa_nil)) pe_int (nomark _))
        (pw_or (pt_not (pt_val (pe_callB call_isi (by rfl) T.isinstance bt_isinstance (pa_cons (pe_ix ix_tup (pv 0) pe_int (fun _ _ => rfl)) (pa_cons (pe_bltn (v := .ty "str") (by rfl) T.str bt_str rfl) pa_nil)))))
        (pw_or1 (pt_cmpR op_ne (pe_ix ix_tup (pv 0) pe_int (fun _ _ => rfl)) pe_str (nomark _))))))) (pss_one (ps_ret pe_bl)) pss_nil)
      (pss_one (ps_ret (pe_and (pe_call GM.ok (hr.mono (by decide)) (by rfl) GM.g GM.kp GM.b .nil pass0 (pa_cons (pe_ix ix_tup (pv 0) pe_int (fun _ _ => rfl)) pa_nil))
        (pe_one (pe_call GR.ok hr (by rfl) GR.g GR.kp GR.b .nil pass0 (pa_cons (pe_ix ix_tup (pv 0) pe_int (fun _ _ => rfl)) (pa_cons (pe_callB call_len_seq (by rfl) T.len bt_len (pa_cons (pe_ix ix_tup (pv 0) pe_int (fun _ _ => rfl)) pa_nil)) pa_nil))))))), ?_⟩
    refine ⟨x, rfl, x, _, _, _, _, rfl, .ty "tuple", ty_of hD, kit_ty (k_tup d), _, rfl, ?_⟩
    cases d with
    | tuple ds =>
      cases hD with
      | @tup a xs _ hS hA =>
        have hl := dpAll_len hA
        refine iteF ⟨_, rfl, a, xs, rfl, .inr hS, rfl, _, rfl, ?_⟩
        by_cases h3 : ds.length = 3
        · rw [dec3 (show ((xs.length : Nat) : Int) = 3 by rw [hl, h3]; rfl)]
          refine iteF ?_
          obtain ⟨x0, x1, x2, d0, d1, d2, rfl, rfl, h0, h1, h2⟩ := dp3 hA h3
          refine ⟨_, rfl, a, _, 0, x0, rfl, rfl, hS, atI_nat (j := 0) rfl, x0, _, _, _, _, rfl, .ty "str", ty_of h0, kit_ty (k_str d0), _, rfl, ?_⟩
          cases d0 with
          | str z =>
            cases h0
            refine iteF ⟨_, rfl, a, _, 0, .str z, rfl, rfl, hS, atI_nat (j := 0) rfl, rfl, _, rfl, ?_⟩
            have q' : ∀ H', Same H H' → Q (.bl ((z == "net") && (marksB d1 && readingsB (lenN d1) d2))) H' := q
            by_cases hz : z = "net"
            · subst hz
              rw [decide_eq_true rfl]
              refine iteF ⟨_, rfl, a, _, 1, x1, rfl, rfl, hS, atI_nat (j := 1) rfl, x1, d1, rfl, h1, hfit _ d1 d2 rfl, fun H1 sm => ⟨_, rfl, ?_⟩⟩
              cases hm : marksB d1 with
              | false =>
                have qq := q' H1 sm
                rw [hm] at qq
                exact iteF qq
              | true =>
                obtain ⟨ms, rfl, hm1, hm2⟩ := marksB_is hm
                cases h1 with
                | @tup b ys _ hS1 hA1 =>
                  have hS' := same_T sm hS
                  refine iteT ⟨_, rfl, a, _, 2, x2, rfl, rfl, hS', atI_nat (j := 2) rfl, _, rfl, a, _, 1, .ref b, rfl, rfl, hS', atI_nat (j := 1) rfl, b, ys, rfl, .inr (same_T sm hS1), x2, d2, ys.length, rfl, dp_same sm d2 x2 h2, ?_⟩
                  have qq := q' H1 sm
                  rw [hm] at qq
                  rw [dpAll_len hA1]
                  exact qq
            · rw [decide_eq_false (fun y => hz (V.str.inj y))]
              refine iteT ?_
              have qq := q' H (Same.refl H)
              rw [show (z == "net") = false from by simpa using hz] at qq
              exact qq
          | _ => exact iteT (q H (Same.refl H))
        · rw [dec3' (show ((xs.length : Nat) : Int) ≠ 3 by rw [hl]; omega)]
          refine iteT ?_
          have qq := q H (Same.refl H)
          rw [shapedB_len h3] at qq
          exact qq
    | _ => exact iteT (q H (Same.refl H))
end
end NC
set_option maxRecDepth 100000
set_option maxHeartbeats 1000000
namespace NC
open PySem PySem.Spec PyProof.Rows L2
theorem scTold : FnScope ["_law_net_here", "e"] ["_law_net_here"] (defScope sTold) := ⟨rfl, rfl, rfl, by decide +kernel, rfl, by decide +kernel, by decide +kernel⟩
theorem same_free {H H' : Hp} (e : Same H H') {l : Addr} (h : H' l = none) : H l = none := e.free h
/-- what a raised BadNet carries -/
def badFs (z : Str) : List (Str × V) := [(("reason" : Str), .str z), (("line" : Str), .int 0)]
theorem shaped_parts {d : PyData} (h : shapedB d = true) : ∃ a m r ns, d = .tuple [a, m, r] ∧ m = .tuple ns ∧ 1 ≤ ns.length ∧ ns.length ≤ 16 ∧ r = .tuple ((rdsD r).map rdD) ∧ ∀ q ∈ rdsD r, q.1 < ns.length ∧ q.2.1 < ns.length := by
  unfold shapedB at h
  split at h
  · rename_i a m r
    rw [Bool.and_eq_true, Bool.and_eq_true] at h
    obtain ⟨_, hm, hr⟩ := h
    obtain ⟨ns, rfl, h1, h2⟩ := marksB_is hm
    obtain ⟨e, hb⟩ := readingsB_is hr
    exact ⟨a, _, r, ns, rfl, rfl, h1, h2, e, hb⟩
  · cases h
section
variable {P : Program} {w : World} {K : PySem.W.Frag} {mg : Str → Option Value} {base : Heap} {C fI : Addr}
def spCheck (K : PySem.W.Frag) (C : Addr) : Sp := fun vs H Q E => ∃ x d, vs = [x] ∧ Dp K H x d ∧ fitNet d ∧
  (∀ z, wordD d = some z → ∀ H' dd, Same H H' → H' dd = some (.xd (badFs z)) → E (.ref C) (some dd) H') ∧ (wordD d = none → ∀ H', Same H H' → Q .non H')
theorem ok_check {f fS fJ : Addr} {fd fdS fdJ : FuncData} (F : Fun K "check_net" "check_net" sCheck f fd) (T : BadTxt P K mg C fI) (GS : Cal P w K mg base CX0 4 "is_shaped" fS fdS ["net"] (spShape K))
    (GJ : Cal P w K mg base CX0 2 "is_joined" fJ fdJ ["marks", "readings"] (spJoin K)) : FnOk P w K mg base (L2.CX P w) 5 f fd ["net"] (spCheck K C) := by
  refine F.okX scCheck (fun vs H Q E h => ?_) (fun cdv A outer s₀ H vs Q E hr h => ?_)
  · obtain ⟨x, d, rfl, _⟩ := h
    rfl
  · obtain ⟨x, d, rfl, hD, hfit, hE, q⟩ := h
    refine ⟨_, pss_cons (ps_if (pt_not (pt_val (pe_call GS.ok hr (by rfl) GS.g GS.kp GS.b .nil pass0 (pa_cons (pv 0) pa_nil)))) (pss_one (ps_raiseBad rfl T hr (takes_of rfl rfl rfl rfl) (by exact (pa_cons pe_int (pa_cons pe_str pa_nil))))) pss_nil)
      (pss_one (ps_if (pt_not (pt_val (pe_call GJ.ok (hr.mono (by decide)) (by rfl) GJ.g GJ.kp GJ.b .nil pass0 (pa_cons (pe_ix ix_tup (pv 0) pe_int (fun _ _ => rfl)) (pa_cons (pe_ix ix_tup (pv 0) pe_int (fun _ _ => rfl)) pa_nil)))))
        (pss_one (ps_raiseBad rfl T hr (takes_of rfl rfl rfl rfl) (by exact (pa_cons pe_int (pa_cons pe_str pa_nil))))) pss_nil)), ?_⟩
    refine ⟨x, rfl, x, d, rfl, hD, hfit, fun H1 sm => ⟨_, rfl, ?_⟩⟩
    cases hs : shapedB d with
    | false =>
      refine iteT ⟨.int 0, .str "not a net", rfl, fun dd ndd => ?_⟩
      exact hE "not a net" (by unfold wordD; rw [if_neg (by rw [hs]; decide)]) _ dd (same_new sm (sm.free ndd)) upd_same
    | true =>
      obtain ⟨a, m, r, ns, rfl, rfl, h1, h2, er, hb⟩ := shaped_parts hs
      have hD1 := dp_same sm _ _ hD
      cases hD1 with
      | @tup p xs _ hS hA =>
        obtain ⟨x0, x1, x2, d0, d1, d2, rfl, ed, h0, hm, hr2⟩ := dp3 hA rfl
        cases ed
        cases hm with
        | @tup b ys _ hS1 hA1 =>
          have hly := dpAll_len hA1
          rw [er] at hr2
          refine iteF ⟨_, rfl, p, _, 1, .ref b, rfl, rfl, hS, atI_nat (j := 1) rfl, _, rfl, p, _, 2, x2, rfl, rfl, hS, atI_nat (j := 2) rfl, b, ys, x2, rdsD r, rfl, hS1, by omega, by omega, hr2, by rw [hly]; exact hb, fun H2 sm2 => ⟨_, rfl, ?_⟩⟩
          rw [hly]
          have sm3 := sm.trans sm2
          by_cases hj : (compo ns.length (rdsD r) 0).length = ns.length
          · rw [decide_eq_true hj]
            refine iteF ?_
            refine q ?_ H2 sm3
            unfold wordD
            rw [if_pos hs]
            exact if_pos (show decide ((compo ns.length (rdsD r) 0).length = ns.length) = true from decide_eq_true hj)
          · rw [decide_eq_false hj]
            refine iteT ⟨.int 0, .str "not joined", rfl, fun dd ndd => ?_⟩
            refine hE "not joined" ?_ _ dd (same_new sm3 (sm3.free ndd)) upd_same
            unfold wordD
            rw [if_pos hs]
            exact if_neg (fun z => hj (of_decide_eq_true (show decide _ = true from z)))
/-- what the written part says of the error classes: LevelError at L, BadNet at C, BadEntry at BE, BadState at BS -/
structure ErrT (K : PySem.W.Frag) (mg : Str → Option Value) (L C BE BS : Addr) : Prop where
  gL : mg "LevelError" = some (.ref L)
  gC : mg "BadNet" = some (.ref C)
  gE : mg "BadEntry" = some (.ref BE)
  gS : mg "BadState" = some (.ref BS)
  mV : mg "ValueError" = none
  xL : PySem.W.exmOne K (.ref C) (.ref L) = some true
  kE : PySem.W.kitOne K (.ref C) (.ref BE) = some false
  kS : PySem.W.kitOne K (.ref C) (.ref BS) = some false
  kC : PySem.W.kitOne K (.ref C) (.ref C) = some true
  kV : PySem.W.kitOne K (.ref C) (.type "ValueError") = some true
  exc : ExcC K C
theorem bt_VE : bootBuiltins "ValueError" = some (.type "ValueError") := by decide +kernel
def spTold (K : PySem.W.Frag) : Sp := fun vs H Q _ => ∃ x d, vs = [x] ∧ Dp K H x d ∧ fitNet d ∧ ∀ H' v, Same H H' → Dp K H' v (toldD d) → Q v H'
/-- isinstance(e, c) in the suite -/
def tIsE (K : PySem.W.Frag) (C : Addr) (a : Addr) (cls : Value) (d : Option Addr) (v : V) : TE := tCB (rIsX K C a cls d) (tCons (tVar 1) (tCons (tC v) tNil))
def t_told (K : PySem.W.Frag) (C BE BS : Addr) (a : Addr) (cls : Value) (d : Option Addr) : TS :=
  tSeq (tIfS (tOr (tB (tIsE K C a cls d (.ref BE))) (tOr (tB (tIsE K C a cls d (.ref BS))) (tOr (tNot (tB (tIsE K C a cls d (.ref C)))) (tNot (tB (tIsE K C a cls d (.ty "ValueError"))))))) (tRet (tC (.str "other"))) tNext)
    (tRet (tTup (tCons (tXf a cls d C "line" (tVar 1)) (tCons (tXf a cls d C "reason" (tVar 1)) tNil))))
theorem ok_told {L BE BS f fC : Addr} {fd fdC : FuncData} (F : Fun K "_law_told" "_law_told" sTold f fd) (B : Blt mg) (T : BadTxt P K mg C fI) (ET : ErrT K mg L C BE BS) (GC : Cal P w K mg base (L2.CX P w) 5 "check_net" fC fdC ["net"] (spCheck K C)) :
    FnOk P w K mg base CX0 6 f fd ["_law_net_here"] (spTold K) := by
  refine F.ok scTold (fun vs H Q E h => ?_) (fun cdv A outer s₀ H vs Q E hr h => ?_)
  · obtain ⟨x, d, rfl, _⟩ := h
    rfl
  · obtain ⟨x, d, rfl, hD, hfit, q⟩ := h
    have XF : XfC K C := ⟨T.ga, T.gg, T.oex.exC, T.hdC⟩
    refine ⟨_, pss_cons (ps_try_as (i := 1) (tb := fun W => tDrop (tCallS (spCheck K C) (WE W) (tCons (tVar 0) tNil))) (ts := t_told K C BE BS) (Wout := fun _ _ _ _ => False) rfl rfl scTold.nd rfl rfl ⟨rfl, by decide, Or.inl ET.gL⟩ takes0
        (fun W pn xe tk _ => pss_one (ps_expr (by exact (pe_callS GC.ok hr (by rfl) GC.g GC.kp GC.b (fun σ => passAt tk σ) (by exact (pa_cons (pv 0) pa_nil))))))
        (fun a oe cls dd pn hz hf => pss_cons (ps_if (PW.pt (pw_or (pt_val (pe_callB (call_isX ET.exc hz hf) (by rfl) B.isinstance bt_isinstance (pa_cons (pv 1) (pa_cons (pe_glob (v := .ref BE) (by rfl) ET.gE rfl) pa_nil))))
            (pw_or (pt_val (pe_callB (call_isX ET.exc hz hf) (by rfl) B.isinstance bt_isinstance (pa_cons (pv 1) (pa_cons (pe_glob (v := .ref BS) (by rfl) ET.gS rfl) pa_nil))))
            (pw_or (pt_not (pt_val (pe_callB (call_isX ET.exc hz hf) (by rfl) B.isinstance bt_isinstance (pa_cons (pv 1) (pa_cons (pe_glob (v := .ref C) (by rfl) ET.gC rfl) pa_nil)))))
            (pw_or1 (pt_not (pt_val (pe_callB (call_isX ET.exc hz hf) (by rfl) B.isinstance bt_isinstance (pa_cons (pv 1) (pa_cons (pe_bltn (v := .ty "ValueError") (by rfl) ET.mV bt_VE rfl) pa_nil))))))))))
            (pss_one (ps_ret pe_str)) pss_nil)
          (pss_one (ps_ret (pe_tup (pa_cons (pe_xf XF T.nL hz hf (pv 1)) (pa_cons (pe_xf XF T.nR hz hf (pv 1)) pa_nil)))))))
      (pss_one (ps_ret pe_str)), ?_⟩
    refine ⟨x, rfl, x, d, rfl, hD, hfit, fun z hz H1 dd sm ed => ?_, fun hz H1 sm => ?_⟩
    · refine ⟨true, ET.xL, fun _ a na => ?_, fun q => Bool.noConfusion q⟩
      have hdd : ∀ dd', some dd = some dd' → ∃ fs, H1 dd' = some (.xd fs) := fun dd' e => (by cases e; exact ⟨_, ed⟩)
      refine ⟨_, rfl, rfl, hdd, .ref BE, _, _, rfl, fun u r => r, ET.kE, _, rfl, iteF ?_⟩
      refine ⟨_, rfl, rfl, hdd, .ref BS, _, _, rfl, fun u r => r, ET.kS, _, rfl, iteF ?_⟩
      refine ⟨_, rfl, rfl, hdd, .ref C, _, _, rfl, fun u r => r, ET.kC, _, rfl, iteF ?_⟩
      refine ⟨_, rfl, rfl, hdd, .ty "ValueError", _, _, rfl, fun u r => r, ET.kV, _, rfl, iteF ?_⟩
      refine ⟨_, rfl, rfl, rfl, dd, _, .int 0, rfl, ed, rfl, _, rfl, rfl, rfl, dd, _, .str z, rfl, ed, rfl, by show 2 ≤ sizeLine; decide, fun p np => ?_⟩
      refine q _ _ (same_new sm (sm.free np)) ?_
      unfold toldD
      rw [hz]
      exact .tup (SqT.of upd_same) (.cons (.int 0) (.cons (.str z) .nil))
    · refine q H1 _ sm ?_
      unfold toldD
      rw [hz]
      exact .str _
end
end NC
set_option maxRecDepth 100000
set_option maxHeartbeats 1000000
namespace NC
open PySem PySem.Spec PyProof.Rows L2
/-! ### the box of draws -/
structure BoxAt (H : Hp) (b dg : Addr) : Prop where
  bx : ∃ k : Int, H b = some (.lst [.ref dg, .int k]) ∧ 0 ≤ k
  dgs : ∃ ns : List Int, H dg = some (.lst (ns.map V.int))
/-- from H to H' only the box at b may have changed -/
structure Step (b dg : Addr) (H H' : Hp) : Prop where
  same : Same (del H b) (del H' b)
  box : BoxAt H' b dg
section
variable {H H' H1 H2 : Hp} {b dg p : Addr} {o : HO}
theorem BoxAt.apart (h : BoxAt H b dg) : dg ≠ b := fun z => by
  obtain ⟨k, e1, _⟩ := h.bx
  obtain ⟨ns, e3⟩ := h.dgs
  rw [z, e1] at e3
  have z2 := HO.lst.inj (Option.some.inj e3)
  cases ns with
  | nil => cases z2
  | cons n ns => cases z2
theorem BoxAt.ne (h : BoxAt H b dg) (n : H p = none) : p ≠ b := fun e => by
  obtain ⟨k, q, _⟩ := h.bx
  rw [e, q] at n
  cases n
theorem BoxAt.same (h : BoxAt H b dg) (e : Same H H') : BoxAt H' b dg := by
  obtain ⟨⟨k, e1, e2⟩, ns, e3⟩ := h
  exact ⟨⟨k, e _ _ e1, e2⟩, ns, e _ _ e3⟩
theorem del_get (h : p ≠ b) (e : H p = some o) : del H b p = some o := by rw [del_ne h]; exact e
theorem of_del (e : del H b p = some o) : p ≠ b ∧ H p = some o := by
  by_cases h : p = b
  · rw [h, del_same] at e
    cases e
  · rw [del_ne h] at e
    exact ⟨h, e⟩
theorem del_none (h : H p = none) : del H b p = none := by
  by_cases e : p = b
  · rw [e, del_same]
  · rw [del_ne e]
    exact h
theorem same_del (e : Same H H') : Same (del H b) (del H' b) := fun c o q => by
  obtain ⟨h, q⟩ := of_del q
  exact del_get h (e _ _ q)
theorem del_sub : Same (del H b) H := fun c o q => (of_del q).2
theorem Step.of (h : BoxAt H b dg) (e : Same H H') : Step b dg H H' := ⟨same_del e, h.same e⟩
theorem Step.refl (h : BoxAt H b dg) : Step b dg H H := .of h (Same.refl H)
theorem Step.trans (s : Step b dg H H1) (t : Step b dg H1 H2) : Step b dg H H2 := ⟨s.same.trans t.same, t.box⟩
theorem Step.get (s : Step b dg H H') (h : p ≠ b) (e : H p = some o) : H' p = some o := (of_del (s.same _ _ (del_get h e))).2
theorem Step.free (s : Step b dg H H') (h : H' p = none) : del H b p = none := by
  cases q : del H b p with
  | none => rfl
  | some o =>
    have z := s.same _ _ q
    rw [del_none h] at z
    cases z
theorem Step.new (s : Step b dg H H') (h : H' p = none) : Step b dg H (upd H' p o) := s.trans (.of s.box (same_upd h))
theorem Step.ne (s : Step b dg H H') (h : H' p = none) : p ≠ b := s.box.ne h
/-- a new object of ours is changed -/
theorem Step.put (s : Step b dg H H') (hB : BoxAt H b dg) (h : del H b p = none) (hp : p ≠ b) : Step b dg H (upd H' p o) := by
  have hdp : dg ≠ p := fun z => by
    obtain ⟨ns, e⟩ := hB.dgs
    have q := del_get hB.apart e
    rw [z, h] at q
    cases q
  obtain ⟨⟨k, e1, e2⟩, ns, e3⟩ := s.box
  refine ⟨fun c o' q => ?_, ⟨k, ?_, e2⟩, ns, ?_⟩
  · have hc := (of_del q).1
    have hcp : c ≠ p := fun z => by rw [z, h] at q; cases q
    have z := (of_del (s.same _ _ q)).2
    exact del_get hc (by rw [upd_ne hcp]; exact z)
  · rw [upd_ne (Ne.symm hp)]
    exact e1
  · rw [upd_ne hdp]
    exact e3
end
theorem scCell : FnScope ["_law_script", "_law_k"] ["_law_script", "_law_k"] (defScope sCell) := ⟨rfl, rfl, rfl, by decide +kernel, rfl, by decide +kernel, by decide +kernel⟩
theorem scDigs : FnScope ["_law_script", "_law_first", "_law_last", "_law_digits_here", "_law_k", "_law_cell_here", "_law_turn", "_law_seed"] ["_law_script", "_law_first", "_law_last"] (defScope sDigs) := ⟨rfl, rfl, rfl, by decide +kernel, rfl, by decide +kernel, by decide +kernel⟩
theorem scDraw : FnScope ["_law_box", "_law_many", "_law_at"] ["_law_box", "_law_many"] (defScope sDraw) := ⟨rfl, rfl, rfl, by decide +kernel, rfl, by decide +kernel, by decide +kernel⟩
theorem scPick : FnScope ["_law_box", "_law_things"] ["_law_box", "_law_things"] (defScope sPick) := ⟨rfl, rfl, rfl, by decide +kernel, rfl, by decide +kernel, by decide +kernel⟩
section
variable {P : Program} {w : World} {K : PySem.W.Frag} {mg : Str → Option Value} {base : Heap}
def spCell (K : PySem.W.Frag) : Sp := fun vs H Q _ => ∃ (a : Addr) (ns : List Int) (k : Nat), vs = [.ref a, .int k] ∧ SqL K H a (ns.map V.int) ∧ ∀ i, Q (.int i) H
theorem ok_cell {f : Addr} {fd : FuncData} (F : Fun K "_law_cell" "_law_cell" sCell f fd) (B : Blt mg) : FnOk P w K mg base CX0 1 f fd ["_law_script", "_law_k"] (spCell K) := by
  refine F.ok scCell (fun vs H Q E h => ?_) (fun cdv A outer s₀ H vs Q E hr h => ?_)
  · obtain ⟨a, ns, k, rfl, _⟩ := h
    rfl
  · obtain ⟨a, ns, k, rfl, hS, q⟩ := h
    refine ⟨_, pss_cons (ps_if (pt_cmpR op_lt (pv 1) (pe_callB call_len_seq (by rfl) B.len bt_len (pa_cons (pv 0) pa_nil)) (nomark _)) (pss_one (ps_ret (pe_ix ix_list (pv 0) (pv 1) (fun _ _ => rfl)))) pss_nil) (pss_one (ps_ret pe_int)), ?_⟩
    refine ⟨_, rfl, _, rfl, a, _, rfl, .inl hS, k, ((ns.map V.int).length : Nat), rfl, rfl, _, rfl, ite2 (fun e => ?_) (fun e => q 0)⟩
    have hk : k < ns.length := by
      have := of_decide_eq_true e
      rw [List.length_map] at this
      omega
    refine ⟨_, rfl, _, rfl, a, _, k, .int ns[k], rfl, rfl, hS, atI_nat (j := k) ?_, q _⟩
    rw [List.getElem?_map, List.getElem?_eq_getElem hk]
    rfl
def spDraw (K : PySem.W.Frag) : Sp := fun vs H Q _ => ∃ (b dg : Addr) (m : Int), vs = [.ref b, .int m] ∧ 0 < m ∧ BoxAt H b dg ∧ ∀ r H', 0 ≤ r → r < m → Step b dg H H' → Q (.int r) H'
theorem ok_draw {f : Addr} {fd : FuncData} (F : Fun K "_law_draw" "_law_draw" sDraw f fd) (B : Blt mg) : FnOk P w K mg base CX0 1 f fd ["_law_box", "_law_many"] (spDraw K) := by
  refine F.ok scDraw (fun vs H Q E h => ?_) (fun cdv A outer s₀ H vs Q E hr h => ?_)
  · obtain ⟨b, dg, m, rfl, _⟩ := h
    rfl
  · obtain ⟨b, dg, m, rfl, hm, hB, q⟩ := h
    refine ⟨_, pss_cons (ps_set (i := 2) scDraw.nd rfl (.inl rfl) (pe_ix ix_list (pv 0) pe_int (fun _ _ => rfl)))
      (pss_cons (ps_asg (pe_op op_add (pv 2) pe_int) (pg_sub (pv 0) pe_int set_list))
      (pss_cons (ps_if (pt_cmpR op_lt (pv 2) (pe_callB call_len_seq (by rfl) B.len bt_len (pa_cons (pe_ix ix_list (pv 0) pe_int (fun _ _ => rfl)) pa_nil)) (nomark _))
        (pss_one (ps_ret (pe_op op_mod (pe_callTy call_int1 (by rfl) B.int bt_int (pa_cons (pe_ix ix_list (pe_ix ix_list (pv 0) pe_int (fun _ _ => rfl)) (pv 2) (fun _ _ => rfl)) pa_nil)) (pv 1)))) pss_nil)
      (pss_one (ps_ret pe_int)))), ?_⟩
    obtain ⟨⟨k, e1, h0⟩, ns, e3⟩ := id hB
    have hdb := hB.apart
    refine ⟨_, rfl, b, _, 1, .int k, rfl, rfl, SqL.of e1, atI_nat (j := 1) rfl, ?_⟩
    refine ⟨_, rfl, k, 1, rfl, rfl, _, rfl, b, _, 1, 1, rfl, rfl, e1, rfl, ?_⟩
    have e1' : upd H b (.lst [.ref dg, .int (k + 1)]) b = some (.lst [.ref dg, .int (k + 1)]) := upd_same
    have e3' : upd H b (.lst [.ref dg, .int (k + 1)]) dg = some (.lst (ns.map V.int)) := by
      rw [upd_ne hdb]
      exact e3
    have st : Step b dg H (upd H b (.lst [.ref dg, .int (k + 1)])) := by
      refine ⟨fun c o z => ?_, ⟨k + 1, e1', by omega⟩, ns, e3'⟩
      obtain ⟨hc, z⟩ := of_del z
      exact del_get hc (by rw [upd_ne hc]; exact z)
    refine ⟨_, rfl, _, rfl, b, _, 0, .ref dg, rfl, rfl, SqL.of e1', atI_nat (j := 0) rfl, dg, _, rfl, .inl (SqL.of e3'), k, _, rfl, rfl, _, rfl, ite2 (fun e => ?_) (fun e => q 0 _ (Int.le_refl 0) hm st)⟩
    have hk : k.toNat < ns.length := by
      have := of_decide_eq_true e
      rw [List.length_map] at this
      omega
    refine ⟨_, rfl, b, _, 0, .ref dg, rfl, rfl, SqL.of e1', atI_nat (j := 0) rfl, _, rfl, dg, _, k, .int ns[k.toNat], rfl, rfl, SqL.of e3', at_of (j := k.toNat) (by omega) (by rw [List.getElem?_map, List.getElem?_eq_getElem hk]; rfl), .inl ⟨_, rfl, _, rfl, _, m, rfl, rfl, hm, ?_⟩⟩
    exact q _ _ (Int.emod_nonneg _ (by omega)) (Int.emod_lt_of_pos _ hm) st
def spPick (K : PySem.W.Frag) : Sp := fun vs H Q _ => ∃ (b dg l : Addr) (xs : List V), vs = [.ref b, .ref l] ∧ BoxAt H b dg ∧ SqL K (del H b) l xs ∧ xs ≠ [] ∧ ∀ x ∈ xs, ∀ H', Step b dg H H' → Q x H'
theorem ok_pick {f fD : Addr} {fd fdD : FuncData} (F : Fun K "_law_pick" "_law_pick" sPick f fd) (B : Blt mg) (GD : Cal P w K mg base CX0 1 "_law_draw" fD fdD ["_law_box", "_law_many"] (spDraw K)) :
    FnOk P w K mg base CX0 2 f fd ["_law_box", "_law_things"] (spPick K) := by
  refine F.ok scPick (fun vs H Q E h => ?_) (fun cdv A outer s₀ H vs Q E hr h => ?_)
  · obtain ⟨b, dg, l, xs, rfl, _⟩ := h
    rfl
  · obtain ⟨b, dg, l, xs, rfl, hB, hS, hne, q⟩ := h
    refine ⟨_, pss_one (ps_ret (pe_ix ix_list (pv 1) (pe_op op_mod (pe_callTy call_int1 (by rfl) B.int bt_int (pa_cons (pe_call GD.ok hr (by rfl) GD.g GD.kp GD.b .nil pass0 (pa_cons (pv 0) (pa_cons pe_int pa_nil))) pa_nil))
      (pe_callB call_len_seq (by rfl) B.len bt_len (pa_cons (pv 1) pa_nil))) (fun _ _ => rfl))), ?_⟩
    refine ⟨_, rfl, _, rfl, b, dg, 900, rfl, by decide, hB, fun r H1 h0 h9 st => .inl ⟨_, rfl, _, rfl, l, xs, rfl, .inl ((st.same.trans del_sub).seq hS), _, _, rfl, rfl, ?_, ?_⟩⟩
    · have : 0 < xs.length := List.length_pos_iff.mpr hne
      omega
    have hl : 0 < xs.length := List.length_pos_iff.mpr hne
    have hj : (r % (xs.length : Int)).toNat < xs.length := by
      have h1 := Int.emod_nonneg r (show (xs.length : Int) ≠ 0 by omega)
      have h2 := Int.emod_lt_of_pos r (show (0 : Int) < (xs.length : Int) by omega)
      omega
    refine ⟨l, xs, _, xs[(r % (xs.length : Int)).toNat], rfl, rfl, (st.same.trans del_sub).seq hS, at_of (j := (r % (xs.length : Int)).toNat) ?_ (List.getElem?_eq_getElem hj), q _ (List.getElem_mem hj) H1 st⟩
    have h1 := Int.emod_nonneg r (show (xs.length : Int) ≠ 0 by omega)
    omega
end
end NC
set_option maxRecDepth 100000
set_option maxHeartbeats 1000000
namespace NC
open PySem PySem.Spec PyProof.Rows L2
theorem map_snoc {ns : List Int} {i : Int} : (ns.map V.int) ++ [.int i] = (ns ++ [i]).map V.int := by
  rw [List.map_append]
  rfl
def rInt1 : List V → Hp → VK → Prop := fun xs H Q => (∃ i, xs = [.int i] ∧ Q (.int i) H) ∨ ∃ k, xs = [.bl k] ∧ Q (.int (if k then 1 else 0)) H
def rMod1 : R2 := rI (fun _ j => 0 < j) fun i j => .int (i % j)
def rDiv1 : R2 := rI CDiv fun i j => .int (i / j)
def rMul1 : R2 := rI CMul fun i j => .int (i * j)
def rAdd1 : R2 := rI0 fun i j => .int (i + j)
def t_digs_tail (K : PySem.W.Frag) : TS := tIfS (tTest (tOp (rI0 fun i j => .bl (decide (j ≤ i))) (tVar 5) (tOp (rI CPow fun i j => .int (i ^ j.toNat)) (tC (.int 10)) (tC (.int 18)))))
  (tFor (iRng1 (tCons (tC (.int 60)) tNil)) (gName 6) (tIfS (tTest (tOp (rI0 fun i j => .bl (decide (j < i))) (tVar 5) (tC (.int 0))))
    (tSeq (tDrop (tBM K "list" rAppend (tVar 3) (tCons (tOp rMod1 (tCB rInt1 (tCons (tVar 5) tNil)) (tC (.int 1000))) tNil))) (tAsg (tOp rDiv1 (tVar 5) (tC (.int 1000))) (gName 5))) tNext))
  (tSeq (tAsg (tOp rMod1 (tCB rInt1 (tCons (tOp rAdd1 (tOp rAdd1 (tOp rMul1 (tVar 5) (tC (.int 48271))) (tOp rMul1 (tVar 4) (tC (.int 69621)))) (tC (.int 11))) tNil)) (tC (.int 2147483647))) (gName 7))
    (tFor (iRng1 (tCons (tC (.int 12)) tNil)) (gName 6) (tSeq (tAsg (tOp rMod1 (tCB rInt1 (tCons (tOp rAdd1 (tOp rAdd1 (tOp rMul1 (tVar 7) (tC (.int 16807))) (tOp rMul1 (tC (.int 7)) (tVar 6))) (tC (.int 1))) tNil)) (tC (.int 2147483647))) (gName 7))
      (tDrop (tBM K "list" rAppend (tVar 3) (tCons (tOp rMod1 (tCB rInt1 (tCons (tOp rDiv1 (tVar 7) (tC (.int 997))) tNil)) (tC (.int 1000))) tNil))))))
def digsI (H : Hp) (a p : Addr) (n : Nat) : L2.St → Hp → Prop := fun σ H' => ∃ y4 y5 y6 y7, ∃ ns' : List Int, σ = [some (.ref a), some (.int 0), some (.int 60), some (.ref p), y4, y5, y6, y7] ∧ Same H H' ∧ H' p = some (.lst (ns'.map V.int)) ∧ ns'.length ≤ n
theorem digs_tail {K : PySem.W.Frag} {H H1 : Hp} {a p : Addr} {D : Ends} {i : Nat} {c : Int} {y6 y7 : Option V} {ns1 : List Int} (np : H p = none) (hi : i < 60) (sm1 : Same H H1) (e1 : H1 p = some (.lst (ns1.map V.int))) (hl1 : ns1.length ≤ 60 * i) (hc : 0 ≤ c)
    (hn : ∀ σ H', digsI H a p (60 * (i + 1)) σ H' → D.nx σ H') :
    t_digs_tail K D [some (.ref a), some (.int 0), some (.int 60), some (.ref p), some (.int (0 + i)), some (.int c), y6, y7] H1 := by
  refine ⟨_, rfl, 10, 18, rfl, rfl, ⟨by decide, by decide, by decide⟩, c, _, rfl, rfl, _, rfl, ite2 (fun e => ?_) (fun e => ?_)⟩
  · -- a great cell: sixty turns
    refine ⟨60, rfl, by decide, by decide, for_range (lo := 0) (n := 60) (fun j σ H' => ∃ c' y6 y7, ∃ ns' : List Int, σ = [some (.ref a), some (.int 0), some (.int 60), some (.ref p), some (.int (0 + i)), some (.int c'), y6, y7] ∧ Same H H' ∧ H' p = some (.lst (ns'.map V.int)) ∧ ns'.length ≤ 60 * i + j)
      ⟨c, y6, y7, ns1, rfl, sm1, e1, hl1⟩ (fun j σ H2 hj hP => ?_) (fun σ H2 hP => ?_)⟩
    · obtain ⟨c', z6, z7, ns2, rfl, sm2, e2, hl2⟩ := hP
      refine ⟨_, rfl, c', 0, rfl, rfl, _, rfl, ite2 (fun e => ?_) (fun e => ?_)⟩
      · refine ⟨_, rfl, .inl ⟨rfl, _, SqL.of e2⟩, _, rfl, .inl ⟨_, rfl, _, _, rfl, rfl, (by decide : (0 : Int) < 1000), p, _, _, rfl, rfl, e2, ?_, ?_⟩⟩
        · rw [List.length_map]
          exact Nat.lt_of_le_of_lt (show ns2.length ≤ 3660 by omega) (by decide)
        · refine ⟨_, rfl, c', 1000, rfl, rfl, ⟨by decide, by decide⟩, _, _, _, ns2 ++ [c' % 1000], rfl, same_new sm2 np, ?_, ?_⟩
          · rw [upd_same, map_snoc]
          · rw [List.length_append]
            show ns2.length + 1 ≤ _
            omega
      · exact ⟨c', _, z7, ns2, rfl, sm2, e2, by omega⟩
    · obtain ⟨c', z6, z7, ns2, rfl, sm2, e2, hl2⟩ := hP
      exact hn _ _ ⟨_, _, _, _, ns2, rfl, sm2, e2, by omega⟩
  · -- a seed, twelve turns
    refine ⟨_, rfl, c, 48271, rfl, rfl, .inr ⟨by decide, by decide⟩, _, rfl, _, 69621, rfl, rfl, .inr ⟨by decide, by decide⟩, _, _, rfl, rfl, _, _, rfl, rfl, .inl ⟨_, rfl, _, _, rfl, rfl, (by decide : (0 : Int) < 2147483647), ?_⟩⟩
    refine ⟨12, rfl, by decide, by decide, for_range (lo := 0) (n := 12) (fun j σ H' => ∃ sd y6, ∃ ns' : List Int, σ = [some (.ref a), some (.int 0), some (.int 60), some (.ref p), some (.int (0 + i)), some (.int c), y6, some (.int sd)] ∧ Same H H' ∧ H' p = some (.lst (ns'.map V.int)) ∧ ns'.length ≤ 60 * i + j)
      ⟨_, y6, ns1, rfl, sm1, e1, hl1⟩ (fun j σ H2 hj hP => ?_) (fun σ H2 hP => ?_)⟩
    · obtain ⟨sd, z6, ns2, rfl, sm2, e2, hl2⟩ := hP
      refine ⟨_, rfl, sd, 16807, rfl, rfl, .inr ⟨by decide, by decide⟩, _, rfl, 7, _, rfl, rfl, .inl ⟨by decide, by decide⟩, _, _, rfl, rfl, _, _, rfl, rfl, .inl ⟨_, rfl, _, _, rfl, rfl, (by decide : (0 : Int) < 2147483647), ?_⟩⟩
      refine ⟨_, rfl, .inl ⟨rfl, _, SqL.of e2⟩, _, rfl, _, 997, rfl, rfl, ⟨by decide, by decide⟩, .inl ⟨_, rfl, _, _, rfl, rfl, (by decide : (0 : Int) < 1000), p, _, _, rfl, rfl, e2, ?_, ?_⟩⟩
      · rw [List.length_map]
        exact Nat.lt_of_le_of_lt (show ns2.length ≤ 3660 by omega) (by decide)
      · refine ⟨_, _, ns2 ++ [(sd * 16807 + 7 * (0 + (j : Int)) + 1) % 2147483647 / 997 % 1000], rfl, same_new sm2 np, ?_, ?_⟩
        · rw [upd_same, map_snoc]
        · rw [List.length_append]
          show ns2.length + 1 ≤ _
          omega
    · obtain ⟨sd, z6, ns2, rfl, sm2, e2, hl2⟩ := hP
      exact hn _ _ ⟨_, _, _, _, ns2, rfl, sm2, e2, by omega⟩
section
variable {P : Program} {w : World} {K : PySem.W.Frag} {mg : Str → Option Value} {base : Heap}
def spDigs (K : PySem.W.Frag) : Sp := fun vs H Q _ => ∃ (a : Addr) (ns : List Int), vs = [.ref a, .int 0, .int 60] ∧ SqL K H a (ns.map V.int) ∧ ∀ H' p (ns' : List Int), Same H H' → H p = none → H' p = some (.lst (ns'.map V.int)) → Q (.ref p) H'
theorem ok_digs {f fC : Addr} {fd fdC : FuncData} (F : Fun K "_law_digits" "_law_digits" sDigs f fd) (B : Blt mg) (GC : Cal P w K mg base CX0 1 "_law_cell" fC fdC ["_law_script", "_law_k"] (spCell K)) :
    FnOk P w K mg base CX0 2 f fd ["_law_script", "_law_first", "_law_last"] (spDigs K) := by
  refine F.ok scDigs (fun vs H Q E h => ?_) (fun cdv A outer s₀ H vs Q E hr h => ?_)
  · obtain ⟨a, ns, rfl, _⟩ := h
    rfl
  · obtain ⟨a, ns, rfl, hS, q⟩ := h
    refine ⟨_, pss_cons (ps_set (i := 3) scDigs.nd rfl (.inl rfl) (pe_lst pa_nil))
      (pss_cons (ps_for PassesOwn.never rfl (pi_range2 (by rfl) B.range (pa_cons (pv 1) (pa_cons (pv 2) pa_nil))) (pg_name (i := 4) scDigs.nd rfl (.inl rfl))
        (pss_cons (ps_set (i := 5) scDigs.nd rfl (.inl rfl) (pe_call GC.ok hr (by rfl) GC.g GC.kp GC.b .nil pass0 (pa_cons (pv 0) (pa_cons (pv 4) pa_nil))))
        (pss_cons (ps_if (pt_cmpR op_lt (pv 5) pe_int (nomark _)) (pss_one (ps_set (i := 5) scDigs.nd rfl (.inl rfl) (pe_op op_sub pe_int (pe_op op_mul pe_int (pv 5))))) pss_nil)
        (pss_one (ps_if (pt_cmpR op_ge (pv 5) (pe_op op_pow pe_int pe_int) (nomark _))
          (pss_one (ps_for PassesOwn.never rfl (pi_range1 (by rfl) B.range (pa_cons pe_int pa_nil)) (pg_name (i := 6) scDigs.nd rfl (.inl rfl))
            (pss_one (ps_if (pt_cmpR op_gt (pv 5) pe_int (nomark _))
              (pss_cons (ps_expr (pe_bm PySem.F.plainAttrs_list PySem.F.slot_list_append PySem.F.type_list_append mt_append (pv 3) (pa_cons (pe_op op_mod (pe_callTy call_int1 (by rfl) B.int bt_int (pa_cons (pv 5) pa_nil)) pe_int) pa_nil)))
              (pss_one (ps_set (i := 5) scDigs.nd rfl (.inl rfl) (pe_op op_fdiv (pv 5) pe_int)))) pss_nil))))
          (pss_cons (ps_set (i := 7) scDigs.nd rfl (.inl rfl) (pe_op op_mod (pe_callTy call_int1 (by rfl) B.int bt_int (pa_cons (pe_op op_add (pe_op op_add (pe_op op_mul (pv 5) pe_int) (pe_op op_mul (pv 4) pe_int)) pe_int) pa_nil)) pe_int))
          (pss_one (ps_for PassesOwn.never rfl (pi_range1 (by rfl) B.range (pa_cons pe_int pa_nil)) (pg_name (i := 6) scDigs.nd rfl (.inl rfl))
            (pss_cons (ps_set (i := 7) scDigs.nd rfl (.inl rfl) (pe_op op_mod (pe_callTy call_int1 (by rfl) B.int bt_int (pa_cons (pe_op op_add (pe_op op_add (pe_op op_mul (pv 7) pe_int) (pe_op op_mul pe_int (pv 6))) pe_int) pa_nil)) pe_int))
            (pss_one (ps_expr (pe_bm PySem.F.plainAttrs_list PySem.F.slot_list_append PySem.F.type_list_append mt_append (pv 3) (pa_cons (pe_op op_mod (pe_callTy call_int1 (by rfl) B.int bt_int (pa_cons (pe_op op_fdiv (pv 7) pe_int) pa_nil)) pe_int) pa_nil)))))))))))))
      (pss_one (ps_ret (pv 3)))), ?_⟩
    refine ⟨Nat.zero_le _, fun p np => ?_⟩
    refine ⟨_, rfl, _, rfl, 0, 60, rfl, by decide, for_range (lo := 0) (n := 60) (fun i σ H' => ∃ y4 y5 y6 y7, ∃ ns' : List Int, σ = [some (.ref a), some (.int 0), some (.int 60), some (.ref p), y4, y5, y6, y7] ∧ Same H H' ∧ H' p = some (.lst (ns'.map V.int)) ∧ ns'.length ≤ 60 * i)
      ⟨none, none, none, none, [], rfl, same_upd np, upd_same, Nat.zero_le _⟩ (fun i σ H1 hi hP => ?_) (fun σ H1 hP => ?_)⟩
    · obtain ⟨y4, y5, y6, y7, ns1, rfl, sm1, e1, hl1⟩ := hP
      refine ⟨_, rfl, _, rfl, a, ns, i, by rw [Int.zero_add]; rfl, sm1.seq hS, fun c0 => ?_⟩
      refine ⟨_, rfl, c0, 0, rfl, rfl, _, rfl, ite2 (fun e => ?_) (fun e => ?_)⟩
      · have e0 := of_decide_eq_true e
        refine ⟨_, rfl, 2, c0, rfl, rfl, .inl ⟨by decide, by decide⟩, 1, 2 * c0, rfl, rfl, ?_⟩
        exact digs_tail np hi sm1 e1 hl1 (show 0 ≤ 1 - 2 * c0 by omega) fun _ _ h => h
      · have e0 : ¬ c0 < 0 := fun z => e (decide_eq_true z)
        have hc : 0 ≤ c0 := by omega
        exact digs_tail np hi sm1 e1 hl1 hc fun _ _ h => h
    · obtain ⟨y4, y5, y6, y7, ns1, rfl, sm1, e1, hl1⟩ := hP
      exact ⟨_, rfl, q H1 p ns1 sm1 np e1⟩
end
end NC
set_option maxRecDepth 100000
set_option maxHeartbeats 1000000
namespace NC
open PySem PySem.Spec PyProof.Rows L2
abbrev nLMarks : List Str := ["_law_box", "_law_many", "_law_at", "_law_k"]
theorem scLMarks : FnScope nLMarks ["_law_box", "_law_many"] (defScope sLMarks) := ⟨rfl, rfl, rfl, by decide +kernel, rfl, by decide +kernel, by decide +kernel⟩
theorem scLRead : FnScope ["_law_box", "_law_heights", "_law_one", "_law_other", "_law_value"] ["_law_box", "_law_heights", "_law_one", "_law_other"] (defScope sLRead) := ⟨rfl, rfl, rfl, by decide +kernel, rfl, by decide +kernel, by decide +kernel⟩
/-- the j-th letter, the name of a mark -/
def ltS (j : Nat) : Str := ⟨#[97 + j]⟩
def mkS (j : Nat) : Str := ("m" : Str) ++ ltS j
theorem letters_at : ∀ j, j < 26 → lettersS.cps.toList[j]? = some (97 + j) := by decide +kernel
theorem letters_len : lettersS.length ≤ sizeLine := by decide +kernel
theorem letter_ok {z : Int} {j : Nat} (e : z = (j : Int)) (h : j < 26) : atI lettersS.cps.toList z = some (97 + j) := by
  rw [e]
  exact atI_nat (letters_at j h)
section
variable {K : PySem.W.Frag} {H H' : Hp} {b dg : Addr}
theorem dpAll_app : ∀ {vs ws : List V} {ds es : List PyData}, DpAll K H vs ds → DpAll K H ws es → DpAll K H (vs ++ ws) (ds ++ es)
  | _, _, _, _, .nil, h => h
  | _, _, _, _, .cons h t, h2 => .cons h (dpAll_app t h2)
theorem dpAll_take : ∀ {vs : List V} {ds : List PyData} (n : Nat), DpAll K H vs ds → DpAll K H (vs.take n) (ds.take n)
  | _, _, 0, _ => by
    rw [List.take_zero, List.take_zero]
    exact .nil
  | _, _, n + 1, .nil => .nil
  | _, _, n + 1, .cons h t => .cons h (dpAll_take n t)
theorem dpAll_drop : ∀ {vs : List V} {ds : List PyData} (n : Nat), DpAll K H vs ds → DpAll K H (vs.drop n) (ds.drop n)
  | _, _, 0, h => h
  | _, _, n + 1, .nil => .nil
  | _, _, n + 1, .cons _ t => dpAll_drop n t
theorem cut_to (xs : List V) {n : Nat} (h : n ≤ xs.length) : cutV xs none (some (n : Int)) = xs.take n := by
  unfold cutV
  rw [HT.sIx_none, HT.sIx_nat, Nat.min_eq_left h]
  rfl
theorem cut_from (xs : List V) {n : Nat} (h : n ≤ xs.length) : cutV xs (some (n : Int)) none = xs.drop n := by
  unfold cutV
  rw [HT.sIx_none, HT.sIx_nat, Nat.min_eq_left h]
  exact List.take_of_length_le (by rw [List.length_drop]; omega)
theorem cut_whole {xs : List V} {lo hi : Option Int} (h : HT.sIx xs.length 0 lo = 0 ∧ HT.sIx xs.length xs.length hi = xs.length) : cutV xs lo hi = xs := by
  unfold cutV
  rw [h.1, h.2]
  exact List.take_of_length_le (Nat.le_refl _)
/-- a new tuple, seen past the box -/
theorem new_T {xs : List V} {p : Addr} (hB : BoxAt H b dg) (n : H p = none) : SqT K (del (upd H p (.tup xs)) b) p xs := SqT.of (del_get (hB.ne n) upd_same)
theorem sl_go {a : Addr} {xs : List V} {lo hi : Option Int} {Q : VK} (hB : BoxAt H b dg) (hS : SqT K (del H b) a xs) (q : ∀ p H', Step b dg H H' → SqT K (del H' b) p (cutV xs lo hi) → Q (.ref p) H') :
    (HT.sIx xs.length 0 lo = 0 ∧ HT.sIx xs.length xs.length hi = xs.length → Q (.ref a) H) ∧ (¬ (HT.sIx xs.length 0 lo = 0 ∧ HT.sIx xs.length xs.length hi = xs.length) → ∀ p, H p = none → Q (.ref p) (upd H p (.tup (cutV xs lo hi)))) := by
  refine ⟨fun h => q a H (.refl hB) ?_, fun h p n => q p _ ((Step.refl hB).new n) (new_T hB n)⟩
  rw [cut_whole h]
  exact hS
theorem cat_go {a c : Addr} {xs ys : List V} {Q : VK} (hB : BoxAt H b dg) (hS : SqT K (del H b) a xs) (hS2 : SqT K (del H b) c ys) (q : ∀ p H', Step b dg H H' → SqT K (del H' b) p (xs ++ ys) → Q (.ref p) H') :
    (xs = [] → Q (.ref c) H) ∧ (xs ≠ [] → ys = [] → Q (.ref a) H) ∧ (xs ≠ [] → ys ≠ [] → ∀ p, H p = none → Q (.ref p) (upd H p (.tup (xs ++ ys)))) := by
  refine ⟨fun h => q c H (.refl hB) ?_, fun _ h => q a H (.refl hB) ?_, fun _ _ p n => q p _ ((Step.refl hB).new n) (new_T hB n)⟩
  · rw [h]
    exact hS2
  · rw [h, List.append_nil]
    exact hS
theorem T_of_del {a : Addr} {xs : List V} (h : SqT K (del H b) a xs) : SqT K H a xs := same_T del_sub h
end
section
variable {P : Program} {w : World} {K : PySem.W.Frag} {mg : Str → Option Value} {base : Heap}
def spLMarks (K : PySem.W.Frag) : Sp := fun vs H Q _ => ∃ (b dg : Addr) (n : Nat), vs = [.ref b, .int n] ∧ n ≤ 6 ∧ BoxAt H b dg ∧ ∀ t H' p, t < 20 → Step b dg H H' → H' p = some (.tup ((List.range n).map fun k => V.str (mkS (t + k)))) → Q (.ref p) H'
theorem ok_lmarks {f fD : Addr} {fd fdD : FuncData} (F : Fun K "_law_marks" "_law_marks" sLMarks f fd) (B : Blt mg) (GD : Cal P w K mg base CX0 1 "_law_draw" fD fdD ["_law_box", "_law_many"] (spDraw K)) :
    FnOk P w K mg base CX0 2 f fd ["_law_box", "_law_many"] (spLMarks K) := by
  refine F.ok scLMarks (fun vs H Q E h => ?_) (fun cdv A outer s₀ H vs Q E hr h => ?_)
  · obtain ⟨b, dg, n, rfl, _⟩ := h
    rfl
  · obtain ⟨b, dg, n, rfl, hn, hB, q⟩ := h
    refine ⟨_, pss_cons (ps_set (i := 2) scLMarks.nd rfl (.inr rfl) (pe_call GD.ok hr (by rfl) GD.g GD.kp GD.b .nil pass0 (pa_cons (pv 0) (pa_cons pe_int pa_nil))))
      (pss_one (ps_ret (pe_callTy call_tuple_of (by rfl) B.tuple bt_tuple (pa_cons (pe_lc (own := [("_law_k", 3)]) (g := gName 3) (tt := tYes) rfl scLMarks.nd (pi_range1 (by rfl) B.range (pa_cons (pv 1) pa_nil)) (blkOk_by (own := [("_law_k", 3)]) (N := nLMarks) (sc := defScope sLMarks) (by decide +kernel))
        (fun _ _ _ _ _ => pg_name (i := 3) scLMarks.nd rfl (.inl rfl)) (fun _ _ _ _ _ => pts_nil) (fun _ _ _ _ _ => pe_op op_add_str pe_str (pe_ix ix_str pe_str (pe_op op_add (pv 2) (pv 3)) (fun _ _ => rfl)))) pa_nil)))), ?_⟩
    refine ⟨_, rfl, b, dg, 20, rfl, by decide, hB, fun r H1 h0 h20 st => ?_⟩
    obtain ⟨t, rfl⟩ : ∃ t : Nat, r = (t : Int) := ⟨r.toNat, by omega⟩
    refine ⟨_, rfl, n, rfl, by omega, by omega, fun D nD => lc_range (lo := 0) (n := n) (fun i H' => Same H1 H' ∧ H' D = some (.lst ((List.range i).map fun k => V.str (mkS (t + k))))) ⟨same_upd nD, upd_same⟩ (fun i H' hi hP => ?_) (fun H2 hP => ?_)⟩
    · obtain ⟨sm, eD⟩ := hP
      refine ⟨rfl, _, rfl, _, rfl, _, _, rfl, rfl, lettersS, _, 97 + (t + i), rfl, rfl, letters_len, letter_ok (j := t + i) (by omega) (by omega), _, _, rfl, rfl, by show 2 ≤ sizeLine; decide, _, eD, ?_, same_new sm nD, ?_⟩
      · rw [List.length_map, List.length_range]
        exact small1000 (by omega)
      · rw [upd_same, List.range_succ, List.map_append]
        rfl
    · obtain ⟨sm, eD⟩ := hP
      refine ⟨D, _, rfl, .inl ⟨SqL.of eD, fun l nl => ?_⟩⟩
      exact q t _ l (by omega) ((st.trans (.of st.box sm)).new nl) upd_same
/-- a reading between two marks, of a small value -/
def RdOk (one other : Nat) (r : Rdg) : Prop := ((r.1 = one ∧ r.2.1 = other) ∨ (r.1 = other ∧ r.2.1 = one)) ∧ -100 ≤ r.2.2 ∧ r.2.2 ≤ 100
def spLRead (K : PySem.W.Frag) : Sp := fun vs H Q _ => ∃ (b dg h : Addr) (hs : List Int) (one other : Nat), vs = [.ref b, .ref h, .int one, .int other] ∧ one < hs.length ∧ other < hs.length ∧ (∀ v ∈ hs, -10 ≤ v ∧ v ≤ 10) ∧ BoxAt H b dg ∧ SqL K (del H b) h (hs.map V.int) ∧
  ∀ (r : Rdg) H' p, RdOk one other r → Step b dg H H' → H' p = some (.tup [.int (r.1 : Int), .int (r.2.1 : Int), .int r.2.2]) → Q (.ref p) H'
def t_lread_tail (K : PySem.W.Frag) : TS := tSeq (tIfS (tTest (tOp rEq (tCall (spDraw K) [] E0 (tCons (tVar 0) (tCons (tC (.int 2)) tNil))) (tC (.int 0))))
    (tRet (tTup (tCons (tVar 3) (tCons (tVar 2) (tCons (tOp (rI0 fun i j => .int (i - j)) (tC (.int 0)) (tVar 4)) tNil))))) tNext)
  (tRet (tTup (tCons (tVar 2) (tCons (tVar 3) (tCons (tVar 4) tNil)))))
theorem lread_tail {D : Ends} {H H1 : Hp} {b dg h : Addr} {one other : Nat} {v : Int} (hv : -90 ≤ v ∧ v ≤ 90) (st : Step b dg H H1)
    (q : ∀ (r : Rdg) H' p, RdOk one other r → Step b dg H H' → H' p = some (.tup [.int (r.1 : Int), .int (r.2.1 : Int), .int r.2.2]) → D.rt (.ref p) H') :
    t_lread_tail K D [some (.ref b), some (.ref h), some (.int one), some (.int other), some (.int v)] H1 := by
  refine ⟨_, rfl, b, dg, 2, rfl, by decide, st.box, fun r H2 _ _ st2 => ⟨rfl, _, rfl, ite2 (fun e => ?_) (fun e => ?_)⟩⟩
  · refine ⟨_, rfl, _, rfl, _, rfl, 0, v, rfl, rfl, by show 3 ≤ sizeLine; decide, fun p np => ?_⟩
    exact q (other, one, 0 - v) _ p ⟨.inr ⟨rfl, rfl⟩, by show -100 ≤ 0 - v; omega, by show 0 - v ≤ 100; omega⟩ ((st.trans st2).new np) upd_same
  · refine ⟨_, rfl, _, rfl, _, rfl, by show 3 ≤ sizeLine; decide, fun p np => ?_⟩
    exact q (one, other, v) _ p ⟨.inl ⟨rfl, rfl⟩, by show -100 ≤ v; omega, by show v ≤ 100; omega⟩ ((st.trans st2).new np) upd_same
theorem ok_lread {f fD : Addr} {fd fdD : FuncData} (F : Fun K "_law_reading" "_law_reading" sLRead f fd) (GD : Cal P w K mg base CX0 1 "_law_draw" fD fdD ["_law_box", "_law_many"] (spDraw K)) :
    FnOk P w K mg base CX0 2 f fd ["_law_box", "_law_heights", "_law_one", "_law_other"] (spLRead K) := by
  refine F.ok scLRead (fun vs H Q E h => ?_) (fun cdv A outer s₀ H vs Q E hr h => ?_)
  · obtain ⟨b, dg, h, hs, one, other, rfl, _⟩ := h
    rfl
  · obtain ⟨b, dg, h, hs, one, other, rfl, h1, h2, hb, hB, hS, q⟩ := h
    refine ⟨_, pss_cons (ps_set (i := 4) scLRead.nd rfl (.inl rfl) (pe_op op_sub (pe_ix ix_list (pv 1) (pv 3) (fun _ _ => rfl)) (pe_ix ix_list (pv 1) (pv 2) (fun _ _ => rfl))))
      (pss_cons (ps_if (pt_cmpR op_eq (pe_call GD.ok hr (by rfl) GD.g GD.kp GD.b .nil pass0 (pa_cons (pv 0) (pa_cons pe_int pa_nil))) pe_int (nomark _))
        (pss_one (ps_set (i := 4) scLRead.nd rfl (.inl rfl) (pe_op op_sub (pe_op op_add (pv 4) (pe_call GD.ok hr (by rfl) GD.g GD.kp GD.b .nil pass0 (pa_cons (pv 0) (pa_cons pe_int pa_nil)))) pe_int))) pss_nil)
      (pss_cons (ps_if (pt_cmpR op_eq (pe_call GD.ok hr (by rfl) GD.g GD.kp GD.b .nil pass0 (pa_cons (pv 0) (pa_cons pe_int pa_nil))) pe_int (nomark _))
        (pss_one (ps_ret (pe_tup (pa_cons (pv 3) (pa_cons (pv 2) (pa_cons (pe_op op_sub pe_int (pv 4)) pa_nil)))))) pss_nil)
      (pss_one (ps_ret (pe_tup (pa_cons (pv 2) (pa_cons (pv 3) (pa_cons (pv 4) pa_nil)))))))), ?_⟩
    have hS' : SqL K H h (hs.map V.int) := del_sub.seq hS
    have g1 : (hs.map V.int)[one]? = some (.int hs[one]) := by rw [List.getElem?_map, List.getElem?_eq_getElem h1]; rfl
    have g2 : (hs.map V.int)[other]? = some (.int hs[other]) := by rw [List.getElem?_map, List.getElem?_eq_getElem h2]; rfl
    have b1 := hb _ (List.getElem_mem h1)
    have b2 := hb _ (List.getElem_mem h2)
    refine ⟨_, rfl, _, rfl, h, _, other, .int hs[other], rfl, rfl, hS', atI_nat g2, _, rfl, _, rfl, h, _, one, .int hs[one], rfl, rfl, hS', atI_nat g1, _, _, rfl, rfl, ?_⟩
    refine ⟨_, rfl, b, dg, 3, rfl, by decide, hB, fun r H1 _ _ st => ⟨rfl, _, rfl, ite2 (fun e => ?_) (fun e => ?_)⟩⟩
    · refine ⟨_, rfl, _, rfl, b, dg, 15, rfl, by decide, st.box, fun r2 H2 q0 q1 st2 => ⟨_, _, rfl, rfl, _, _, rfl, rfl, ?_⟩⟩
      exact lread_tail (show -90 ≤ hs[other] - hs[one] + r2 - 7 ∧ hs[other] - hs[one] + r2 - 7 ≤ 90 by omega) (st.trans st2) q
    · exact lread_tail (show -90 ≤ hs[other] - hs[one] ∧ hs[other] - hs[one] ≤ 90 by omega) st q
end
end NC
set_option maxRecDepth 100000
set_option maxHeartbeats 1000000
namespace NC
open PySem PySem.Spec PyProof.Rows L2
abbrev nLNet : List Str := ["_law_box", "_law_most", "_law_more", "_law_many", "_law_k", "_law_heights", "_law_readings", "_law_one", "_law_other", "_law_at"]
theorem scLNet : FnScope nLNet ["_law_box", "_law_most", "_law_more"] (defScope sLNet) := ⟨rfl, rfl, rfl, by decide +kernel, rfl, by decide +kernel, by decide +kernel⟩
/-! ### tuples past the box, both ways joined -/
def rSlB (K : PySem.W.Frag) : V → Option Int → Option Int → Hp → VK → Prop := fun x lo hi H Q => ∃ a xs b dg, x = .ref a ∧ BoxAt H b dg ∧ SqT K (del H b) a xs ∧ ∀ p H', Step b dg H H' → SqT K (del H' b) p (cutV xs lo hi) → Q (.ref p) H'
theorem sl_tupB {X : Cx} : SlR X (rSlB X.K) := by
  intro pins s σ H x v vl vu lo hi sl Q I rx hs pl pu h
  obtain ⟨a, xs, b, dg, rfl, hB, hS, q⟩ := h
  exact sl_tupA pins s σ H _ v vl vu lo hi sl Q I rx hs pl pu ⟨a, xs, rfl, T_of_del hS, sl_go hB hS q⟩
def rCatB (K : PySem.W.Frag) : R2 := fun x y H Q => ∃ a c xs ys b dg, x = .ref a ∧ y = .ref c ∧ BoxAt H b dg ∧ SqT K (del H b) a xs ∧ SqT K (del H b) c ys ∧ xs.length + ys.length ≤ sizeLine ∧ ∀ p H', Step b dg H H' → SqT K (del H' b) p (xs ++ ys) → Q (.ref p) H'
theorem op_catB {X : Cx} : OpR X (binaryOp .Add) (rCatB X.K) := by
  intro pins s σ H x y v u Q I rx ry h
  obtain ⟨a, c, xs, ys, b, dg, rfl, rfl, hB, hS, hS2, hl, q⟩ := h
  exact op_catA pins s σ H _ _ v u Q I rx ry ⟨a, c, xs, ys, rfl, rfl, T_of_del hS, T_of_del hS2, hl, cat_go hB hS hS2 q⟩
/-! ### the net that is built -/
def OkR (n : Nat) (rs : List Rdg) : Prop := ∀ r ∈ rs, r.1 < n ∧ r.2.1 < n ∧ r.1 ≠ r.2.1 ∧ -100 ≤ r.2.2 ∧ r.2.2 ≤ 100
def Link (rs : List Rdg) (m : Nat) : Prop := ∀ k, 1 ≤ k → k < m → ∃ r ∈ rs, ∃ j, j < k ∧ ((r.1 = j ∧ r.2.1 = k) ∨ (r.1 = k ∧ r.2.1 = j))
def RsAt (K : PySem.W.Frag) (H : Hp) (b t : Addr) (rs : List Rdg) : Prop := ∃ xs, SqT K (del H b) t xs ∧ DpAll K (del H b) xs (rs.map rdD)
def netD (n t : Nat) (rs : List Rdg) : PyData := .tuple [.str "net", .tuple ((List.range n).map fun k => .str (mkS (t + k))), .tuple (rs.map rdD)]
theorem RsAt.step {K : PySem.W.Frag} {H H' : Hp} {b dg t : Addr} {rs : List Rdg} (h : RsAt K H b t rs) (st : Step b dg H H') : RsAt K H' b t rs := by
  obtain ⟨xs, h1, h2⟩ := h
  exact ⟨xs, same_T st.same h1, dp_sameAll st.same _ _ h2⟩
theorem rd_at {K : PySem.W.Frag} {H : Hp} {b dg p : Addr} {r : Rdg} (hB : BoxAt H b dg) (e : H p = some (.tup [.int (r.1 : Int), .int (r.2.1 : Int), .int r.2.2])) : Dp K (del H b) (.ref p) (rdD r) := by
  have hpb : p ≠ b := fun z => by
    obtain ⟨k, e1, _⟩ := hB.bx
    rw [z, e1] at e
    cases e
  exact .tup (SqT.of (del_get hpb e)) (.cons (.int _) (.cons (.int _) (.cons (.int _) .nil)))
theorem strs_at {K : PySem.W.Frag} {H : Hp} {b dg p : Addr} {n t : Nat} (hB : BoxAt H b dg) (e : H p = some (.tup ((List.range n).map fun k => V.str (mkS (t + k))))) : Dp K (del H b) (.ref p) (.tuple ((List.range n).map fun k => .str (mkS (t + k)))) := by
  have hpb : p ≠ b := fun z => by
    obtain ⟨k, e1, _⟩ := hB.bx
    rw [z, e1] at e
    cases e
  refine .tup (SqT.of (del_get hpb e)) ?_
  generalize List.range n = l
  induction l with
  | nil => exact .nil
  | cons k l ih => exact .cons (.str _) ih
theorem okR_snoc {n : Nat} {rs : List Rdg} {r : Rdg} {one other : Nat} (h : OkR n rs) (hr : RdOk one other r) (h1 : one < n) (h2 : other < n) (ne : one ≠ other) : ∀ q, (q ∈ rs ∨ q = r) → q.1 < n ∧ q.2.1 < n ∧ q.1 ≠ q.2.1 ∧ -100 ≤ q.2.2 ∧ q.2.2 ≤ 100 := by
  rintro q (hq | rfl)
  · exact h q hq
  · obtain ⟨h3, h4, h5⟩ := hr
    rcases h3 with ⟨e1, e2⟩ | ⟨e1, e2⟩ <;> exact ⟨by omega, by omega, by omega, h4, h5⟩
theorem other_ne {n one d : Int} (h0 : 0 ≤ one) (h1 : one < n) (h2 : 0 ≤ d) (h3 : d < n - 1) : 0 ≤ (one + 1 + d) % n ∧ (one + 1 + d) % n < n ∧ (one + 1 + d) % n ≠ one := by
  refine ⟨Int.emod_nonneg _ (by omega), Int.emod_lt_of_pos _ (by omega), ?_⟩
  by_cases h : one + 1 + d < n
  · rw [Int.emod_eq_of_lt (by omega) h]
    omega
  · have e : (one + 1 + d) % n = (one + 1 + d - n) % n := by
      have z := Int.add_mul_emod_self_left (one + 1 + d - n) n 1
      rw [Int.mul_one, Int.sub_add_cancel] at z
      exact z
    rw [e, Int.emod_eq_of_lt (by omega) (by omega)]
    omega
section
variable {P : Program} {w : World} {K : PySem.W.Frag} {mg : Str → Option Value} {base : Heap}
def spLNet (K : PySem.W.Frag) : Sp := fun vs H Q _ => ∃ (b dg : Addr), vs = [.ref b, .int 6, .int 6] ∧ BoxAt H b dg ∧
  ∀ x H' (n t : Nat) rs, Step b dg H H' → 1 ≤ n → n ≤ 6 → t < 20 → rs.length ≤ 11 → OkR n rs → Link rs n → Dp K (del H' b) x (netD n t rs) → Q x H'
theorem ok_lnet {f fD fR fM : Addr} {fd fdD fdR fdM : FuncData} (F : Fun K "_law_net" "_law_net" sLNet f fd) (B : Blt mg) (GD : Cal P w K mg base CX0 1 "_law_draw" fD fdD ["_law_box", "_law_many"] (spDraw K))
    (GR : Cal P w K mg base CX0 2 "_law_reading" fR fdR ["_law_box", "_law_heights", "_law_one", "_law_other"] (spLRead K)) (GM : Cal P w K mg base CX0 2 "_law_marks" fM fdM ["_law_box", "_law_many"] (spLMarks K)) :
    FnOk P w K mg base CX0 3 f fd ["_law_box", "_law_most", "_law_more"] (spLNet K) := by
  refine F.ok scLNet (fun vs H Q E h => ?_) (fun cdv A outer s₀ H vs Q E hr h => ?_)
  · obtain ⟨b, dg, rfl, _⟩ := h
    rfl
  · obtain ⟨b, dg, rfl, hB, q⟩ := h
    have hr1 := hr.mono (show 1 ≤ 2 by decide)
    refine ⟨_, pss_cons (ps_set (i := 3) scLNet.nd rfl (.inl rfl) (pe_op op_add pe_int (pe_call GD.ok hr1 (by rfl) GD.g GD.kp GD.b .nil pass0 (pa_cons (pv 0) (pa_cons (pv 1) pa_nil)))))
      (pss_cons (ps_set (i := 5) scLNet.nd rfl (.inl rfl) (pe_op op_cat (pe_lst (pa_cons pe_int pa_nil)) (pe_lc (own := [("_law_k", 4)]) (g := gName 4) (tt := tYes) rfl scLNet.nd (pi_range1 (by rfl) B.range (pa_cons (pe_op op_sub (pv 3) pe_int) pa_nil)) (blkOk_by (own := [("_law_k", 4)]) (N := nLNet) (sc := defScope sLNet) (by decide +kernel))
        (fun _ _ _ _ _ => pg_name (i := 4) scLNet.nd rfl (.inl rfl)) (fun _ _ _ _ _ => pts_nil) (fun _ _ _ _ _ => pe_op op_sub (pe_call GD.ok hr1 (by rfl) GD.g GD.kp GD.b .nil pass0 (pa_cons (pv 0) (pa_cons pe_int pa_nil))) pe_int))))
      (pss_cons (ps_set (i := 6) scLNet.nd rfl (.inl rfl) (pe_tup pa_nil))
      (pss_cons (ps_for PassesOwn.never rfl (pi_range2 (by rfl) B.range (pa_cons pe_int (pa_cons (pv 3) pa_nil))) (pg_name (i := 4) scLNet.nd rfl (.inl rfl))
        (pss_one (ps_set (i := 6) scLNet.nd rfl (.inl rfl) (pe_op op_catB (pv 6) (pe_tup (pa_cons (pe_call GR.ok hr (by rfl) GR.g GR.kp GR.b .nil pass0 (pa_cons (pv 0) (pa_cons (pv 5)
          (pa_cons (pe_call GD.ok hr1 (by rfl) GD.g GD.kp GD.b .nil pass0 (pa_cons (pv 0) (pa_cons (pv 4) pa_nil))) (pa_cons (pv 4) pa_nil))))) pa_nil))))))
      (pss_cons (ps_for PassesOwn.never rfl (pi_range1 (by rfl) B.range (pa_cons (pe_op op_mul (pe_call GD.ok hr1 (by rfl) GD.g GD.kp GD.b .nil pass0 (pa_cons (pv 0) (pa_cons (pe_op op_add (pv 2) pe_int) pa_nil)))
          (pe_callTy call_int1 (by rfl) B.int bt_int (pa_cons (pe_cmpR op_gt (pv 3) pe_int (nomark _)) pa_nil))) pa_nil)) (pg_name (i := 4) scLNet.nd rfl (.inl rfl))
        (pss_cons (ps_set (i := 7) scLNet.nd rfl (.inl rfl) (pe_call GD.ok hr1 (by rfl) GD.g GD.kp GD.b .nil pass0 (pa_cons (pv 0) (pa_cons (pv 3) pa_nil))))
        (pss_cons (ps_set (i := 8) scLNet.nd rfl (.inl rfl) (pe_op op_mod (pe_callTy call_int1 (by rfl) B.int bt_int (pa_cons (pe_op op_add (pe_op op_add (pv 7) pe_int) (pe_call GD.ok hr1 (by rfl) GD.g GD.kp GD.b .nil pass0 (pa_cons (pv 0) (pa_cons (pe_op op_sub (pv 3) pe_int) pa_nil)))) pa_nil)) (pv 3)))
        (pss_cons (ps_set (i := 9) scLNet.nd rfl (.inl rfl) (pe_call GD.ok hr1 (by rfl) GD.g GD.kp GD.b .nil pass0 (pa_cons (pv 0) (pa_cons (pe_op op_add (pe_callB call_len_seq (by rfl) B.len bt_len (pa_cons (pv 6) pa_nil)) pe_int) pa_nil))))
        (pss_one (ps_set (i := 6) scLNet.nd rfl (.inl rfl) (pe_op op_catB (pe_op op_catB (pe_slice sl_tupB (pv 6) po_none (po_some (pv 9))) (pe_tup (pa_cons (pe_call GR.ok hr (by rfl) GR.g GR.kp GR.b .nil pass0 (pa_cons (pv 0) (pa_cons (pv 5) (pa_cons (pv 7) (pa_cons (pv 8) pa_nil))))) pa_nil)))
          (pe_slice sl_tupB (pv 6) (po_some (pv 9)) po_none)))))))) 
      (pss_one (ps_ret (pe_tup (pa_cons pe_str (pa_cons (pe_call GM.ok hr (by rfl) GM.g GM.kp GM.b .nil pass0 (pa_cons (pv 0) (pa_cons (pv 3) pa_nil))) (pa_cons (pv 6) pa_nil)))))))))), ?_⟩
    -- many
    refine ⟨_, rfl, _, rfl, b, dg, 6, rfl, by decide, hB, fun r H1 h0 h6 st1 => ⟨_, _, rfl, rfl, ?_⟩⟩
    obtain ⟨n, hn⟩ : ∃ n : Nat, 1 + r = (n : Int) := ⟨(1 + r).toNat, by omega⟩
    have hn1 : 1 ≤ n := by omega
    have hn6 : n ≤ 6 := by omega
    show tSeq _ _ _ [some (.ref b), some (.int 6), some (.int 6), some (.int (1 + r)), none, none, none, none, none, none] H1
    rw [hn]
    -- heights
    refine ⟨by show 1 ≤ sizeLine; decide, fun l nl => ?_⟩
    have st2 : Step b dg H1 (upd H1 l (.lst [.int 0])) := (Step.refl st1.box).new nl
    have hlb := st1.box.ne nl
    refine ⟨_, rfl, n, 1, rfl, rfl, _, rfl, by omega, by omega, fun D nD => lc_range (lo := 0) (n := ((n : Int) - 1).toNat) (fun i H' => Step b dg (upd H1 l (.lst [.int 0])) H' ∧ ∃ hs : List Int, H' D = some (.lst (hs.map V.int)) ∧ hs.length = i ∧ ∀ v ∈ hs, -10 ≤ v ∧ v ≤ 10)
      ⟨(Step.refl st2.box).new nD, [], upd_same, rfl, fun v hv => by cases hv⟩ (fun i H' hi hP => ?_) (fun H2 hP => ?_)⟩
    · obtain ⟨st3, hs, eD, hl, hb⟩ := hP
      have hDb := st2.box.ne nD
      refine ⟨rfl, _, rfl, b, dg, 21, rfl, by decide, st3.box, fun r3 H3 h30 h31 st4 => ⟨_, _, rfl, rfl, _, st4.get hDb eD, ?_, (st3.trans st4).put st2.box (del_none nD) hDb, hs ++ [r3 - 10], ?_, ?_, ?_⟩⟩
      · rw [List.length_map]
        exact small1000 (by omega)
      · rw [upd_same, map_snoc]
      · rw [List.length_append, hl]
        rfl
      · intro v hv
        rcases List.mem_append.mp hv with hv | hv
        · exact hb v hv
        · have e : v = r3 - 10 := by simpa using hv
          omega
    obtain ⟨st3, hs, eD, hl, hb⟩ := hP
    have hDb := st2.box.ne nD
    have el : H2 l = some (.lst [.int 0]) := st3.get hlb upd_same
    refine ⟨l, D, _, _, rfl, rfl, el, eD, ?_, fun hh nhh => ?_⟩
    · rw [List.length_map]
      show 1 + hs.length ≤ sizeLine
      exact Nat.le_of_lt (small1000 (by omega))
    have st5 : Step b dg H (upd H2 hh (.lst ([V.int 0] ++ hs.map V.int))) := ((st1.trans st2).trans st3).new nhh
    have hhb := st3.box.ne nhh
    have hhs : SqL K (del (upd H2 hh (.lst ([V.int 0] ++ hs.map V.int))) b) hh ((0 :: hs).map V.int) := SqL.of (del_get hhb upd_same)
    have hlen : (0 :: hs).length = n := by rw [List.length_cons, hl]; omega
    have hb' : ∀ v ∈ (0 :: hs), -10 ≤ v ∧ v ≤ 10 := by
      intro v hv
      rcases List.mem_cons.mp hv with e | hv
      · omega
      · exact hb v hv
    revert st5 hhs hhb
    generalize upd H2 hh (.lst ([V.int 0] ++ hs.map V.int)) = H5
    intro st5 hhb hhs
    -- readings = ()
    refine ⟨Nat.zero_le _, fun t0 nt0 => ?_⟩
    -- those that join the marks
    refine ⟨_, rfl, 1, n, rfl, by omega, for_range (lo := 1) (n := ((n : Int) - 1).toNat) (fun i σ H' => ∃ y4 t rs, σ = [some (.ref b), some (.int 6), some (.int 6), some (.int n), y4, some (.ref hh), some (.ref t), none, none, none] ∧ Step b dg H H' ∧ SqL K (del H' b) hh ((0 :: hs).map V.int) ∧ RsAt K H' b t rs ∧ rs.length = i ∧ OkR n rs ∧ Link rs (i + 1))
      ⟨none, t0, [], rfl, st5.new nt0, (same_del (same_upd nt0)).seq hhs, ⟨[], new_T st5.box nt0, .nil⟩, rfl, fun r hr => (by cases hr), fun k h1 h2 => by omega⟩ (fun i σ H6 hi hP => ?_) (fun σ H6 hP => ?_)⟩
    · obtain ⟨y4, t, rs, rfl, st6, hS6, hR6, hrl, hok, hlk⟩ := hP
      refine ⟨_, rfl, _, rfl, _, rfl, _, rfl, _, rfl, b, dg, 1 + (i : Int), rfl, by omega, st6.box, fun r7 H7 h70 h71 st7 => ?_⟩
      obtain ⟨j, rfl⟩ : ∃ j : Nat, r7 = (j : Int) := ⟨r7.toNat, by omega⟩
      refine ⟨_, rfl, b, dg, hh, 0 :: hs, j, 1 + i, by rw [show ((1 + i : Nat) : Int) = 1 + (i : Int) by omega]; rfl, by omega, by omega, hb', st7.box, st7.same.seq hS6, fun r8 H8 p hr8 st8 ep => ?_⟩
      refine ⟨by show 1 ≤ sizeLine; decide, fun u nu => ?_⟩
      have st9 := st7.trans (st8.new (o := .tup [.ref p]) nu)
      have hR9 := hR6.step st9
      obtain ⟨xs, hxs, hA⟩ := id hR9
      have hp := rd_at (K := K) st8.box ep
      refine ⟨t, u, xs, [.ref p], b, dg, rfl, rfl, st9.box, hxs, new_T st8.box nu, ?_, fun v H9 st10 hv => ?_⟩
      · rw [dpAll_len hA, List.length_map]
        show rs.length + 1 ≤ sizeLine
        exact Nat.le_of_lt (small1000 (by omega))
      · refine ⟨_, v, rs ++ [r8], rfl, (st6.trans st9).trans st10, (st9.trans st10).same.seq hS6, ⟨xs ++ [.ref p], (show SqT K (del H9 b) v (xs ++ [V.ref p]) from hv), ?_⟩, ?_, ?_, ?_⟩
        · rw [List.map_append]
          exact dpAll_app (dp_sameAll st10.same _ _ hA) (.cons (dp_same (((Step.refl st8.box).new nu).trans st10).same _ _ hp) .nil)
        · rw [List.length_append, hrl]
          rfl
        · intro r hr
          refine okR_snoc hok hr8 (by omega) (by omega) (by omega) r ?_
          rcases List.mem_append.mp hr with hr | hr
          · exact .inl hr
          · exact .inr (by simpa using hr)
        · intro k h1 h2
          by_cases hk : k < i + 1
          · obtain ⟨r, hr, z⟩ := hlk k h1 hk
            exact ⟨r, List.mem_append_left _ hr, z⟩
          · have e : k = 1 + i := by omega
            subst e
            exact ⟨r8, by simp, j, by omega, hr8.1⟩
    obtain ⟨y4, t, rs, rfl, st6, hS6, hR6, hrl, hok, hlk⟩ := hP
    rw [show ((n : Int) - 1).toNat + 1 = n by omega] at hlk
    -- the further ones
    refine ⟨_, rfl, _, rfl, 6, 1, rfl, rfl, b, dg, 7, rfl, by decide, st6.box, fun d H7 hd0 hd7 st7 => ?_⟩
    refine ⟨_, rfl, n, 1, rfl, rfl, .inr ⟨_, rfl, d, _, rfl, rfl, .inl ⟨by omega, by omega⟩, ?_⟩⟩
    have hcnt : ∀ c : Int, c = (if decide ((1 : Int) < (n : Int)) = true then 1 else 0) → 0 ≤ d * c ∧ d * c ≤ 6 ∧ (0 < d * c → 2 ≤ n) := by
      intro c hc
      by_cases h : (1 : Int) < (n : Int)
      · rw [decide_eq_true h, if_pos rfl] at hc
        rw [hc, Int.mul_one]
        exact ⟨by omega, by omega, fun _ => by omega⟩
      · rw [decide_eq_false h, if_neg (by decide)] at hc
        rw [hc, Int.mul_zero]
        exact ⟨by omega, by omega, fun z => by omega⟩
    obtain ⟨hc0, hc6, hc2⟩ := hcnt _ rfl
    refine ⟨_, rfl, by omega, by omega, for_range (lo := 0) (n := (d * (if decide ((1 : Int) < (n : Int)) = true then 1 else 0)).toNat) (fun i σ H' => ∃ y4 y7 y8 y9 t rs, σ = [some (.ref b), some (.int 6), some (.int 6), some (.int n), y4, some (.ref hh), some (.ref t), y7, y8, y9] ∧ Step b dg H H' ∧ SqL K (del H' b) hh ((0 :: hs).map V.int) ∧ RsAt K H' b t rs ∧ rs.length ≤ 5 + i ∧ OkR n rs ∧ Link rs n)
      ⟨y4, none, none, none, t, rs, rfl, st6.trans st7, st7.same.seq hS6, hR6.step st7, by omega, hok, hlk⟩ (fun i σ H8 hi hP => ?_) (fun σ H8 hP => ?_)⟩
    · obtain ⟨y4, y7, y8, y9, t, rs, rfl, st8, hS8, hR8, hrl, hok, hlk⟩ := hP
      have hn2 : 2 ≤ n := hc2 (by omega)
      refine ⟨_, rfl, _, rfl, b, dg, n, rfl, by omega, st8.box, fun o1 H9 ho0 ho1 st9 => ?_⟩
      obtain ⟨one, rfl⟩ : ∃ j : Nat, o1 = (j : Int) := ⟨o1.toNat, by omega⟩
      refine ⟨_, rfl, one, 1, rfl, rfl, _, rfl, _, rfl, n, 1, rfl, rfl, b, dg, (n : Int) - 1, rfl, by omega, st9.box, fun d2 H10 hd20 hd21 st10 => ⟨_, _, rfl, rfl, .inl ⟨_, rfl, _, rfl, _, n, rfl, rfl, by omega, ?_⟩⟩⟩
      obtain ⟨z0, z1, z2⟩ := other_ne ho0 ho1 hd20 hd21
      obtain ⟨other, hot⟩ : ∃ j : Nat, ((one : Int) + 1 + d2) % (n : Int) = (j : Int) := ⟨(((one : Int) + 1 + d2) % (n : Int)).toNat, by omega⟩
      have hS10 := (st9.trans st10).same.seq hS8
      have hR10 := hR8.step (st9.trans st10)
      obtain ⟨xs, hxs, hA⟩ := id hR10
      have hxl : xs.length = rs.length := by rw [dpAll_len hA, List.length_map]
      refine ⟨_, rfl, _, rfl, t, xs, rfl, .inr (T_of_del hxs), (xs.length : Nat), 1, rfl, rfl, b, dg, ((xs.length : Nat) : Int) + 1, rfl, by omega, st10.box, fun a1 H11 ha0 ha1 st11 => ?_⟩
      obtain ⟨at', rfl⟩ : ∃ j : Nat, a1 = (j : Int) := ⟨a1.toNat, by omega⟩
      have hat : at' ≤ xs.length := by omega
      -- readings[:at] + (reading,) + readings[at:]
      refine ⟨_, rfl, _, rfl, at', rfl, t, xs, b, dg, rfl, st11.box, same_T st11.same hxs, fun p1 H12 st12 hp1 => ?_⟩
      rw [cut_to xs hat] at hp1
      have st1112 := st11.trans st12
      refine ⟨_, rfl, _, rfl, _, rfl, _, rfl, b, dg, hh, 0 :: hs, one, other, by rw [← hot]; rfl, by omega, by omega, hb', st12.box, st1112.same.seq hS10, fun r13 H13 p13 hr13 st13 ep => ?_⟩
      refine ⟨by show 1 ≤ sizeLine; decide, fun u nu => ?_⟩
      have hp13 := rd_at (K := K) st13.box ep
      have st14 := st13.new (o := .tup [.ref p13]) nu
      refine ⟨p1, u, xs.take at', [.ref p13], b, dg, rfl, rfl, st14.box, same_T st14.same hp1, new_T st13.box nu, ?_, fun p2 H15 st15 hp2 => ?_⟩
      · rw [List.length_take]
        show _ + 1 ≤ sizeLine
        exact Nat.le_of_lt (small1000 (by omega))
      have stx := (st1112.trans st14).trans st15
      refine ⟨_, rfl, _, rfl, at', rfl, t, xs, b, dg, rfl, st15.box, same_T stx.same hxs, fun p3 H16 st16 hp3 => ?_⟩
      rw [cut_from xs hat] at hp3
      refine ⟨p2, p3, _, _, b, dg, rfl, rfl, st16.box, same_T st16.same hp2, hp3, ?_, fun p4 H17 st17 hp4 => ?_⟩
      · rw [List.length_append, List.length_take, List.length_drop]
        show _ + 1 + _ ≤ sizeLine
        exact Nat.le_of_lt (small1000 (by omega))
      have sty := ((stx.trans st16).trans st17)
      have hmem : ∀ r ∈ rs, r ∈ rs.take at' ++ [r13] ++ rs.drop at' := fun r hr => by
        rw [← List.take_append_drop at' rs] at hr
        rcases List.mem_append.mp hr with hr | hr
        · exact List.mem_append_left _ (List.mem_append_left _ hr)
        · exact List.mem_append_right _ hr
      refine ⟨_, _, _, _, p4, rs.take at' ++ [r13] ++ rs.drop at', rfl, ((st8.trans st9).trans st10).trans sty, sty.same.seq hS10, ⟨_, hp4, ?_⟩, ?_, ?_, ?_⟩
      · have hA17 := dp_sameAll sty.same _ _ hA
        have h13 := dp_same ((((Step.refl st13.box).new (o := .tup [.ref p13]) nu).trans st15).trans (st16.trans st17)).same _ _ hp13
        rw [List.map_append, List.map_append, List.map_take, List.map_drop]
        exact dpAll_app (dpAll_app (dpAll_take _ hA17) (.cons h13 .nil)) (dpAll_drop _ hA17)
      · rw [List.length_append, List.length_append, List.length_take, List.length_drop]
        show _ + 1 + _ ≤ _
        omega
      · intro r hr
        refine okR_snoc hok hr13 (by omega) (by omega) (by omega) r ?_
        rcases List.mem_append.mp hr with hr | hr
        · rcases List.mem_append.mp hr with hr | hr
          · exact .inl (List.mem_of_mem_take hr)
          · exact .inr (by simpa using hr)
        · exact .inl (List.mem_of_mem_drop hr)
      · intro k h1 h2
        obtain ⟨r, hr, z⟩ := hlk k h1 h2
        exact ⟨r, hmem r hr, z⟩
    obtain ⟨y4, y7, y8, y9, t, rs, rfl, st8, hS8, hR8, hrl, hok, hlk⟩ := hP
    -- the net
    refine ⟨_, rfl, _, rfl, b, dg, n, rfl, hn6, st8.box, fun tt H9 pm htt st9 em => ⟨_, rfl, by show 3 ≤ sizeLine; decide, fun pn npn => ?_⟩⟩
    have st10 := st9.new (o := .tup [.str "net", .ref pm, .ref t]) npn
    have hms := strs_at (K := K) st9.box em
    obtain ⟨xs, hxs, hA⟩ := hR8.step st10
    refine q (.ref pn) _ n tt rs (st8.trans st10) hn1 hn6 htt (by omega) hok hlk ?_
    exact .tup (new_T st9.box npn) (.cons (.str _) (.cons (dp_same ((Step.refl st9.box).new npn).same _ _ hms) (.cons (.tup hxs hA) .nil)))
end
end NC
set_option maxRecDepth 100000
set_option maxHeartbeats 1000000
namespace NC
open PySem PySem.Spec PyProof.Rows L2
theorem strs_all {K : PySem.W.Frag} {H : Hp} (f : Nat → Str) : ∀ l : List Nat, DpAll K H (l.map fun k => V.str (f k)) (l.map fun k => PyData.str (f k))
  | [] => .nil
  | k :: l => .cons (.str _) (strs_all f l)
/-! ### expressions that are data, whatever stands around them (a box may be there) -/
variable {ι : Type}
abbrev Cnd (ι : Type) := ι → L2.St → Addr → Hp → Prop
def Stab (C : Cnd ι) : Prop := ∀ j σ b dg H H', C j σ b H → Step b dg H H' → C j σ b H'
def tDat (K : PySem.W.Frag) (C : Cnd ι) (d : ι → PyData) : TE := fun σ H Q => ∃ j b dg, BoxAt H b dg ∧ C j σ b H ∧ ∀ x H', Step b dg H H' → Dp K (del H' b) x (d j) → Q x H'
def tDats (K : PySem.W.Frag) (C : Cnd ι) (ds : ι → List PyData) : TA := fun σ H Q => ∃ j b dg, BoxAt H b dg ∧ C j σ b H ∧ ∀ xs H', Step b dg H H' → DpAll K (del H' b) xs (ds j) → Q xs H'
theorem PE.imp {X : Cx} {e : Expr} {t t' : TE} (h : PE X e t) (i : ∀ σ H Q, t' σ H Q → t σ H Q) : PE X e t' := ⟨fun pins s σ H Q I hw => h.run pins s σ H Q I (i σ H Q hw)⟩
theorem PA.imp {X : Cx} {es : List Expr} {t t' : TA} (h : PA X es t) (i : ∀ σ H Q, t' σ H Q → t σ H Q) : PA X es t' := ⟨fun pos pins s σ H Q I hw => h.run pos pins s σ H Q I (i σ H Q hw)⟩
theorem PT.imp {X : Cx} {e : Expr} {t t' : TT} (h : PT X e t) (i : ∀ σ H Q, t' σ H Q → t σ H Q) : PT X e t' := ⟨fun pins s σ H Q I hw => h.run pins s σ H Q I (i σ H Q hw)⟩
theorem dp_tup {K : PySem.W.Frag} {H : Hp} {x : V} {ds : List PyData} (h : Dp K H x (.tuple ds)) : ∃ a xs, x = .ref a ∧ SqT K H a xs ∧ DpAll K H xs ds := by
  cases h with
  | @tup a xs _ h1 h2 => exact ⟨a, xs, rfl, h1, h2⟩
theorem new_L {K : PySem.W.Frag} {H : Hp} {xs : List V} {b dg p : Addr} (hB : BoxAt H b dg) (n : H p = none) : SqL K (del (upd H p (.lst xs)) b) p xs := SqL.of (del_get (hB.ne n) upd_same)
section
variable {X : Cx} {C : Cnd ι} {e f : Expr} {es : List Expr} {d : ι → PyData} {ds : ι → List PyData} {pos : Pos}
theorem dat_c {v : V} (h : PE X e (tC v)) (hd : ∀ j {H}, Dp X.K H v (d j)) : PE X e (tDat X.K C d) := PE.imp h fun σ H Q ⟨j, b, dg, hB, hC, q⟩ => q v H (.refl hB) (hd j)
theorem dat_int {i : Int} {k : Nat} : PE X (.Constant (.int i) k pos) (tDat X.K C fun _ => .int i) := dat_c pe_int fun _ {_} => .int i
theorem dat_str {z : Str} {k : Nat} : PE X (.Constant (.str z) k pos) (tDat X.K C fun _ => .str z) := dat_c pe_str fun _ {_} => .str z
theorem dat_bl {v : Bool} {k : Nat} : PE X (.Constant (.bool v) k pos) (tDat X.K C fun _ => .bool v) := dat_c pe_bl fun _ {_} => .bl v
theorem dat_non {k : Nat} : PE X (.Constant .none k pos) (tDat X.K C fun _ => .none) := dat_c pe_non fun _ {_} => .non
theorem dat_neg {i : Int} {k : Nat} {p2 : Pos} : PE X (.UnaryOp .USub (.Constant (.int i) k p2) pos) (tDat X.K C fun _ => .int (-i)) :=
  PE.imp (pe_un un_neg pe_int) fun σ H Q ⟨j, b, dg, hB, hC, q⟩ => ⟨i, rfl, q _ H (.refl hB) (.int _)⟩
/-- a name whose value is told by the condition -/
theorem dat_v (i : Nat) {x : Str} (h : ∀ j σ b H, C j σ b H → ∃ v, σ[i]? = some (some v) ∧ Dp X.K (del H b) v (d j)) (hN : X.N[i]? = some x := by rfl) (hv : Vis X.env.scope x := by first | exact Or.inl rfl | exact Or.inr (Or.inl rfl) | exact Or.inr (Or.inr rfl))
    (hd : (x == ("__debug__" : Str)) = false := by decide) (hcd : (x == ("__classdict__" : Str)) = false := by decide) : PE X (.Name x pos) (tDat X.K C d) := PE.imp (pv i hN hv hd hcd) fun σ H Q ⟨j, b, dg, hB, hC, q⟩ => by
  obtain ⟨v, e, hv⟩ := h j σ b H hC
  exact ⟨v, e, q v H (.refl hB) hv⟩
theorem dats_nil : PA X [] (tDats X.K C fun _ => []) := PA.imp pa_nil fun σ H Q ⟨j, b, dg, hB, hC, q⟩ => q [] H (.refl hB) .nil
theorem dats_cons (hS : Stab C) (h : PE X e (tDat X.K C d)) (hs : PA X es (tDats X.K C ds)) (hst : starEach (e :: es) X.env = (false, eval e X.env) :: starEach es X.env := by rfl) : PA X (e :: es) (tDats X.K C fun j => d j :: ds j) :=
  PA.imp (pa_cons h hs hst) fun σ H Q ⟨j, b, dg, hB, hC, q⟩ => ⟨j, b, dg, hB, hC, fun x H1 s1 h1 => ⟨j, b, dg, s1.box, hS _ _ _ _ _ _ hC s1, fun xs H2 s2 h2 => q _ H2 (s1.trans s2) (.cons (dp_same s2.same _ _ h1) h2)⟩⟩
theorem dat_tup {x1 : Nat} (hl : ∀ j, (ds j).length ≤ 1000) (hs : PA X es (tDats X.K C ds)) : PE X (.Tuple es x1 pos) (tDat X.K C fun j => .tuple (ds j)) :=
  PE.imp (pe_tup hs) fun σ H Q ⟨j, b, dg, hB, hC, q⟩ => ⟨j, b, dg, hB, hC, fun xs H1 s1 h1 => ⟨by rw [dpAll_len h1]; exact Nat.le_of_lt (small1000 (hl j)), fun p np => q _ _ (s1.new np) (.tup (new_T s1.box np) (dp_sameAll ((Step.refl s1.box).new np).same _ _ h1))⟩⟩
theorem dat_lst (hl : ∀ j, (ds j).length ≤ 1000) (hs : PA X es (tDats X.K C ds)) : PE X (.List es pos) (tDat X.K C fun j => .list (ds j)) :=
  PE.imp (pe_lst hs) fun σ H Q ⟨j, b, dg, hB, hC, q⟩ => ⟨j, b, dg, hB, hC, fun xs H1 s1 h1 => ⟨by rw [dpAll_len h1]; exact Nat.le_of_lt (small1000 (hl j)), fun p np => q _ _ (s1.new np) (.lst (new_L s1.box np) (dp_sameAll ((Step.refl s1.box).new np).same _ _ h1))⟩⟩
/-- t + u, tuples -/
theorem dat_cat {ds es : ι → List PyData} (hS : Stab C) (hl : ∀ j σ b H, C j σ b H → (ds j).length + (es j).length ≤ 1000) (h : PE X e (tDat X.K C fun j => .tuple (ds j))) (h2 : PE X f (tDat X.K C fun j => .tuple (es j))) :
    PE X (.BinOp e .Add f pos) (tDat X.K C fun j => .tuple (ds j ++ es j)) :=
  PE.imp (pe_op op_catB h h2) fun σ H Q ⟨j, b, dg, hB, hC, q⟩ => ⟨j, b, dg, hB, hC, fun x H1 s1 h1 => ⟨j, b, dg, s1.box, hS _ _ _ _ _ _ hC s1, fun y H2 s2 h2 => by
    obtain ⟨a, xs, rfl, hxs, hA⟩ := dp_tup (dp_same s2.same _ _ h1)
    obtain ⟨c, ys, rfl, hys, hA2⟩ := dp_tup h2
    refine ⟨a, c, xs, ys, b, dg, rfl, rfl, s2.box, hxs, hys, ?_, fun p H3 s3 hp => q _ H3 ((s1.trans s2).trans s3) (.tup hp (dpAll_app (dp_sameAll s3.same _ _ hA) (dp_sameAll s3.same _ _ hA2)))⟩
    rw [dpAll_len hA, dpAll_len hA2]
    exact Nat.le_of_lt (small1000 (hl _ _ _ _ hC))⟩⟩
/-- t[i], i written -/
theorem dat_ix {ds : ι → List PyData} {i k : Nat} {p2 : Pos} (hi : ∀ j σ b H, C j σ b H → (ds j)[i]? = some (d j)) (h : PE X e (tDat X.K C fun j => .tuple (ds j))) : PE X (.Subscript e (.Constant (.int (i : Int)) k p2) pos) (tDat X.K C d) :=
  PE.imp (pe_ix ix_tup h pe_int (fun _ _ => rfl)) fun σ H Q ⟨j, b, dg, hB, hC, q⟩ => ⟨j, b, dg, hB, hC, fun x H1 s1 h1 => by
    obtain ⟨a, xs, rfl, hxs, hA⟩ := dp_tup h1
    obtain ⟨v, hv, hvd⟩ := dpAll_get' hA (hi _ _ _ _ hC)
    exact ⟨a, xs, (i : Int), v, rfl, rfl, T_of_del hxs, atI_nat hv, q v H1 s1 hvd⟩⟩
/-- list(t) -/
theorem dat_list {ds : ι → List PyData} {p2 : Pos} (hg : Gl X "list") (hm : X.mg "list" = none) (h : PE X e (tDat X.K C fun j => .tuple (ds j))) (he : starEach (e :: []) X.env = (false, eval e X.env) :: starEach [] X.env := by rfl) :
    PE X (.Call (.Name "list" p2) [e] [] pos) (tDat X.K C fun j => .list (ds j)) :=
  PE.imp (pe_callTy call_list_of hg hm bt_list (pa_cons h pa_nil he) (he := he)) fun σ H Q ⟨j, b, dg, hB, hC, q⟩ => ⟨j, b, dg, hB, hC, fun x H1 s1 h1 => by
    obtain ⟨a, xs, rfl, hxs, hA⟩ := dp_tup h1
    exact ⟨a, xs, rfl, .inr (T_of_del hxs), fun l nl => q _ _ (s1.new nl) (.lst (new_L s1.box nl) (dp_sameAll ((Step.refl s1.box).new nl).same _ _ hA))⟩⟩
/-- t[:i], i a slot -/
theorem dat_to {ds : ι → List PyData} {at' : ι → Nat} {p2 : Pos} {f : Expr} {i : Nat} (hf : PE X f (tVar i)) (hi : ∀ j σ b H, C j σ b H → σ[i]? = some (some (.int (at' j : Int))) ∧ at' j ≤ (ds j).length) (h : PE X e (tDat X.K C fun j => .tuple (ds j))) :
    PE X (.Subscript e (.Slice none (some f) none p2) pos) (tDat X.K C fun j => .tuple ((ds j).take (at' j))) :=
  PE.imp (pe_slice sl_tupB h po_none (po_some hf)) fun σ H Q ⟨j, b, dg, hB, hC, q⟩ => ⟨j, b, dg, hB, hC, fun x H1 s1 h1 => by
    obtain ⟨a, xs, rfl, hxs, hA⟩ := dp_tup h1
    obtain ⟨e1, e2⟩ := hi _ _ _ _ hC
    refine ⟨_, e1, _, rfl, a, xs, b, dg, rfl, s1.box, hxs, fun p H2 s2 hp => ?_⟩
    rw [cut_to xs (by rw [dpAll_len hA]; exact e2)] at hp
    exact q _ H2 (s1.trans s2) (.tup hp (dpAll_take _ (dp_sameAll s2.same _ _ hA)))⟩
/-- t[i:], i a slot -/
theorem dat_from {ds : ι → List PyData} {at' : ι → Nat} {p2 : Pos} {f : Expr} {i : Nat} (hf : PE X f (tVar i)) (hi : ∀ j σ b H, C j σ b H → σ[i]? = some (some (.int (at' j : Int))) ∧ at' j ≤ (ds j).length) (h : PE X e (tDat X.K C fun j => .tuple (ds j))) :
    PE X (.Subscript e (.Slice (some f) none none p2) pos) (tDat X.K C fun j => .tuple ((ds j).drop (at' j))) :=
  PE.imp (pe_slice sl_tupB h (po_some hf) po_none) fun σ H Q ⟨j, b, dg, hB, hC, q⟩ => ⟨j, b, dg, hB, hC, fun x H1 s1 h1 => by
    obtain ⟨a, xs, rfl, hxs, hA⟩ := dp_tup h1
    obtain ⟨e1, e2⟩ := hi _ _ _ _ hC
    refine ⟨_, e1, _, rfl, a, xs, b, dg, rfl, s1.box, hxs, fun p H2 s2 hp => ?_⟩
    rw [cut_from xs (by rw [dpAll_len hA]; exact e2)] at hp
    exact q _ H2 (s1.trans s2) (.tup hp (dpAll_drop _ (dp_sameAll s2.same _ _ hA)))⟩
/-- t[:k], k written -/
theorem dat_toC {ds : ι → List PyData} {n k : Nat} {p2 p3 : Pos} (hi : ∀ j σ b H, C j σ b H → n ≤ (ds j).length) (h : PE X e (tDat X.K C fun j => .tuple (ds j))) :
    PE X (.Subscript e (.Slice none (some (.Constant (.int (n : Int)) k p3)) none p2) pos) (tDat X.K C fun j => .tuple ((ds j).take n)) :=
  PE.imp (pe_slice sl_tupB h po_none (po_some pe_int)) fun σ H Q ⟨j, b, dg, hB, hC, q⟩ => ⟨j, b, dg, hB, hC, fun x H1 s1 h1 => by
    obtain ⟨a, xs, rfl, hxs, hA⟩ := dp_tup h1
    refine ⟨_, rfl, a, xs, b, dg, rfl, s1.box, hxs, fun p H2 s2 hp => ?_⟩
    rw [cut_to xs (by rw [dpAll_len hA]; exact hi _ _ _ _ hC)] at hp
    exact q _ H2 (s1.trans s2) (.tup hp (dpAll_take _ (dp_sameAll s2.same _ _ hA)))⟩
end
end NC
set_option maxRecDepth 100000
set_option maxHeartbeats 1000000
namespace NC
open PySem PySem.Spec PyProof.Rows L2
theorem scBadR : FnScope ["_law_many", "_law_rows"] ["_law_many"] (defScope sBadR) := ⟨rfl, rfl, rfl, by decide +kernel, rfl, by decide +kernel, by decide +kernel⟩
abbrev nBadM : List Str := ["_law_marks_here", "_law_rows", "_law_k"]
theorem scBadM : FnScope nBadM ["_law_marks_here"] (defScope sBadM) := ⟨rfl, rfl, rfl, by decide +kernel, rfl, by decide +kernel, by decide +kernel⟩
def zS (j : Nat) : Str := ("z" : Str) ++ ltS j
def zsD (n : Nat) : PyData := .tuple ((List.range n).map fun k => .str (zS k))
def rTupOf (K : PySem.W.Frag) : List V → Hp → VK → Prop := fun xs H Q => ∃ p ys, xs = [.ref p] ∧ ((SqL K H p ys ∧ ∀ l, H l = none → Q (.ref l) (upd H l (.tup ys))) ∨ (SqT K H p ys ∧ Q (.ref p) H))
def rAddS : R2 := fun x y H Q => ∃ i j, x = .str i ∧ y = .str j ∧ i.length + j.length ≤ sizeLine ∧ Q (.str (i ++ j)) H
/-- tuple(["z" + letters[k] for k in range(n)]), k in slot i -/
def t_zs (K : PySem.W.Frag) (n i : Nat) : TE := tCB (rTupOf K) (tCons (tLc (iRng1 (tCons (tC (.int (n : Int))) tNil)) (gName i) tYes (tOp rAddS (tC (.str "z")) (tOp rIxS (tC (.str lettersS)) (tVar i))) [i]) tNil)
theorem zs_read {ι : Type} {K : PySem.W.Frag} {C : Cnd ι} {n i : Nat} {σ : L2.St} {H : Hp} {Q : VK} (hn : n ≤ 26) (hi : ∀ j b H, C j σ b H → i < σ.length) (h : tDat K C (fun _ => zsD n) σ H Q) : t_zs K n i σ H Q := by
  obtain ⟨j, b, dg, hB, hC, q⟩ := h
  have hil := hi _ _ _ hC
  refine ⟨n, rfl, by omega, by omega, fun D nD => lc_range (lo := 0) (n := n) (fun j H' => Same H H' ∧ H' D = some (.lst ((List.range j).map fun k => V.str (zS k)))) ⟨same_upd nD, upd_same⟩ (fun j H' hj hP => ?_) (fun H2 hP => ?_)⟩
  · obtain ⟨sm, eD⟩ := hP
    refine ⟨?_, _, ?_, lettersS, 0 + (j : Int), 97 + j, rfl, rfl, letters_len, letter_ok (j := j) (by omega) (by omega), _, _, rfl, rfl, by show 2 ≤ sizeLine; decide, _, eD, ?_, same_new sm nD, ?_⟩
    · show (((σ.set i none).set i _).set i none) = σ.set i none
      rw [List.set_set, List.set_set]
    · show ((σ.set i none).set i _)[i]? = _
      rw [List.getElem?_set_self (by rw [List.length_set]; exact hil)]
    · rw [List.length_map, List.length_range]
      exact small1000 (by omega)
    · rw [upd_same, List.range_succ, List.map_append]
      rfl
  · obtain ⟨sm, eD⟩ := hP
    refine ⟨D, _, rfl, .inl ⟨SqL.of eD, fun l nl => ?_⟩⟩
    have st : Step b dg H H2 := .of hB sm
    refine q _ _ (st.new nl) (.tup (new_T st.box nl) (strs_all zS _))
def badReads (n : Int) : List PyData := [.tuple [.int 0, .int 0, .int 5], .tuple [.int 0, .int n, .int 5], .tuple [.int (-1), .int 0, .int 5], .tuple [.int 0, .int 1, .int 1000001], .tuple [.int 0, .int 1, .int (-1000001)],
  .tuple [.int 0, .int 1, .bool true], .tuple [.bool false, .int 1, .int 5], .tuple [.int 0, .int 1], .tuple [.int 0, .int 1, .int 5, .int 5]] ++
  [.list [.int 0, .int 1, .int 5], .tuple [.int 0, .int 1, .str "5"], .tuple [.int 0, .int 1, .none], .int 7, .tuple [], .tuple [.str "a", .str "b", .int 5], .tuple [.bool true, .int 0, .int 5], .tuple [.int 0, .bool true, .int 5]]
def badMarks (ms : List PyData) (m0 : PyData) : List PyData := ([.tuple [], .list ms, .str "a", .none, .tuple (ms ++ [m0]), .tuple (ms ++ [.str ""]), .tuple (ms ++ [.str "A"]), .tuple (ms ++ [.str "abcdefghi"]), .tuple (ms ++ [.str "a1"])] ++
  [.tuple (ms ++ [.int 5]), .tuple (ms ++ [.tuple [.str "a"]]), .tuple (ms ++ [.str " a"])]) ++ [zsD 17]
section
variable {P : Program} {w : World} {K : PySem.W.Frag} {mg : Str → Option Value} {base : Heap}
def cBR (n : Int) : Cnd Unit := fun _ σ _ _ => σ[0]? = some (some (.int n))
theorem cBR_st (n : Int) : Stab (cBR n) := fun _ _ _ _ _ _ h _ => h
def spBadR (K : PySem.W.Frag) : Sp := fun vs H Q _ => ∃ (n : Int) (b dg : Addr), vs = [.int n] ∧ BoxAt H b dg ∧ ∀ l xs H', Step b dg H H' → SqL K (del H' b) l xs → DpAll K (del H' b) xs (badReads n) → Q (.ref l) H'
theorem ok_badr {f : Addr} {fd : FuncData} (F : Fun K "_law_bad_readings" "_law_bad_readings" sBadR f fd) : FnOk P w K mg base CX0 1 f fd ["_law_many"] (spBadR K) := by
  refine F.ok scBadR (fun vs H Q E h => ?_) (fun cdv A outer s₀ H vs Q E hr h => ?_)
  · obtain ⟨n, b, dg, rfl, _⟩ := h
    rfl
  · obtain ⟨n, b, dg, rfl, hB, q⟩ := h
    have hS := cBR_st n
    refine ⟨_, pss_cons (ps_set (i := 1) scBadR.nd rfl (.inl rfl) (pe_lst
        (dats_cons (C := cBR n) hS (dat_tup (fun _ => Nat.le_of_ble_eq_true rfl) (dats_cons hS dat_int (dats_cons hS dat_int (dats_cons hS dat_int dats_nil))))
        (dats_cons hS (dat_tup (fun _ => Nat.le_of_ble_eq_true rfl) (dats_cons hS dat_int (dats_cons hS (dat_v 0 (d := fun _ => .int n) fun _ σ b H hC => ⟨_, hC, .int _⟩) (dats_cons hS dat_int dats_nil))))
        (dats_cons hS (dat_tup (fun _ => Nat.le_of_ble_eq_true rfl) (dats_cons hS dat_neg (dats_cons hS dat_int (dats_cons hS dat_int dats_nil))))
        (dats_cons hS (dat_tup (fun _ => Nat.le_of_ble_eq_true rfl) (dats_cons hS dat_int (dats_cons hS dat_int (dats_cons hS dat_int dats_nil))))
        (dats_cons hS (dat_tup (fun _ => Nat.le_of_ble_eq_true rfl) (dats_cons hS dat_int (dats_cons hS dat_int (dats_cons hS dat_neg dats_nil))))
        (dats_cons hS (dat_tup (fun _ => Nat.le_of_ble_eq_true rfl) (dats_cons hS dat_int (dats_cons hS dat_int (dats_cons hS dat_bl dats_nil))))
        (dats_cons hS (dat_tup (fun _ => Nat.le_of_ble_eq_true rfl) (dats_cons hS dat_bl (dats_cons hS dat_int (dats_cons hS dat_int dats_nil))))
        (dats_cons hS (dat_tup (fun _ => Nat.le_of_ble_eq_true rfl) (dats_cons hS dat_int (dats_cons hS dat_int dats_nil)))
        (dats_cons hS (dat_tup (fun _ => Nat.le_of_ble_eq_true rfl) (dats_cons hS dat_int (dats_cons hS dat_int (dats_cons hS dat_int (dats_cons hS dat_int dats_nil))))) dats_nil)))))))))))
      (pss_one (ps_ret (pe_op op_cat (pv 1) (pe_lst
        (dats_cons (C := cBR n) hS (dat_lst (fun _ => Nat.le_of_ble_eq_true rfl) (dats_cons hS dat_int (dats_cons hS dat_int (dats_cons hS dat_int dats_nil))))
        (dats_cons hS (dat_tup (fun _ => Nat.le_of_ble_eq_true rfl) (dats_cons hS dat_int (dats_cons hS dat_int (dats_cons hS dat_str dats_nil))))
        (dats_cons hS (dat_tup (fun _ => Nat.le_of_ble_eq_true rfl) (dats_cons hS dat_int (dats_cons hS dat_int (dats_cons hS dat_non dats_nil))))
        (dats_cons hS dat_int
        (dats_cons hS (dat_tup (fun _ => Nat.le_of_ble_eq_true rfl) dats_nil)
        (dats_cons hS (dat_tup (fun _ => Nat.le_of_ble_eq_true rfl) (dats_cons hS dat_str (dats_cons hS dat_str (dats_cons hS dat_int dats_nil))))
        (dats_cons hS (dat_tup (fun _ => Nat.le_of_ble_eq_true rfl) (dats_cons hS dat_bl (dats_cons hS dat_int (dats_cons hS dat_int dats_nil))))
        (dats_cons hS (dat_tup (fun _ => Nat.le_of_ble_eq_true rfl) (dats_cons hS dat_int (dats_cons hS dat_bl (dats_cons hS dat_int dats_nil)))) dats_nil)))))))))))), ?_⟩
    refine ⟨(), b, dg, hB, rfl, fun xs H1 s1 h1 => ⟨by rw [dpAll_len h1]; show 9 ≤ sizeLine; decide, fun l nl => ?_⟩⟩
    have hlb := s1.box.ne nl
    have s2 := s1.new (o := .lst xs) nl
    refine ⟨_, rfl, (), b, dg, s2.box, rfl, fun ys H2 s3 h3 => ⟨by rw [dpAll_len h3]; show 8 ≤ sizeLine; decide, fun l2 nl2 => ?_⟩⟩
    have s4 := s3.new (o := .lst ys) nl2
    have hl2b := s3.box.ne nl2
    have el : upd H2 l2 (.lst ys) l = some (.lst xs) := s4.get hlb upd_same
    refine ⟨l, l2, xs, ys, rfl, rfl, el, upd_same, ?_, fun p np => ?_⟩
    · rw [dpAll_len h1, dpAll_len h3]
      show 9 + 8 ≤ sizeLine
      decide
    · have s5 := s4.new (o := .lst (xs ++ ys)) np
      refine q p (xs ++ ys) _ (s2.trans s5) (new_L s4.box np) ?_
      exact dpAll_app (dp_sameAll (((Step.refl s1.box).new nl).trans s5).same _ _ h1) (dp_sameAll ((((Step.refl s3.box).new nl2)).new np).same _ _ h3)
def cBM (K : PySem.W.Frag) (ms : List PyData) : Cnd Unit := fun _ σ b H => σ.length = 3 ∧ ∃ x, σ[0]? = some (some x) ∧ Dp K (del H b) x (.tuple ms)
theorem cBM_st (K : PySem.W.Frag) (ms : List PyData) : Stab (cBM K ms) := fun _ _ _ _ _ _ ⟨hl, x, e, h⟩ st => ⟨hl, x, e, dp_same st.same _ _ h⟩
def spBadM (K : PySem.W.Frag) : Sp := fun vs H Q _ => ∃ (x : V) (ms : List PyData) (m0 : PyData) (b dg : Addr), vs = [x] ∧ BoxAt H b dg ∧ Dp K (del H b) x (.tuple ms) ∧ ms[0]? = some m0 ∧ ms.length ≤ 20 ∧
  ∀ l xs H', Step b dg H H' → SqL K (del H' b) l xs → DpAll K (del H' b) xs (badMarks ms m0) → Q (.ref l) H'
theorem ok_badm {f : Addr} {fd : FuncData} (F : Fun K "_law_bad_marks" "_law_bad_marks" sBadM f fd) (B : Blt mg) : FnOk P w K mg base CX0 1 f fd ["_law_marks_here"] (spBadM K) := by
  refine F.ok scBadM (fun vs H Q E h => ?_) (fun cdv A outer s₀ H vs Q E hr h => ?_)
  · obtain ⟨x, ms, m0, b, dg, rfl, _⟩ := h
    rfl
  · obtain ⟨x, ms, m0, b, dg, rfl, hB, hx, hm0, hml, q⟩ := h
    have hS := cBM_st K ms
    have hv : ∀ j σ b H, cBM K ms j σ b H → ∃ v, σ[0]? = some (some v) ∧ Dp K (del H b) v (.tuple ms) := fun _ σ b H hC => hC.2
    have hl1 : ∀ (d : Unit → PyData) j σ b H, cBM K ms j σ b H → ms.length + [d j].length ≤ 1000 := fun d j σ b H _ => by
      show ms.length + 1 ≤ 1000
      omega
    refine ⟨_, pss_cons (ps_set (i := 1) scBadM.nd rfl (.inl rfl) (pe_lst
        (dats_cons (C := cBM K ms) hS (dat_tup (fun _ => Nat.le_of_ble_eq_true rfl) dats_nil)
        (dats_cons hS (dat_list (ds := fun _ => ms) (by rfl) B.list (dat_v 0 hv))
        (dats_cons hS dat_str
        (dats_cons hS dat_non
        (dats_cons hS (dat_cat (ds := fun _ => ms) hS (hl1 _) (dat_v 0 hv) (dat_tup (fun _ => Nat.le_of_ble_eq_true rfl) (dats_cons hS (dat_ix (ds := fun _ => ms) (d := fun _ => m0) (i := 0) (fun _ _ _ _ _ => hm0) (dat_v 0 hv)) dats_nil)))
        (dats_cons hS (dat_cat (ds := fun _ => ms) hS (hl1 _) (dat_v 0 hv) (dat_tup (fun _ => Nat.le_of_ble_eq_true rfl) (dats_cons hS dat_str dats_nil)))
        (dats_cons hS (dat_cat (ds := fun _ => ms) hS (hl1 _) (dat_v 0 hv) (dat_tup (fun _ => Nat.le_of_ble_eq_true rfl) (dats_cons hS dat_str dats_nil)))
        (dats_cons hS (dat_cat (ds := fun _ => ms) hS (hl1 _) (dat_v 0 hv) (dat_tup (fun _ => Nat.le_of_ble_eq_true rfl) (dats_cons hS dat_str dats_nil)))
        (dats_cons hS (dat_cat (ds := fun _ => ms) hS (hl1 _) (dat_v 0 hv) (dat_tup (fun _ => Nat.le_of_ble_eq_true rfl) (dats_cons hS dat_str dats_nil))) dats_nil)))))))))))
      (pss_cons (ps_set (i := 1) scBadM.nd rfl (.inl rfl) (pe_op op_cat (pv 1) (pe_lst
        (dats_cons (C := cBM K ms) hS (dat_cat (ds := fun _ => ms) hS (hl1 _) (dat_v 0 hv) (dat_tup (fun _ => Nat.le_of_ble_eq_true rfl) (dats_cons hS dat_int dats_nil)))
        (dats_cons hS (dat_cat (ds := fun _ => ms) hS (hl1 _) (dat_v 0 hv) (dat_tup (fun _ => Nat.le_of_ble_eq_true rfl) (dats_cons hS (dat_tup (fun _ => Nat.le_of_ble_eq_true rfl) (dats_cons hS dat_str dats_nil)) dats_nil)))
        (dats_cons hS (dat_cat (ds := fun _ => ms) hS (hl1 _) (dat_v 0 hv) (dat_tup (fun _ => Nat.le_of_ble_eq_true rfl) (dats_cons hS dat_str dats_nil))) dats_nil))))))
      (pss_one (ps_ret (pe_op op_cat (pv 1) (pe_lst (dats_cons (C := cBM K ms) (d := fun _ => zsD 17) hS (PE.imp (t := t_zs K 17 2)
        (pe_callTy call_tuple_of (by rfl) B.tuple bt_tuple (pa_cons (pe_lc (own := [("_law_k", 2)]) (g := gName 2) (tt := tYes) rfl scBadM.nd (pi_range1 (by rfl) B.range (pa_cons pe_int pa_nil)) (blkOk_by (own := [("_law_k", 2)]) (N := nBadM) (sc := defScope sBadM) (by decide +kernel))
          (fun _ _ _ _ _ => pg_name (i := 2) scBadM.nd rfl (.inl rfl)) (fun _ _ _ _ _ => pts_nil) (fun _ _ _ _ _ => pe_op op_add_str pe_str (pe_ix ix_str pe_str (pv 2) (fun _ _ => rfl)))) pa_nil))
        fun σ H Q hq => zs_read (by decide) (fun _ b H hC => by rw [hC.1]; decide) hq) dats_nil)))))), ?_⟩
    refine ⟨(), b, dg, hB, ⟨rfl, x, rfl, hx⟩, fun xs H1 s1 h1 => ⟨by rw [dpAll_len h1]; show 9 ≤ sizeLine; decide, fun l nl => ?_⟩⟩
    have hlb := s1.box.ne nl
    have s2 := s1.new (o := .lst xs) nl
    refine ⟨_, rfl, (), b, dg, s2.box, ⟨rfl, x, rfl, dp_same s2.same _ _ hx⟩, fun ys H2 s3 h3 => ⟨by rw [dpAll_len h3]; show 3 ≤ sizeLine; decide, fun l2 nl2 => ?_⟩⟩
    have s4 := s3.new (o := .lst ys) nl2
    have el : upd H2 l2 (.lst ys) l = some (.lst xs) := s4.get hlb upd_same
    refine ⟨l, l2, xs, ys, rfl, rfl, el, upd_same, ?_, fun l3 nl3 => ?_⟩
    · rw [dpAll_len h1, dpAll_len h3]
      show 9 + 3 ≤ sizeLine
      decide
    have hl3b := s4.box.ne nl3
    have s5 := s4.new (o := .lst (xs ++ ys)) nl3
    have s25 := s2.trans s5
    refine ⟨_, rfl, (), b, dg, s5.box, ⟨rfl, x, rfl, dp_same s25.same _ _ hx⟩, fun zs H3 s6 h6 => ⟨by rw [dpAll_len h6]; show 1 ≤ sizeLine; decide, fun l4 nl4 => ?_⟩⟩
    have s7 := s6.new (o := .lst zs) nl4
    have el3 : upd H3 l4 (.lst zs) l3 = some (.lst (xs ++ ys)) := s7.get hl3b upd_same
    refine ⟨l3, l4, xs ++ ys, zs, rfl, rfl, el3, upd_same, ?_, fun p np => ?_⟩
    · rw [List.length_append, dpAll_len h1, dpAll_len h3, dpAll_len h6]
      show 9 + 3 + 1 ≤ sizeLine
      decide
    · have s8 := s7.new (o := .lst (xs ++ ys ++ zs)) np
      refine q p (xs ++ ys ++ zs) _ (s25.trans s8) (new_L s7.box np) ?_
      refine dpAll_app (dpAll_app ?_ ?_) ?_
      · exact dp_sameAll ((((Step.refl s1.box).new nl).trans s5).trans s8).same _ _ h1
      · exact dp_sameAll (((((Step.refl s3.box).new nl2)).new nl3).trans s8).same _ _ h3
      · exact dp_sameAll (((Step.refl s6.box).new nl4).new np).same _ _ h6
end
end NC
set_option maxRecDepth 100000
set_option maxHeartbeats 1000000
namespace NC
open PySem PySem.Spec PyProof.Rows L2
/-! ### the plain walk -/
theorem nodup_lt_len : ∀ (n : Nat) (l : List Nat), l.Nodup → (∀ x ∈ l, x < n) → l.length ≤ n
  | 0, l, _, h => by
    cases l with
    | nil => exact Nat.le_refl _
    | cons a l => exact absurd (h a (by simp)) (Nat.not_lt_zero _)
  | n + 1, l, hn, h => by
    by_cases hm : n ∈ l
    · have h1 : (l.erase n).length ≤ n := nodup_lt_len n (l.erase n) (hn.sublist List.erase_sublist) fun x hx => by
        have h2 := h x (List.mem_of_mem_erase hx)
        have h3 : x ≠ n := fun e => by
          rw [e] at hx
          exact hn.not_mem_erase hx
        omega
      rw [List.length_erase_of_mem hm] at h1
      have : 0 < l.length := List.length_pos_of_mem hm
      omega
    · exact Nat.le_succ_of_le (nodup_lt_len n l hn fun x hx => by
        have h2 := h x hx
        have h3 : x ≠ n := fun e => hm (e ▸ hx)
        omega)
theorem sorted_ext : ∀ (l m : List Int), l.Pairwise (· < ·) → m.Pairwise (· < ·) → (∀ x, x ∈ l ↔ x ∈ m) → l = m
  | [], [], _, _, _ => rfl
  | [], b :: m, _, _, h => absurd ((h b).mpr (by simp)) (by simp)
  | a :: l, [], _, _, h => absurd ((h a).mp (by simp)) (by simp)
  | a :: l, b :: m, h1, h2, h => by
    rw [List.pairwise_cons] at h1 h2
    have e : a = b := by
      have ha := (h a).mp (by simp)
      have hb := (h b).mpr (by simp)
      rcases List.mem_cons.mp ha with z | z
      · exact z
      · rcases List.mem_cons.mp hb with y | y
        · exact y.symm
        · have q1 := h1.1 b y
          have q2 := h2.1 a z
          omega
    subst e
    rw [sorted_ext l m h1.2 h2.2 fun x => ?_]
    constructor
    · intro hx
      rcases List.mem_cons.mp ((h x).mp (List.mem_cons_of_mem _ hx)) with z | z
      · have := h1.1 x hx
        omega
      · exact z
    · intro hx
      rcases List.mem_cons.mp ((h x).mpr (List.mem_cons_of_mem _ hx)) with z | z
      · have := h2.1 x hx
        omega
      · exact z
structure Fnd (rs : List Rdg) (s n : Nat) (fs : List Nat) : Prop where
  nd : fs.Nodup
  st : s ∈ fs
  ok : ∀ m ∈ fs, m < n ∧ Reach rs s m
def Clo (rs : List Rdg) (fs : List Nat) : Prop := ∀ r ∈ rs, r.1 ∈ fs ↔ r.2.1 ∈ fs
theorem clo_all {rs : List Rdg} {s n : Nat} {fs : List Nat} (F : Fnd rs s n fs) (hc : Clo rs fs) {m : Nat} (h : Reach rs s m) : m ∈ fs := by
  induction h with
  | base => exact F.st
  | fwd hr _ ih => exact (hc _ hr).mp ih
  | bwd hr _ ih => exact (hc _ hr).mpr ih
theorem fnd_snoc {rs : List Rdg} {s n : Nat} {fs : List Nat} {y : Nat} (F : Fnd rs s n fs) (hy : y ∉ fs) (hn : y < n) (hr : Reach rs s y) : Fnd rs s n (fs ++ [y]) :=
  ⟨nodup_snoc F.nd hy, List.mem_append_left _ F.st, fun m hm => by
    rcases List.mem_append.mp hm with hm | hm
    · exact F.ok m hm
    · have e : m = y := by simpa using hm
      rw [e]
      exact ⟨hn, hr⟩⟩
/-- in a pass that began at f0 -/
def FPass (rs : List Rdg) (s n : Nat) (f0 : List Nat) (i : Nat) (fs : List Nat) : Prop :=
  Fnd rs s n fs ∧ ((fs = f0 ∧ ∀ r ∈ rs.take i, r.1 ∈ fs ↔ r.2.1 ∈ fs) ∨ (f0.length < fs.length ∧ ¬ Clo rs f0))
theorem fpass_grow {rs : List Rdg} {s n : Nat} {f0 fs : List Nat} {i : Nat} {r : Rdg} {x y : Nat} (h : FPass rs s n f0 i fs) (hr : r ∈ rs) (e : (x = r.1 ∧ y = r.2.1) ∨ (x = r.2.1 ∧ y = r.1)) (hx : x ∈ fs) (hy : y ∉ fs) (hn : y < n) :
    Fnd rs s n (fs ++ [y]) ∧ f0.length < (fs ++ [y]).length ∧ ¬ Clo rs f0 := by
  obtain ⟨F, h⟩ := h
  refine ⟨fnd_snoc F hy hn ?_, ?_, ?_⟩
  · rcases e with ⟨e1, e2⟩ | ⟨e1, e2⟩
    · rw [e2]
      rw [e1] at hx
      exact .fwd hr (F.ok _ hx).2
    · rw [e2]
      rw [e1] at hx
      exact .bwd hr (F.ok _ hx).2
  · rw [List.length_append]
    show _ < _ + 1
    rcases h with ⟨h, _⟩ | ⟨h, _⟩
    · rw [h]
      omega
    · omega
  · rcases h with ⟨h, _⟩ | ⟨_, h⟩
    · intro hc
      rw [h] at hx hy
      rcases e with ⟨e1, e2⟩ | ⟨e1, e2⟩
      · rw [e1] at hx
        rw [e2] at hy
        exact hy ((hc r hr).mp hx)
      · rw [e1] at hx
        rw [e2] at hy
        exact hy ((hc r hr).mpr hx)
    · exact h
theorem fpass_skip {rs : List Rdg} {s n : Nat} {f0 fs : List Nat} {i : Nat} {r : Rdg} (h : FPass rs s n f0 i fs) (hr : rs[i]? = some r) (h1 : ¬ (r.1 ∈ fs ∧ r.2.1 ∉ fs)) (h2 : ¬ (r.2.1 ∈ fs ∧ r.1 ∉ fs)) : FPass rs s n f0 (i + 1) fs := by
  obtain ⟨F, h⟩ := h
  refine ⟨F, ?_⟩
  rcases h with ⟨h, hc⟩ | h
  · refine .inl ⟨h, fun q hq => ?_⟩
    rw [take_snoc hr] at hq
    rcases List.mem_append.mp hq with hq | hq
    · exact hc q hq
    · have e : q = r := by simpa using hq
      rw [e]
      constructor
      · intro hx
        exact Classical.byContradiction fun hy => h1 ⟨hx, hy⟩
      · intro hx
        exact Classical.byContradiction fun hy => h2 ⟨hx, hy⟩
  · exact .inr h
theorem inV_int (z : Nat) (zs : List Nat) : inV (.int (z : Int)) (zs.map fun m : Nat => V.int (m : Int)) = decide (z ∈ zs) := by
  induction zs with
  | nil => rfl
  | cons y zs ih =>
    show (eqV (.int (y : Int)) (.int (z : Int)) || inV (.int (z : Int)) (zs.map fun m : Nat => V.int (m : Int))) = _
    rw [ih]
    show (((y : Int) == (z : Int)) || decide (z ∈ zs)) = _
    rw [Bool.eq_iff_iff, Bool.or_eq_true, beq_iff_eq, decide_eq_true_eq, decide_eq_true_eq, List.mem_cons]
    constructor
    · rintro (h | h)
      · exact .inl (by omega)
      · exact .inr h
    · rintro (h | h)
      · exact .inl (by omega)
      · exact .inr h
theorem all_flatN (zs : List Nat) : (zs.map fun m : Nat => V.int (m : Int)).all flatV = true := by
  rw [List.all_map]
  exact List.all_eq_true.mpr fun _ _ => rfl
theorem compo_sorted (n : Nat) (rs : List Rdg) (s : Nat) : ((compo n rs s).map fun m : Nat => (m : Int)).Pairwise (· < ·) := by
  rw [List.pairwise_map]
  unfold compo
  refine List.Pairwise.filter _ ?_
  refine List.Pairwise.imp ?_ List.pairwise_lt_range
  intro a b h
  omega
theorem sorted_is {rs : List Rdg} {s n : Nat} {fs : List Nat} (F : Fnd rs s n fs) (hc : Clo rs fs) {ns : List Int} (hp : ns.Perm (fs.map fun m : Nat => (m : Int))) (hs : ns.Pairwise (· ≤ ·)) : ns = (compo n rs s).map fun m : Nat => (m : Int) := by
  have hnd : ns.Nodup := by
    rw [hp.nodup_iff, List.nodup_iff_pairwise_ne, List.pairwise_map]
    exact List.Pairwise.imp (fun h e => h (by omega)) F.nd
  refine sorted_ext _ _ ?_ (compo_sorted n rs s) fun x => ?_
  · have h2 := hs.and (List.nodup_iff_pairwise_ne.mp hnd)
    exact List.Pairwise.imp (fun ⟨h1, h2⟩ => by omega) h2
  · rw [hp.mem_iff, List.mem_map, List.mem_map]
    constructor
    · rintro ⟨m, hm, rfl⟩
      exact ⟨m, mem_compo.mpr (F.ok m hm), rfl⟩
    · rintro ⟨m, hm, rfl⟩
      exact ⟨m, clo_all F hc (mem_compo.mp hm).2, rfl⟩
end NC
set_option maxRecDepth 100000
set_option maxHeartbeats 1000000
namespace NC
open PySem PySem.Spec PyProof.Rows L2
theorem scLReach : FnScope ["_law_many", "_law_readings", "_law_start", "_law_found", "_law_turn", "_law_one", "_law_other", "_law_value"] ["_law_many", "_law_readings", "_law_start"] (defScope sLReach) := ⟨rfl, rfl, rfl, by decide +kernel, rfl, by decide +kernel, by decide +kernel⟩
theorem bt_sorted : bootBuiltins "sorted" = some (.builtin "sorted") := by decide +kernel
abbrev natV (l : List Nat) : List V := l.map fun m : Nat => V.int (m : Int)
theorem natV_snoc {l : List Nat} {y : Nat} : natV l ++ [.int (y : Int)] = natV (l ++ [y]) := by
  unfold natV
  rw [List.map_append]
  rfl
/-- if i in found and j not in found: found.append(j) -/
def t_grow (K : PySem.W.Frag) (i j : Nat) : TS := tIfS (tAnd (tTest (tOp (rIn K false) (tVar i) (tVar 3))) (tTest (tOp (rIn K true) (tVar j) (tVar 3)))) (tDrop (tBM K "list" rAppend (tVar 3) (tCons (tVar j) tNil))) tNext
theorem grow_read {K : PySem.W.Frag} {i j x y : Nat} {D : Ends} {σ : L2.St} {H : Hp} {l : Addr} {fs : List Nat} (hx : σ[i]? = some (some (.int (x : Int)))) (hy : σ[j]? = some (some (.int (y : Int)))) (h3 : σ[3]? = some (some (.ref l))) (el : H l = some (.lst (natV fs))) (hl : fs.length ≤ 990)
    (q1 : x ∈ fs → y ∉ fs → D.nx σ (upd H l (.lst (natV (fs ++ [y]))))) (q2 : ¬ (x ∈ fs ∧ y ∉ fs) → D.nx σ H) : t_grow K i j D σ H := by
  refine ⟨_, hx, _, h3, l, _, rfl, .inl (SqL.of el), rfl, all_flatN _, _, rfl, ?_⟩
  show if inV _ _ = true then _ else _
  rw [inV_int]
  by_cases h1 : x ∈ fs
  · rw [decide_eq_true h1]
    refine iteT ⟨_, hy, _, h3, l, _, rfl, .inl (SqL.of el), rfl, all_flatN _, _, rfl, ?_⟩
    show if (!inV _ _) = true then _ else _
    rw [inV_int]
    by_cases h2 : y ∈ fs
    · rw [decide_eq_true h2]
      exact iteF (q2 fun z => z.2 h2)
    · rw [decide_eq_false h2]
      refine iteT ⟨_, h3, .inl ⟨rfl, _, SqL.of el⟩, _, hy, l, _, _, rfl, rfl, el, ?_, ?_⟩
      · rw [List.length_map]
        exact small1000 (by omega)
      · rw [natV_snoc]
        exact q1 h1 h2
  · rw [decide_eq_false h1]
    exact iteF (q2 fun z => h1 z.1)
section
variable {P : Program} {w : World} {K : PySem.W.Frag} {mg : Str → Option Value} {base : Heap}
theorem ok_lreach {f : Addr} {fd : FuncData} (F : Fun K "_law_reached" "_law_reached" sLReach f fd) (B : Blt mg) (ms : mg "sorted" = none) : FnOk P w K mg base CX0 1 f fd ["_law_many", "_law_readings", "_law_start"] (spReach K) := by
  refine F.ok scLReach (fun vs H Q E h => ?_) (fun cdv A outer s₀ H vs Q E hr h => ?_)
  · obtain ⟨x, n, s, rs, rfl, _⟩ := h
    rfl
  · obtain ⟨x, n, s, rs, rfl, hn, hs, hD, hrs, q⟩ := h
    refine ⟨_, pss_cons (ps_set (i := 3) scLReach.nd rfl (.inl rfl) (pe_lst (pa_cons (pv 2) pa_nil)))
      (pss_cons (ps_for PassesOwn.never rfl (pi_range1 (by rfl) B.range (pa_cons (pv 0) pa_nil)) (pg_name (i := 4) scLReach.nd rfl (.inl rfl))
        (pss_one (ps_for PassesOwn.never rfl (pi_tup (pv 1)) (pg_tup rfl (pgs_cons (pg_name (i := 5) scLReach.nd rfl (.inl rfl)) (pgs_cons (pg_name (i := 6) scLReach.nd rfl (.inl rfl)) (pgs_cons (pg_name (i := 7) scLReach.nd rfl (.inl rfl)) pgs_nil))))
          (pss_cons (ps_if (PW.pt (pw_and (pt_cmpR op_in_seq (pv 5) (pv 3) (by rfl)) (pw_and1 (pt_cmpR op_notIn_seq (pv 6) (pv 3) (by rfl)))))
            (pss_one (ps_expr (pe_bm PySem.F.plainAttrs_list PySem.F.slot_list_append PySem.F.type_list_append mt_append (pv 3) (pa_cons (pv 6) pa_nil)))) pss_nil)
          (pss_one (ps_if (PW.pt (pw_and (pt_cmpR op_in_seq (pv 6) (pv 3) (by rfl)) (pw_and1 (pt_cmpR op_notIn_seq (pv 5) (pv 3) (by rfl)))))
            (pss_one (ps_expr (pe_bm PySem.F.plainAttrs_list PySem.F.slot_list_append PySem.F.type_list_append mt_append (pv 3) (pa_cons (pv 5) pa_nil)))) pss_nil))))))
      (pss_one (ps_ret (pe_callTy call_tuple_of (by rfl) B.tuple bt_tuple (pa_cons (pe_callB cr_sortedI (by rfl) ms bt_sorted (pa_cons (pv 3) pa_nil)) pa_nil))))), ?_⟩
    obtain ⟨a, xs, rfl, hS, hA⟩ := dp_tup hD
    have hl : xs.length = rs.length := by rw [dpAll_len hA, List.length_map]
    refine ⟨_, rfl, by show 1 ≤ sizeLine; decide, fun l nl => ?_⟩
    have F0 : Fnd rs s n [s] := ⟨by simp, by simp, fun m hm => by
      have e : m = s := by simpa using hm
      rw [e]
      exact ⟨hs, .base⟩⟩
    refine ⟨_, rfl, n, rfl, by omega, by omega, for_range (lo := 0) (n := n) (fun i σ H' => ∃ y4 y5 y6 y7 fs, σ = [some (.int n), some (.ref a), some (.int s), some (.ref l), y4, y5, y6, y7] ∧ Same H H' ∧ H' l = some (.lst (natV fs)) ∧ Fnd rs s n fs ∧ (Clo rs fs ∨ i + 1 ≤ fs.length))
      ⟨none, none, none, none, [s], rfl, same_upd nl, upd_same, F0, .inr (Nat.le_refl _)⟩ (fun i σ H1 hi hP => ?_) (fun σ H1 hP => ?_)⟩
    · obtain ⟨y4, y5, y6, y7, f0, rfl, sm1, e1, F1, hc1⟩ := hP
      refine ⟨_, rfl, a, rfl, ⟨_, same_T sm1 hS⟩, for_tup (xs := xs) (fun j σ H' => ∃ y5 y6 y7 fs, σ = [some (.int n), some (.ref a), some (.int s), some (.ref l), some (.int (0 + i)), y5, y6, y7] ∧ Same H H' ∧ H' l = some (.lst (natV fs)) ∧ FPass rs s n f0 j fs)
        ⟨y5, y6, y7, f0, rfl, sm1, e1, F1, .inl ⟨rfl, fun r hr => by simp at hr⟩⟩ (fun j σ H' _ ⟨_, _, _, _, _, e, _⟩ => same_T e hS) (fun j y σ H2 hj hP => ?_) (fun σ H2 hP => ?_)⟩
      · obtain ⟨z5, z6, z7, fs, rfl, sm2, e2, hp⟩ := hP
        obtain ⟨d, hd, hyD⟩ := dpAll_get hA hj
        rw [List.getElem?_map] at hd
        obtain ⟨r, hr, rfl⟩ := Option.map_eq_some_iff.mp hd
        obtain ⟨t, rfl, hSt⟩ := dp_rd hyD
        have hrm := List.mem_of_getElem? hr
        have hb := hrs r hrm
        have hfl : fs.length ≤ n := nodup_lt_len n fs hp.1.nd fun m hm => (hp.1.ok m hm).1
        refine ⟨t, _, rfl, same_T sm2 hSt, rfl, _, _, rfl, _, _, rfl, _, _, rfl, rfl, ?_⟩
        refine grow_read (i := 5) (j := 6) (x := r.1) (y := r.2.1) rfl rfl rfl e2 (by omega) (fun h1 h2 => ?_) (fun h12 => ?_)
        · obtain ⟨F3, l3, c3⟩ := fpass_grow hp hrm (.inl ⟨rfl, rfl⟩) h1 h2 hb.2
          have hp3 : FPass rs s n f0 (j + 1) (fs ++ [r.2.1]) := ⟨F3, .inr ⟨l3, c3⟩⟩
          refine grow_read (i := 6) (j := 5) (x := r.2.1) (y := r.1) rfl rfl rfl upd_same (by rw [List.length_append]; show fs.length + 1 ≤ 990; omega) (fun _ h4 => absurd (List.mem_append_left _ h1) h4) (fun _ => ?_)
          exact ⟨_, _, _, _, rfl, same_new sm2 nl, upd_same, hp3⟩
        · refine grow_read (i := 6) (j := 5) (x := r.2.1) (y := r.1) rfl rfl rfl e2 (by omega) (fun h3 h4 => ?_) (fun h34 => ?_)
          · obtain ⟨F3, l3, c3⟩ := fpass_grow hp hrm (.inr ⟨rfl, rfl⟩) h3 h4 hb.1
            exact ⟨_, _, _, _, rfl, same_new sm2 nl, upd_same, F3, .inr ⟨l3, c3⟩⟩
          · exact ⟨_, _, _, _, rfl, sm2, e2, fpass_skip hp hr h12 h34⟩
      · obtain ⟨z5, z6, z7, fs, rfl, sm2, e2, F2, hp⟩ := hP
        refine ⟨_, z5, z6, z7, fs, rfl, sm2, e2, F2, ?_⟩
        rcases hp with ⟨h1, h2⟩ | ⟨h1, h2⟩
        · rw [hl, List.take_length] at h2
          exact .inl h2
        · rcases hc1 with hc1 | hc1
          · exact absurd hc1 h2
          · exact .inr (by omega)
    · obtain ⟨y4, y5, y6, y7, fs, rfl, sm1, e1, F1, hc1⟩ := hP
      have hfl : fs.length ≤ n := nodup_lt_len n fs F1.nd fun m hm => (F1.ok m hm).1
      have hc : Clo rs fs := hc1.resolve_right (by omega)
      have e1' : H1 l = some (.lst ((fs.map fun m : Nat => (m : Int)).map V.int)) := by
        rw [List.map_map]
        exact e1
      refine ⟨_, rfl, l, fs.map fun m : Nat => (m : Int), rfl, SqL.of e1', fun ns p hpm hps np => ?_⟩
      refine ⟨p, _, rfl, .inl ⟨SqL.of upd_same, fun p2 np2 => ?_⟩⟩
      have sm2 : Same H (upd H1 p (.lst (ns.map V.int))) := same_new sm1 (sm1.free np)
      refine q _ p2 (same_new sm2 (sm2.free np2)) (sm2.free np2) ?_
      rw [upd_same, sorted_is F1 hc hpm hps, List.map_map]
      rfl
end
end NC
set_option maxRecDepth 100000
set_option maxHeartbeats 1000000
namespace NC
open PySem PySem.Spec PyProof.Rows L2
/-! ### defs of which is known that no repr is under way where they are called -/
structure FnOkG (P : Program) (w : World) (K : PySem.W.Frag) (mg : Str → Option Value) (base : Heap) (CX : CXT)
    (k : Nat) (f : Addr) (fd : FuncData) (ps : List Str) (sp : Sp) : Prop where
  len : ∀ vs H Q E, sp vs H Q E → vs.length = ps.length
  run : ∀ (A : Around) (outer : List Env) (s : Shared) (H : Hp) (args : Args) (us : List Value) (vs : List V) (Q : VK) (E : XK),
    A.guards = some [] → Room k A → Env0 P w K mg base A outer s H → BindsTo s fd args (ps.zip us) → Vals vs us → sp vs H Q E →
      codeAny (model P w) A (.call (.ref f) args) (CR CX outer P w H s Q E) s
section
variable {P : Program} {w : World} {K : PySem.W.Frag} {mg : Str → Option Value} {base : Heap}
theorem okG {x qual : Str} {st : Stmt} {f : Addr} {fd : FuncData} {N ps : List Str} {k : Nat} {sp : Sp} (F : Fun K x qual st f fd) (S : FnScope N ps (defScope st))
    (len : ∀ vs H Q E, sp vs H Q E → vs.length = ps.length)
    (hbody : ∀ (cdv : Value) (A : Around) (outer : List Env) (s : Shared) (H : Hp) (vs : List V) (Q : VK) (E : XK), A.guards = some [] →
      Room k (A.deeper (envOfC qual (defScope st) s.heap.objs.size f cdv)) → sp vs H Q E →
      ∃ t, PSs (cxOf CX0 P w K mg base N qual (defScope st) f cdv A outer s H E).nox (defBody st) t ∧
        t { nx := fun _ H' => Q .non H', rt := Q } (L2.start N vs) H) :
    FnOkG P w K mg base CX0 (k + 1) f fd ps sp := by
  obtain ⟨oc, od, kV, doc, pm, an, cdv, ct, osl, rfl, lk, hcd⟩ := F.ex
  -- fn_of's own theorem, with the promise narrowed to the one around A
  refine ⟨len, fun A outer s H args us vs Q E hg hr e0 hb r hsp => ?_⟩
  have hl := len _ _ _ _ hsp
  have stay : ∀ b o, base.get? b = some o → s.heap.get? b = some o := fun b o e => (e0.bs b o e).1
  have KX : K.In s.heap := e0.mod.kin.keeps stay
  refine codeAny_call_function hr.depth (KX _ _ lk) rfl S.co S.gen rfl (PySem.W.codeRec_of KX hcd) (hb _ _ _ _ ?_)
  refine wpAny_newFunctionEnv_cells S.kind (fun y hy => ?_) fun env he s1 x => ?_
  · rcases S.par y.1 (List.of_mem_zip (show (y.1, y.2) ∈ ps.zip us from hy)).1 with q | q
    · exact .inl q
    · exact .inr ⟨q, PySem.W.cellsFrom_some _ _ _ (.inl q)⟩
  subst he
  refine ⟨(e0.mod.nolimit.keeps stay).keeps x.toInCall.keep, codeAny_func ?_⟩
  obtain ⟨t, ht, hq⟩ := hbody cdv A outer s H vs Q E hg (hr.deeper _) hsp
  have I := inv_start (CX := CX0) (E := E) S hr.hd e0 hl r x
  refine wpAny_mono (ht.nox.run [] s1 (L2.start N vs) H _ I hq) (fun fl s' hs => ?_) fun e s' hs => hs
  cases fl with
  | ret u =>
    obtain ⟨v, _, H', J, rv, q⟩ := hs
    exact ⟨v, H', J.os, J.bare, J.base, J.hok, rv, q⟩
  | next =>
    obtain ⟨_, H', J, q⟩ := hs
    exact ⟨.non, H', J.os, J.bare, J.base, J.hok, rfl, q⟩
  | brk => exact False.elim hs.choose_spec.choose_spec.2
  | cont => exact False.elim hs.choose_spec.choose_spec.2
end
section
variable {X : Cx} {k : Nat} {f : Addr} {fd : FuncData} {ps : List Str} {sp : Sp} {x : Str} {p pos : Pos} {e : Expr} {es : List Expr} {t : TA}
theorem pe_callG (F : FnOkG X.prog X.w X.K X.mg X.base CX0 k f fd ps sp) (hgd : X.A.guards = some []) (hr : Room k X.A) (hg : Gl X x) (hm : X.mg x = some (.ref f)) (hk : PySem.W.keepIn X.K (.ref f) = true) (hb : Binds X.K fd ps [])
    (ha : PA X (e :: es) t) (hdb : (x == ("__debug__" : Str)) = false := by decide) (he : starEach (e :: es) X.env = (false, eval e X.env) :: starEach es X.env := by rfl)
    (hpl : (backTo pos (starEach es X.env)).any (·.1) = false := by rfl) :
    PE X (.Call (.Name x p) (e :: es) [] pos) (tCall sp [] E0 t) := by
  refine ⟨fun pins s σ H Q I h => wpAny_Call_Name_kw (ld_glob I hg hm ?_ hdb)⟩
  refine PySem.W.callWith_K (h₀ := X.base) I.ok.mod.kin hk (thn (ha.run pos pins s σ H _ I h) fun us s1 ⟨vs, H1, I1, r, q⟩ => ⟨I1.kIn, ?_⟩) he hpl
  have q' : sp vs H1 Q E0 := by
    have z : sp (vs ++ []) H1 Q E0 := q
    rw [List.append_nil] at z
    exact z
  have hl : us.length = ps.length := r.length.symm.trans (F.len _ _ _ _ q')
  have b := hb s1 us I1.kIn (by rw [List.append_nil]; exact hl)
  rw [List.append_nil] at b
  refine wpAny_call (codeAny_mono (F.run X.A X.stack s1 H1 ⟨us, []⟩ us vs Q E0 hgd hr I1.env0 b r q') fun res s2 hq => ?_)
  cases res with
  | error er => exact False.elim hq
  | ok fl =>
    cases fl with
    | ret u => exact I1.after hq
    | next => exact False.elim hq
    | brk => exact False.elim hq
    | cont => exact False.elim hq
end
end NC
set_option maxRecDepth 100000
set_option maxHeartbeats 1000000
namespace NC
open PySem PySem.Spec PyProof.Rows L2
theorem scSame : FnScope ["_law_actual", "_law_due"] ["_law_actual", "_law_due"] (defScope sSame) := ⟨rfl, rfl, rfl, by decide +kernel, rfl, by decide +kernel, by decide +kernel⟩
theorem bt_repr : bootBuiltins "repr" = some (.builtin "repr") := by decide +kernel
def natsL (l : List Nat) : List PyData := l.map fun m : Nat => PyData.int (m : Int)
def natsD (l : List Nat) : PyData := .tuple (natsL l)
theorem nats_depth : ∀ l : List Nat, PyData.depthAll (natsL l) ≤ 1
  | [] => by
    show PyData.depthAll [] ≤ 1
    simp [PyData.depthAll]
  | m :: l => by
    have ih := nats_depth l
    show PyData.depthAll (.int (m : Int) :: natsL l) ≤ 1
    simp only [PyData.depthAll, PyData.depth]
    omega
theorem nats_show : ∀ l : List Nat, (∀ m ∈ l, m < 10) → PyData.showableAll (natsL l) = true
  | [], _ => rfl
  | m :: l, h => by
    have ih := nats_show l fun x hx => h x (List.mem_cons_of_mem _ hx)
    have hm := h m (by simp)
    show (decide (((m : Int)).natAbs.log2 < 1920) && PyData.showableAll (natsL l)) = true
    rw [ih, Bool.and_true, decide_eq_true_eq]
    have e : ((m : Int)).natAbs = m := rfl
    rw [e]
    by_cases h0 : m = 0
    · rw [h0]
      decide
    · have := Nat.log2_lt h0 (k := 1920)
      exact this.mpr (Nat.lt_of_lt_of_le hm (by decide +kernel))
theorem nats_dict : ∀ l : List Nat, PyData.hasDictAll (natsL l) = false
  | [] => rfl
  | m :: l => by
    show (PyData.hasDict (.int (m : Int)) || PyData.hasDictAll (natsL l)) = false
    rw [nats_dict l]
    rfl
theorem digit_len : ∀ m : Nat, m < 10 → (toString (m : Int) : Str).length ≤ 2 := by decide +kernel
theorem nats_piled : ∀ l : List Nat, (∀ m ∈ l, m < 10) → piled (PyData.shownAll (natsL l)) ≤ 4 * l.length
  | [], _ => Nat.zero_le _
  | m :: l, h => by
    have ih := nats_piled l fun x hx => h x (List.mem_cons_of_mem _ hx)
    have hm := digit_len m (h m (by simp))
    show piled ((toString (m : Int) : Str) :: PyData.shownAll (natsL l)) ≤ 4 * (l.length + 1)
    rw [piled_cons]
    omega
def plainD (d : PyData) : Prop := (∃ b, d = .bool b) ∨ ∃ l : List Nat, d = natsD l ∧ l.length ≤ 100 ∧ ∀ m ∈ l, m < 10
def rRep (K : PySem.W.Frag) : List V → Hp → VK → Prop := fun xs H Q => ∃ x d, xs = [x] ∧ Dp K H x d ∧ plainD d ∧ Q (.str d.shown) H
theorem call_reprD {X : Cx} (hgd : X.A.guards = some []) (hu : X.A.units + 64 < cLine) : CallR X (.builtin "repr") (rRep X.K) := by
  intro pins s σ H xs us Q I r h
  obtain ⟨x, d, rfl, hD, hp, q⟩ := h
  obtain ⟨u, rfl, ru⟩ := vals1 r
  rcases hp with ⟨k, rfl⟩ | ⟨l, rfl, hl, hm⟩
  · cases hD
    cases ru
    refine PySem.P.repr_of_bool ⟨.str _, H, I.tok _, ⟨_, rfl⟩, ?_⟩
    exact q
  · obtain ⟨as, rd⟩ := Dp.reads I _ x u hD ru
    cases hD with
    | @tup a xs _ _ _ =>
      obtain rfl : u = Value.ref a := ru
      refine repr_of_reads' rd (nats_show l hm) (PyData.noDict_hsm (nats_dict l)) hgd ?_ (fun _ _ e => e) (fun h' t tk keep => ⟨.str _, H, I.kept (t' := tk) keep, ⟨t, rfl⟩, q⟩) ?_
      · have hd := nats_depth l
        show X.A.units + (PyData.depth (.tuple (natsL l)) + 1) < cLine
        simp only [PyData.depth]
        omega
      · have h1 := nats_piled l hm
        have h2 := fmt_text (PyData.shownAll (natsL l))
        show (tupleText (PyData.shownAll (natsL l))).length ≤ sizeLine
        exact Nat.le_of_lt (small1000 (by omega))
section
variable {P : Program} {w : World} {K : PySem.W.Frag} {mg : Str → Option Value} {base : Heap}
def spSame (K : PySem.W.Frag) : Sp := fun vs H Q _ => ∃ x y d, vs = [x, y] ∧ Dp K H x d ∧ Dp K H y d ∧ plainD d ∧ Q (.bl true) H
theorem ok_same {f : Addr} {fd : FuncData} (F : Fun K "_law_same" "_law_same" sSame f fd) (mr : mg "repr" = none) : FnOkG P w K mg base CX0 1 f fd ["_law_actual", "_law_due"] (spSame K) := by
  refine okG F scSame (fun vs H Q E h => ?_) (fun cdv A outer s₀ H vs Q E hg hr h => ?_)
  · obtain ⟨x, y, d, rfl, _⟩ := h
    rfl
  · obtain ⟨x, y, d, rfl, hx, hy, hp, q⟩ := h
    refine ⟨_, pss_one (ps_ret (pe_cmpR op_eq (pe_callB (call_reprD hg hr.units) (by rfl) mr bt_repr (pa_cons (pv 0) pa_nil)) (pe_callB (call_reprD hg hr.units) (by rfl) mr bt_repr (pa_cons (pv 1) pa_nil)) (nomark _))), ?_⟩
    refine ⟨_, rfl, x, d, rfl, hx, hp, _, rfl, y, d, rfl, hy, hp, rfl, ?_⟩
    rw [decide_eq_true rfl]
    exact q
end
end NC
set_option maxRecDepth 100000
set_option maxHeartbeats 1000000
namespace NC
open PySem PySem.Spec PyProof.Rows L2
/-! ### what the law asks, over data -/
def namesL (n t : Nat) : List PyData := (List.range n).map fun k => .str (mkS (t + k))
def netP (n t : Nat) (d : PyData) : PyData := .tuple [.str "net", .tuple (namesL n t), d]
def oddD : PyData := .tuple [.int 0, .str "not a net"]
def notJ : PyData := .tuple [.int 0, .str "not joined"]
theorem names_ok : ∀ t, t < 20 → ∀ n, n < 7 → 1 ≤ n → marksB (.tuple (namesL n t)) = true := by decide +kernel
theorem zs16_ok : marksB (zsD 16) = true := by decide +kernel
theorem bad_marks_ok : ∀ t, t < 20 → ∀ n, n < 7 → 1 ≤ n → (badMarks (namesL n t) (.str (mkS t))).all (fun d => !marksB d) = true := by decide +kernel
theorem bad_reads_ok : ∀ n : Nat, n < 7 → 1 ≤ n → (badReads (n : Int)).all (fun d => !readingB (n : Int) d) = true := by decide +kernel
def fitDB : PyData → Bool | .str z => decide (z.length ≤ 1000) | _ => true
theorem fit_of {d : PyData} (h : fitDB d = true) : fitD d := by
  cases d with
  | str z =>
    show z.length ≤ 1000
    exact of_decide_eq_true h
  | _ => trivial
def fitMB : PyData → Bool | .tuple ds => ds.all fitDB | _ => true
theorem fit_bad_ok : ∀ t, t < 20 → ∀ n, n < 7 → (badMarks (namesL n t) (.str (mkS t))).all fitMB = true := by decide +kernel
theorem fit_names_ok : ∀ t, t < 20 → ∀ n, n < 7 → fitMB (.tuple (namesL n t)) = true := by decide +kernel
theorem fit_net {a m r : PyData} (h : fitMB m = true) : fitNet (.tuple [a, m, r]) := by
  intro z m' r' e ds em x hx
  cases e
  subst em
  exact fit_of (List.all_eq_true.mp h x hx)
theorem fit_no {d : PyData} (h : ∀ z m r, d ≠ .tuple [z, m, r]) : fitNet d := fun z m r e => absurd e (h z m r)
theorem told_odd {d : PyData} (h : shapedB d = false) : toldD d = oddD := by
  unfold toldD wordD
  rw [if_neg (by rw [h]; decide)]
  rfl
theorem told_ok {d : PyData} (h : shapedB d = true) (hj : joinedB d = true) : toldD d = .str "" := by
  unfold toldD wordD
  rw [if_pos h, if_pos hj]
theorem told_notj {d : PyData} (h : shapedB d = true) (hj : joinedB d = false) : toldD d = notJ := by
  unfold toldD wordD
  rw [if_pos h, if_neg (by rw [hj]; decide)]
  rfl
theorem rdsD_is (rs : List Rdg) : rdsD (.tuple (rs.map rdD)) = rs := by
  show (rs.map rdD).map rdOf = rs
  rw [List.map_map]
  conv => rhs; rw [← List.map_id rs]
  refine List.map_congr_left fun r _ => ?_
  show ((((r.1 : Int)).toNat, ((r.2.1 : Int)).toNat, r.2.2) : Rdg) = r
  rfl
/-- of a net of ours: within the bounds -/
def OkV (n : Nat) (rs : List Rdg) : Prop := ∀ r ∈ rs, r.1 < n ∧ r.2.1 < n ∧ r.1 ≠ r.2.1 ∧ -1000000 ≤ r.2.2 ∧ r.2.2 ≤ 1000000
theorem OkR.v {n : Nat} {rs : List Rdg} (h : OkR n rs) : OkV n rs := fun r hr => by
  obtain ⟨h1, h2, h3, h4, h5⟩ := h r hr
  exact ⟨h1, h2, h3, by omega, by omega⟩
theorem readingB_ok {n : Nat} {r : Rdg} (h : r.1 < n ∧ r.2.1 < n ∧ r.1 ≠ r.2.1 ∧ -1000000 ≤ r.2.2 ∧ r.2.2 ≤ 1000000) : readingB (n : Int) (rdD r) = true := by
  obtain ⟨h1, h2, h3, h4, h5⟩ := h
  show (intB 0 ((n : Int) - 1) (.int (r.1 : Int)) && (intB 0 ((n : Int) - 1) (.int (r.2.1 : Int)) && (neInt (.int (r.1 : Int)) (.int (r.2.1 : Int)) && intB (-1000000) 1000000 (.int r.2.2)))) = true
  simp only [intB, neInt, Bool.and_eq_true, decide_eq_true_eq, Bool.not_eq_true', decide_eq_false_iff_not]
  exact ⟨⟨by omega, by omega⟩, ⟨by omega, by omega⟩, by omega, h4, h5⟩
theorem readingsB_ok {n : Nat} {rs : List Rdg} (h : OkV n rs) (hl : rs.length ≤ 80) : readingsB (n : Int) (.tuple (rs.map rdD)) = true := by
  show (decide ((rs.map rdD).length ≤ 80) && (rs.map rdD).all (readingB (n : Int))) = true
  rw [List.length_map, decide_eq_true hl, Bool.true_and, List.all_map]
  exact List.all_eq_true.mpr fun r hr => readingB_ok (h r hr)
theorem shaped_net {n t : Nat} {d : PyData} (ht : t < 20) (h1 : 1 ≤ n) (h6 : n ≤ 6) (h : readingsB (n : Int) d = true) : shapedB (netP n t d) = true := by
  have hl : lenN (.tuple (namesL n t)) = n := by
    show (namesL n t).length = n
    unfold namesL
    rw [List.length_map, List.length_range]
  show (isNetW (.str "net") && (marksB (.tuple (namesL n t)) && readingsB (lenN (.tuple (namesL n t)) : Int) d)) = true
  rw [names_ok t ht n (by omega) h1, hl, h]
  rfl
theorem unshaped_net {n t : Nat} {d : PyData} (h : readingsB (n : Int) d = false) : shapedB (netP n t d) = false := by
  have hl : lenN (.tuple (namesL n t)) = n := by
    show (namesL n t).length = n
    unfold namesL
    rw [List.length_map, List.length_range]
  show (isNetW (.str "net") && (marksB (.tuple (namesL n t)) && readingsB (lenN (.tuple (namesL n t)) : Int) d)) = false
  rw [hl, h, Bool.and_false, Bool.and_false]
theorem joined_net {n t : Nat} {rs : List Rdg} : joinedB (netP n t (.tuple (rs.map rdD))) = decide ((compo n rs 0).length = n) := by
  have hl : lenN (.tuple (namesL n t)) = n := by
    show (namesL n t).length = n
    unfold namesL
    rw [List.length_map, List.length_range]
  show decide ((compo (lenN (.tuple (namesL n t))) (rdsD (.tuple (rs.map rdD))) 0).length = lenN (.tuple (namesL n t))) = _
  rw [hl, rdsD_is]
theorem link_reach {rs : List Rdg} {n : Nat} (h : Link rs n) : ∀ m, m < n → Reach rs 0 m := by
  intro m
  induction m using Nat.strongRecOn with
  | ind m ih =>
    intro hm
    by_cases h0 : m = 0
    · rw [h0]
      exact .base
    · obtain ⟨r, hr, j, hj, e⟩ := h m (by omega) hm
      have hR := ih j hj (by omega)
      rcases e with ⟨e1, e2⟩ | ⟨e1, e2⟩
      · rw [← e2]
        rw [← e1] at hR
        exact .fwd hr hR
      · rw [← e1]
        rw [← e2] at hR
        exact .bwd hr hR
/-- 1. the net itself -/
theorem told_net {n t : Nat} {rs : List Rdg} (ht : t < 20) (h1 : 1 ≤ n) (h6 : n ≤ 6) (hv : OkV n rs) (hl : rs.length ≤ 80) (hk : ∀ m, m < n → Reach rs 0 m) : toldD (netP n t (.tuple (rs.map rdD))) = .str "" :=
  told_ok (shaped_net ht h1 h6 (readingsB_ok hv hl)) (by rw [joined_net]; exact decide_eq_true (compo_full.mpr hk))
/-- 2. spoilt marks -/
theorem told_badm {n t : Nat} {d : PyData} (ht : t < 20) (h1 : 1 ≤ n) (h6 : n ≤ 6) (hd : d ∈ badMarks (namesL n t) (.str (mkS t))) : toldD (.tuple [.str "net", d, .tuple []]) = oddD := by
  refine told_odd ?_
  have h := List.all_eq_true.mp (bad_marks_ok t ht n (by omega) h1) d hd
  show (isNetW (.str "net") && (marksB d && readingsB (lenN d : Int) (.tuple []))) = false
  rw [show marksB d = false by simpa using h, Bool.false_and, Bool.and_false]
/-- 3. a spoilt reading -/
theorem told_badr {n t k : Nat} {d : PyData} {ds : List PyData} (h1 : 1 ≤ n) (h6 : n ≤ 6) (hd : d ∈ badReads (n : Int)) : toldD (netP n t (.tuple (ds.take k ++ [d] ++ ds.drop k))) = oddD := by
  refine told_odd (unshaped_net ?_)
  have h := List.all_eq_true.mp (bad_reads_ok n (by omega) h1) d hd
  show (_ && (ds.take k ++ [d] ++ ds.drop k).all (readingB (n : Int))) = false
  rw [List.all_append, List.all_append, List.all_cons, show readingB (n : Int) d = false by simpa using h]
  simp
/-- 5. more than eighty -/
theorem told_long {n t : Nat} {ds : List PyData} (h : 80 < ds.length) : toldD (netP n t (.tuple ds)) = oddD := by
  refine told_odd (unshaped_net ?_)
  show (decide (ds.length ≤ 80) && _) = false
  rw [decide_eq_false (by omega), Bool.false_and]
/-- 6. fewer readings -/
theorem told_less {n t : Nat} {rs : List Rdg} (ht : t < 20) (h1 : 1 ≤ n) (h6 : n ≤ 6) (hv : OkV n rs) (hl : rs.length ≤ 80) : toldD (netP n t (.tuple (rs.map rdD))) = if (compo n rs 0).length = n then .str "" else notJ := by
  by_cases h : (compo n rs 0).length = n
  · rw [if_pos h]
    exact told_ok (shaped_net ht h1 h6 (readingsB_ok hv hl)) (by rw [joined_net]; exact decide_eq_true h)
  · rw [if_neg h]
    exact told_notj (shaped_net ht h1 h6 (readingsB_ok hv hl)) (by rw [joined_net]; exact decide_eq_false h)
/-- 7. sixteen marks without readings -/
theorem reach_nil {s m : Nat} (h : Reach [] s m) : m = s := by
  cases h with
  | base => rfl
  | fwd hr _ => cases hr
  | bwd hr _ => cases hr
theorem told_16 : toldD (.tuple [.str "net", zsD 16, .tuple []]) = notJ := by
  refine told_notj ?_ ?_
  · show (isNetW (.str "net") && (marksB (zsD 16) && readingsB (lenN (zsD 16) : Int) (.tuple []))) = true
    rw [zs16_ok]
    rfl
  · show decide ((compo (lenN (zsD 16)) (rdsD (.tuple [])) 0).length = lenN (zsD 16)) = false
    have e : lenN (zsD 16) = 16 := by decide +kernel
    rw [e]
    refine decide_eq_false fun h => ?_
    have := reach_nil (compo_full.mp h 1 (by decide))
    omega
end NC
set_option maxRecDepth 100000
set_option maxHeartbeats 2000000
namespace NC
open PySem PySem.Spec PyProof.Rows L2
abbrev nLaw : List Str := ["_law_script", "_law_box", "_law_net_here", "_law_marks_here", "_law_many", "_law_odd", "_law_bad", "_law_at", "_law_wrong", "_law_thing", "_law_edge", "_law_size", "_law_full", "_law_less", "_law_found", "_law_start", "_law_reading_here", "_law_k"]
theorem scLaw : FnScope nLaw ["_law_script"] (defScope sLaw) := ⟨rfl, rfl, rfl, by decide +kernel, rfl, by decide +kernel, by decide +kernel⟩
theorem T_del {K : PySem.W.Frag} {H : Hp} {a b dg : Addr} {xs : List V} (hB : BoxAt H b dg) (h : SqT K H a xs) : SqT K (del H b) a xs := by
  obtain ⟨k, e, _⟩ := hB.bx
  rcases h with (h | ⟨o, h⟩) | h
  · exact .inl (.inl (del_get (fun z => by rw [z, e] at h; cases h) h))
  · exact .inl (.inr ⟨o, del_get (fun z => by rw [z, e] at h; cases h) h⟩)
  · exact .inr h
theorem told_del {K : PySem.W.Frag} {H : Hp} {b dg : Addr} {v : V} {d : PyData} (hB : BoxAt H b dg) (h : Dp K H v (toldD d)) : Dp K (del H b) v (toldD d) := by
  unfold toldD at h ⊢
  split at h
  · cases h
    exact .str _
  · obtain ⟨a, xs, rfl, hx, hA⟩ := dp_tup h
    refine .tup (T_del hB hx) ?_
    cases hA with
    | cons h1 hA =>
      cases hA with
      | cons h2 hA =>
        cases h1
        cases h2
        cases hA
        exact .cons (.int _) (.cons (.str _) .nil)
theorem shp_str {z : Str} (h : PyData.strOk z = true) : SeqAt.shaped (.str z) = true := by
  simp [SeqAt.shaped, PyData.canLay0, PyData.depth, h]
theorem shp_pair {z : Str} (h : PyData.strOk z = true) : SeqAt.shaped (.tuple [.int 0, .str z]) = true := by
  simp [SeqAt.shaped, PyData.canLay0, PyData.canLayAll0, PyData.depth, PyData.depthAll, h]
theorem shp_e : SeqAt.shaped (.str "") = true := shp_str (by decide +kernel)
theorem shp_odd : SeqAt.shaped oddD = true := shp_pair (by decide +kernel)
theorem shp_notj : SeqAt.shaped notJ = true := shp_pair (by decide +kernel)
theorem told_shaped (d : PyData) : SeqAt.shaped (toldD d) = true := by
  unfold toldD wordD
  split
  · exact shp_e
  · rename_i z e
    split at e
    · split at e
      · cases e
      · cases e
        exact shp_notj
    · cases e
      exact shp_odd
theorem ne_skip {A B : PyData} {T U : Prop} (h : PyData.eqv A B = true) (u : U) : if (!PyData.eqv A B) = true then T else U := by
  rw [h]
  exact iteF u
section
variable {ι : Type} {X : Cx} {C : Cnd ι} {d1 d2 d0 : ι → PyData} {e1 e2 e0 : Expr} {f : Addr} {fd : FuncData} {p p2 pos : Pos}
def tNe (K : PySem.W.Frag) (C : Cnd ι) (d1 d2 : ι → PyData) : TT := fun σ H Q => ∃ j b dg, BoxAt H b dg ∧ C j σ b H ∧ fitNet (d1 j) ∧ SeqAt.shaped (d2 j) = true ∧ ∀ H', Step b dg H H' → Q (!PyData.eqv (toldD (d1 j)) (d2 j)) H'
theorem pt_told (G : Cal X.prog X.w X.K X.mg X.base CX0 6 "_law_told" f fd ["_law_net_here"] (spTold X.K)) (hr : Room 6 X.A) (hS : Stab C) (h1 : PE X e1 (tDat X.K C d1)) (h2 : PE X e2 (tDat X.K C d2)) (hg : Gl X "_law_told" := by rfl)
    (he : starEach (e1 :: []) X.env = (false, eval e1 X.env) :: starEach [] X.env := by rfl) : PT X (.Compare (.Call (.Name "_law_told" p) [e1] [] p2) [.NotEq] [e2] pos) (tNe X.K C d1 d2) :=
  PT.imp (pt_cmpR (op_neD hr.units) (pe_call G.ok hr hg G.g G.kp G.b .nil pass0 (pa_cons h1 pa_nil he) (he := he)) h2 (nomark _)) fun σ H Q ⟨j, b, dg, hB, hC, hf, hs, q⟩ =>
    ⟨j, b, dg, hB, hC, fun x H1 s1 hx => ⟨x, d1 j, rfl, dp_same del_sub _ _ hx, hf, fun H2 v sm hv => by
      have s2 := s1.trans (.of s1.box sm)
      exact ⟨j, b, dg, s2.box, hS _ _ _ _ _ _ hC s2, fun y H3 s3 hy => ⟨toldD (d1 j), d2 j, dp_same del_sub _ _ (dp_same s3.same _ _ (told_del s2.box hv)), dp_same del_sub _ _ hy, told_shaped _, hs, _, rfl, q H3 (s2.trans s3)⟩⟩⟩⟩
def tEq (K : PySem.W.Frag) (C : Cnd ι) (d1 d2 : ι → PyData) : TE := fun σ H Q => ∃ j b dg, BoxAt H b dg ∧ C j σ b H ∧ fitNet (d1 j) ∧ SeqAt.shaped (d2 j) = true ∧ ∀ H', Step b dg H H' → Q (.bl (PyData.eqv (toldD (d1 j)) (d2 j))) H'
theorem pe_told (G : Cal X.prog X.w X.K X.mg X.base CX0 6 "_law_told" f fd ["_law_net_here"] (spTold X.K)) (hr : Room 6 X.A) (hS : Stab C) (h1 : PE X e1 (tDat X.K C d1)) (h2 : PE X e2 (tDat X.K C d2)) (hg : Gl X "_law_told" := by rfl)
    (he : starEach (e1 :: []) X.env = (false, eval e1 X.env) :: starEach [] X.env := by rfl) : PE X (.Compare (.Call (.Name "_law_told" p) [e1] [] p2) [.Eq] [e2] pos) (tEq X.K C d1 d2) :=
  PE.imp (pe_cmpR (op_eqD hr.units) (pe_call G.ok hr hg G.g G.kp G.b .nil pass0 (pa_cons h1 pa_nil he) (he := he)) h2 (nomark _)) fun σ H Q ⟨j, b, dg, hB, hC, hf, hs, q⟩ =>
    ⟨j, b, dg, hB, hC, fun x H1 s1 hx => ⟨x, d1 j, rfl, dp_same del_sub _ _ hx, hf, fun H2 v sm hv => by
      have s2 := s1.trans (.of s1.box sm)
      exact ⟨j, b, dg, s2.box, hS _ _ _ _ _ _ hC s2, fun y H3 s3 hy => ⟨toldD (d1 j), d2 j, dp_same del_sub _ _ (dp_same s3.same _ _ (told_del s2.box hv)), dp_same del_sub _ _ hy, told_shaped _, hs, q H3 (s2.trans s3)⟩⟩⟩⟩
/-- a test whose answer the condition tells -/
def tBl (C : Cnd ι) (c : ι → Bool) : TE := fun σ H Q => ∃ j b dg, BoxAt H b dg ∧ C j σ b H ∧ Q (.bl (c j)) H
/-- [d0, d1][int(test)] -/
theorem dat_pick {c : ι → Bool} {et : Expr} {p3 p4 : Pos} (hS : Stab C) (hg : Gl X "int") (hm : X.mg "int" = none) (h0 : PE X e0 (tDat X.K C d0)) (h1 : PE X e1 (tDat X.K C d1)) (ht : PE X et (tBl C c))
    (hst : starEach [e0, e1] X.env = (false, eval e0 X.env) :: starEach [e1] X.env := by rfl) (hst2 : starEach [e1] X.env = (false, eval e1 X.env) :: starEach [] X.env := by rfl) (he : starEach [et] X.env = (false, eval et X.env) :: starEach [] X.env := by rfl) :
    PE X (.Subscript (.List [e0, e1] p4) (.Call (.Name "int" p3) [et] [] p2) pos) (tDat X.K C fun j => if c j = true then d1 j else d0 j) :=
  PE.imp (pe_ix ix_list (dat_lst (fun _ => Nat.le_of_ble_eq_true rfl) (dats_cons hS h0 (dats_cons hS h1 dats_nil hst2) hst)) (pe_callTy call_int1 hg hm bt_int (pa_cons ht pa_nil he) (he := he)) (fun _ _ => rfl)) fun σ H Q ⟨j, b, dg, hB, hC, q⟩ =>
    ⟨j, b, dg, hB, hC, fun x H1 s1 hx => ⟨j, b, dg, s1.box, hS _ _ _ _ _ _ hC s1, .inr ⟨c j, rfl, by
      cases hx with
      | @lst a xs _ hxs hA =>
        cases hA with
        | @cons v0 _ _ _ hv0 hA =>
          cases hA with
          | @cons v1 _ _ _ hv1 hA =>
            cases hA
            have hL : SqL X.K H1 a [v0, v1] := del_sub.seq hxs
            cases hc : c j with
            | true =>
              refine ⟨a, _, 1, v1, rfl, rfl, hL, atI_nat (j := 1) rfl, q v1 H1 s1 ?_⟩
              show Dp _ _ v1 (if c j = true then d1 j else d0 j)
              rw [hc]
              exact hv1
            | false =>
              refine ⟨a, _, 0, v0, rfl, rfl, hL, atI_nat (j := 0) rfl, q v0 H1 s1 ?_⟩
              show Dp _ _ v0 (if c j = true then d1 j else d0 j)
              rw [hc]
              exact hv0⟩⟩⟩
end
/-! ### what the law's slots hold -/
structure LI where
  n : Nat
  t : Nat
  rs : List Rdg
  d : PyData := .none
  k : Nat := 0
  ls : List Rdg := []
def netJ (j : LI) : PyData := netP j.n j.t (.tuple (j.rs.map rdD))
def cN (K : PySem.W.Frag) : Cnd LI := fun j σ b H => σ.length = 18 ∧ (∃ x, σ[2]? = some (some x) ∧ Dp K (del H b) x (netJ j)) ∧ ∃ x, σ[3]? = some (some x) ∧ Dp K (del H b) x (.tuple (namesL j.n j.t))
def cL (K : PySem.W.Frag) : Cnd LI := fun j σ b H => cN K j σ b H ∧ σ[5]? = some (some (.str "not a net"))
def cA (K : PySem.W.Frag) (i : Nat) : Cnd LI := fun j σ b H => cL K j σ b H ∧ ∃ x, σ[i]? = some (some x) ∧ Dp K (del H b) x j.d
def cW (K : PySem.W.Frag) : Cnd LI := fun j σ b H => cA K 8 j σ b H ∧ σ[7]? = some (some (.int (j.k : Int))) ∧ j.k ≤ j.rs.length ∧ j.rs.length ≤ 100
/-- slot i holds the datum, slot m an int by which the test answers c -/
def cF (K : PySem.W.Frag) (i m : Nat) : Cnd LI := fun j σ b H => cA K i j σ b H ∧ σ[m]? = some (some (.int (j.k : Int)))
def cG (K : PySem.W.Frag) : Cnd LI := fun j σ b H => cA K 13 j σ b H ∧ (∃ p, σ[14]? = some (some (.ref p)) ∧ SqT K (del H b) p (natV (compo j.n j.ls 0))) ∧ σ[4]? = some (some (.int (j.n : Int)))
section
variable {K : PySem.W.Frag}
theorem cN_st : Stab (cN K) := fun _ _ _ _ _ _ ⟨hl, ⟨x, e, h⟩, y, e2, h2⟩ st => ⟨hl, ⟨x, e, dp_same st.same _ _ h⟩, y, e2, dp_same st.same _ _ h2⟩
theorem cL_st : Stab (cL K) := fun _ _ _ _ _ _ ⟨h, e⟩ st => ⟨cN_st _ _ _ _ _ _ h st, e⟩
theorem cA_st (i : Nat) : Stab (cA K i) := fun _ _ _ _ _ _ ⟨h, x, e, h2⟩ st => ⟨cL_st _ _ _ _ _ _ h st, x, e, dp_same st.same _ _ h2⟩
theorem cW_st : Stab (cW K) := fun _ _ _ _ _ _ ⟨h, e⟩ st => ⟨cA_st 8 _ _ _ _ _ _ h st, e⟩
theorem cG_st : Stab (cG K) := fun _ _ _ _ _ _ ⟨h, ⟨p, e, h2⟩, e4⟩ st => ⟨cA_st 13 _ _ _ _ _ _ h st, ⟨p, e, same_T st.same h2⟩, e4⟩
theorem cF_st (i m : Nat) : Stab (cF K i m) := fun _ _ _ _ _ _ ⟨h, e⟩ st => ⟨cA_st i _ _ _ _ _ _ h st, e⟩
end
/-! ### what does not look like a net -/
def netL (j : LI) : List PyData := [.str "net", .tuple (namesL j.n j.t), .tuple (j.rs.map rdD)]
def thingsD (j : LI) : List PyData := [.tuple [.str "nets", .tuple (namesL j.n j.t), .tuple (j.rs.map rdD)], .tuple ((netL j).take 2), .tuple (netL j ++ [.tuple []]), .list (netL j), .none, .int 7,
  .tuple [.str "net", .tuple (namesL j.n j.t), .list (j.rs.map rdD)], .tuple [], .tuple [.tuple [.str "net"], .tuple (namesL j.n j.t), .tuple (j.rs.map rdD)]]
theorem things_odd {j : LI} (ht : j.t < 20) (h6 : j.n ≤ 6) : ∀ d ∈ thingsD j, toldD d = oddD ∧ fitNet d := by
  have hf := fit_names_ok j.t ht j.n (by omega)
  intro d hd
  simp only [thingsD, List.mem_cons, List.not_mem_nil, or_false] at hd
  rcases hd with rfl | rfl | rfl | rfl | rfl | rfl | rfl | rfl | rfl
  · refine ⟨told_odd ?_, fit_net hf⟩
    show (((("nets" : Str) == "net")) && (marksB (.tuple (namesL j.n j.t)) && readingsB (lenN (.tuple (namesL j.n j.t)) : Int) (.tuple (j.rs.map rdD)))) = false
    rw [show ((("nets" : Str) == "net")) = false by decide +kernel, Bool.false_and]
  · exact ⟨told_odd rfl, fit_no fun z m r e => by cases e⟩
  · exact ⟨told_odd rfl, fit_no fun z m r e => by cases e⟩
  · exact ⟨told_odd rfl, fit_no fun z m r e => by cases e⟩
  · exact ⟨told_odd rfl, fit_no fun z m r e => by cases e⟩
  · exact ⟨told_odd rfl, fit_no fun z m r e => by cases e⟩
  · refine ⟨told_odd ?_, fit_net hf⟩
    show (isNetW (.str "net") && (marksB (.tuple (namesL j.n j.t)) && readingsB (lenN (.tuple (namesL j.n j.t)) : Int) (.list (j.rs.map rdD)))) = false
    rw [show readingsB (lenN (.tuple (namesL j.n j.t)) : Int) (.list (j.rs.map rdD)) = false from rfl, Bool.and_false, Bool.and_false]
  · exact ⟨told_odd rfl, fit_no fun z m r e => by cases e⟩
  · exact ⟨told_odd rfl, fit_net hf⟩
theorem eq_e : PyData.eqv (.str "") (.str "") = true := by decide +kernel
theorem eq_odd : PyData.eqv oddD oddD = true := by decide +kernel
theorem eq_notj : PyData.eqv notJ notJ = true := by decide +kernel
theorem eq_told {a b : PyData} (h : a = b) (hb : PyData.eqv b b = true) : PyData.eqv a b = true := by
  rw [h]
  exact hb
end NC
set_option maxRecDepth 100000
set_option maxHeartbeats 16000000
namespace NC
open PySem PySem.Spec PyProof.Rows L2
def cU : Cnd LI := fun _ σ _ _ => σ.length = 18
theorem cU_st : Stab cU := fun _ _ _ _ _ _ h _ => h
theorem dp_list {K : PySem.W.Frag} {H : Hp} {x : V} {ds : List PyData} (h : Dp K H x (.list ds)) : ∃ a xs, x = .ref a ∧ SqL K H a xs ∧ DpAll K H xs ds := by
  cases h with
  | @lst a xs _ h1 h2 => exact ⟨a, xs, rfl, h1, h2⟩
theorem rep_all {K : PySem.W.Frag} {H : Hp} {v : V} {r : Rdg} (h : Dp K H v (rdD r)) : ∀ m, DpAll K H (List.replicate m [v]).flatten ((List.replicate m r).map rdD)
  | 0 => .nil
  | m + 1 => .cons h (rep_all h m)
theorem nats_at {K : PySem.W.Frag} {H : Hp} {p : Addr} {l : List Nat} (e : H p = some (.tup (natV l))) : Dp K H (.ref p) (natsD l) := by
  refine .tup (SqT.of e) ?_
  clear e
  induction l with
  | nil => exact .nil
  | cons m l ih => exact .cons (.int _) ih
theorem compo_le (n : Nat) (rs : List Rdg) (s : Nat) : (compo n rs s).length ≤ n := by
  have := List.length_filter_le (fun m => decide (Reach rs s m)) (List.range n)
  rw [List.length_range] at this
  exact this
theorem reach_more {rs es : List Rdg} {s m : Nat} (h : Reach rs s m) : Reach (rs ++ es) s m := by
  induction h with
  | base => exact .base
  | fwd hr _ ih => exact .fwd (List.mem_append_left _ hr) ih
  | bwd hr _ ih => exact .bwd (List.mem_append_left _ hr) ih
/-- 5. up to the bounds, and one more -/
theorem full_told {n t k : Nat} {rs : List Rdg} {ev : Int} (ht : t < 20) (h2 : 2 ≤ n) (h6 : n ≤ 6) (hok : OkR n rs) (hlk : Link rs n) (hl : rs.length ≤ 11) (hk : k = 80 ∨ k = 81) (hev : -1000000 ≤ ev ∧ ev ≤ 1000000) :
    SeqAt.shaped (if decide (V.int (k : Int) = V.int 81) = true then oddD else .str "") = true ∧
    PyData.eqv (toldD (netP n t (.tuple ((rs ++ List.replicate (k - rs.length) (0, 1, ev)).map rdD)))) (if decide (V.int (k : Int) = V.int 81) = true then oddD else .str "") = true := by
  rcases hk with rfl | rfl
  · rw [if_neg (by decide)]
    refine ⟨shp_e, eq_told (told_net ht (by omega) h6 (fun r hr => ?_) ?_ fun m hm => reach_more (link_reach hlk m hm)) eq_e⟩
    · rcases List.mem_append.mp hr with hr | hr
      · exact hok.v r hr
      · rw [List.eq_of_mem_replicate hr]
        exact ⟨by show 0 < n; omega, by show 1 < n; omega, by show (0 : Nat) ≠ 1; decide, hev.1, hev.2⟩
    · rw [List.length_append, List.length_replicate]
      omega
  · rw [if_pos (by decide)]
    refine ⟨shp_odd, eq_told (told_long ?_) eq_odd⟩
    rw [List.length_map, List.length_append, List.length_replicate]
    omega
/-- 6. fewer readings -/
theorem less_told {n t : Nat} {ls : List Rdg} (ht : t < 20) (h1 : 1 ≤ n) (h6 : n ≤ 6) (hv : OkV n ls) (hl : ls.length ≤ 80) :
    SeqAt.shaped (if decide ((((natV (compo n ls 0)).length : Nat) : Int) < (n : Int)) = true then notJ else .str "") = true ∧
    PyData.eqv (toldD (netP n t (.tuple (ls.map rdD)))) (if decide ((((natV (compo n ls 0)).length : Nat) : Int) < (n : Int)) = true then notJ else .str "") = true := by
  have hle := compo_le n ls 0
  rw [List.length_map, told_less ht h1 h6 hv hl]
  by_cases h : (compo n ls 0).length = n
  · rw [if_pos h, decide_eq_false (by omega), if_neg (by decide)]
    exact ⟨shp_e, eq_e⟩
  · rw [if_neg h, decide_eq_true (by omega), if_pos rfl]
    exact ⟨shp_notj, eq_notj⟩
section
variable {P : Program} {w : World} {K : PySem.W.Frag} {mg : Str → Option Value} {base : Heap}
def spLaw (K : PySem.W.Frag) : Sp := fun vs H Q _ => ∃ (a : Addr) (ns : List Int), vs = [.ref a] ∧ SqL K H a (ns.map V.int) ∧ ∀ H', Q (.bl true) H'
theorem ok_law {f fG fN fT fJ fP fM fB fD fS fR fL : Addr} {fd fdG fdN fdT fdJ fdP fdM fdB fdD fdS fdR fdL : FuncData} (F : Fun K "law" "law" sLaw f fd) (B : Blt mg)
    (GG : Cal P w K mg base CX0 2 "_law_digits" fG fdG ["_law_script", "_law_first", "_law_last"] (spDigs K))
    (GN : Cal P w K mg base CX0 3 "_law_net" fN fdN ["_law_box", "_law_most", "_law_more"] (spLNet K))
    (GT : Cal P w K mg base CX0 6 "_law_told" fT fdT ["_law_net_here"] (spTold K))
    (GJ : Cal P w K mg base CX0 2 "is_joined" fJ fdJ ["marks", "readings"] (spJoin K))
    (GP : Cal P w K mg base CX0 2 "_law_pick" fP fdP ["_law_box", "_law_things"] (spPick K))
    (GM : Cal P w K mg base CX0 1 "_law_bad_marks" fM fdM ["_law_marks_here"] (spBadM K))
    (GB : Cal P w K mg base CX0 1 "_law_bad_readings" fB fdB ["_law_many"] (spBadR K))
    (GD : Cal P w K mg base CX0 1 "_law_draw" fD fdD ["_law_box", "_law_many"] (spDraw K))
    (okS : FnOkG P w K mg base CX0 1 fS fdS ["_law_actual", "_law_due"] (spSame K)) (gS : mg "_law_same" = some (.ref fS)) (kS : PySem.W.keepIn K (.ref fS) = true) (bS : Binds K fdS ["_law_actual", "_law_due"] [])
    (GR : Cal P w K mg base CX0 1 "reached" fR fdR ["many", "readings", "start"] (spReach K))
    (GL : Cal P w K mg base CX0 1 "_law_reached" fL fdL ["_law_many", "_law_readings", "_law_start"] (spReach K)) :
    FnOkG P w K mg base CX0 7 f fd ["_law_script"] (spLaw K) := by
  refine okG F scLaw (fun vs H Q E h => ?_) (fun cdv A outer s₀ H vs Q E hg hr h => ?_)
  · obtain ⟨a, ns, rfl, _⟩ := h
    rfl
  · obtain ⟨a, ns, rfl, hS, q⟩ := h
    have hr1 := hr.mono (show 1 ≤ 6 by decide)
    have hr2 := hr.mono (show 2 ≤ 6 by decide)
    have hr3 := hr.mono (show 3 ≤ 6 by decide)
    have v2 : ∀ j σ b H, cN K j σ b H → ∃ v, σ[2]? = some (some v) ∧ Dp K (del H b) v (netJ j) := fun _ _ _ _ h => h.2.1
    have l2 : ∀ j σ b H, cL K j σ b H → ∃ v, σ[2]? = some (some v) ∧ Dp K (del H b) v (netJ j) := fun _ _ _ _ h => h.1.2.1
    have l3 : ∀ j σ b H, cL K j σ b H → ∃ v, σ[3]? = some (some v) ∧ Dp K (del H b) v (.tuple (namesL j.n j.t)) := fun _ _ _ _ h => h.1.2.2
    have oL : ∀ j σ b H, cL K j σ b H → ∃ v, σ[5]? = some (some v) ∧ Dp K (del H b) v (.str "not a net") := fun _ _ _ _ h => ⟨_, h.2, .str _⟩
    have vA : ∀ i j σ b H, cA K i j σ b H → ∃ v, σ[i]? = some (some v) ∧ Dp K (del H b) v j.d := fun _ _ _ _ _ h => h.2
    have oA : ∀ i j σ b H, cA K i j σ b H → ∃ v, σ[5]? = some (some v) ∧ Dp K (del H b) v (.str "not a net") := fun _ j σ b H h => oL j σ b H h.1
    have w2 : ∀ j σ b H, cW K j σ b H → ∃ v, σ[2]? = some (some v) ∧ Dp K (del H b) v (netJ j) := fun j σ b H h => l2 j σ b H h.1.1
    have w3 : ∀ j σ b H, cW K j σ b H → ∃ v, σ[3]? = some (some v) ∧ Dp K (del H b) v (.tuple (namesL j.n j.t)) := fun j σ b H h => l3 j σ b H h.1.1
    have w5 : ∀ j σ b H, cW K j σ b H → ∃ v, σ[5]? = some (some v) ∧ Dp K (del H b) v (.str "not a net") := fun j σ b H h => oL j σ b H h.1.1
    have w8 : ∀ j σ b H, cW K j σ b H → ∃ v, σ[8]? = some (some v) ∧ Dp K (del H b) v j.d := fun j σ b H h => h.1.2
    have wk : ∀ j σ b H, cW K j σ b H → σ[7]? = some (some (.int (j.k : Int))) ∧ j.k ≤ (j.rs.map rdD).length := fun j σ b H h => ⟨h.2.1, by rw [List.length_map]; exact h.2.2.1⟩
    have wl1 : ∀ j σ b H, cW K j σ b H → ((j.rs.map rdD).take j.k).length + [j.d].length ≤ 1000 := fun j σ b H h => by
      have := h.2.2
      rw [List.length_take, List.length_map]
      show _ + 1 ≤ 1000
      omega
    have wl2 : ∀ j σ b H, cW K j σ b H → ((j.rs.map rdD).take j.k ++ [j.d]).length + ((j.rs.map rdD).drop j.k).length ≤ 1000 := fun j σ b H h => by
      have := h.2.2
      rw [List.length_append, List.length_take, List.length_drop, List.length_map]
      show _ + 1 + _ ≤ 1000
      omega
    have f3 : ∀ j σ b H, cF K 12 11 j σ b H → ∃ v, σ[3]? = some (some v) ∧ Dp K (del H b) v (.tuple (namesL j.n j.t)) := fun j σ b H h => l3 j σ b H h.1.1
    have f5 : ∀ j σ b H, cF K 12 11 j σ b H → ∃ v, σ[5]? = some (some v) ∧ Dp K (del H b) v (.str "not a net") := fun j σ b H h => oL j σ b H h.1.1
    have f12 : ∀ j σ b H, cF K 12 11 j σ b H → ∃ v, σ[12]? = some (some v) ∧ Dp K (del H b) v j.d := fun j σ b H h => h.1.2
    have g3 : ∀ j σ b H, cG K j σ b H → ∃ v, σ[3]? = some (some v) ∧ Dp K (del H b) v (.tuple (namesL j.n j.t)) := fun j σ b H h => l3 j σ b H h.1.1
    have g13 : ∀ j σ b H, cG K j σ b H → ∃ v, σ[13]? = some (some v) ∧ Dp K (del H b) v j.d := fun j σ b H h => h.1.2
    refine ⟨_, (pss_cons (ps_set (i := 1) scLaw.nd rfl (.inr rfl) (pe_lst (pa_cons (pe_call GG.ok hr2 (by rfl) GG.g GG.kp GG.b .nil pass0 (pa_cons (pv 0) (pa_cons pe_int (pa_cons pe_int pa_nil)))) (pa_cons pe_int pa_nil))))
      (pss_cons (ps_set (i := 2) scLaw.nd rfl (.inl rfl) (pe_call GN.ok hr3 (by rfl) GN.g GN.kp GN.b .nil pass0 (pa_cons (pv 1) (pa_cons pe_int (pa_cons pe_int pa_nil)))))
      (pss_cons (ps_set (i := 3) scLaw.nd rfl (.inl rfl) (pe_ix ix_tup (pv 2) pe_int (fun _ _ => rfl)))
      (pss_cons (ps_set (i := 4) scLaw.nd rfl (.inl rfl) (pe_callB call_len_seq (by rfl) B.len bt_len (pa_cons (pv 3) pa_nil)))
      (pss_cons (ps_if (PW.pt (pw_or (pt_told GT hr (C := cN K) (d1 := netJ) (d2 := fun _ => .str "") cN_st (dat_v 2 v2) dat_str) (pw_or1 (pt_cmpR op_notBl (pe_call GJ.ok hr2 (by rfl) GJ.g GJ.kp GJ.b .nil pass0 (pa_cons (pv 3) (pa_cons (pe_ix ix_tup (pv 2) pe_int (fun _ _ => rfl)) pa_nil))) pe_bl (nomark _))))) (pss_one (ps_ret pe_bl)) pss_nil)
      (pss_cons (ps_set (i := 5) scLaw.nd rfl (.inl rfl) pe_str)
      (pss_cons (ps_set (i := 6) scLaw.nd rfl (.inl rfl) (pe_call GP.ok hr2 (by rfl) GP.g GP.kp GP.b .nil pass0 (pa_cons (pv 1) (pa_cons (pe_call GM.ok hr1 (by rfl) GM.g GM.kp GM.b .nil pass0 (pa_cons (pv 3) pa_nil)) pa_nil))))
      (pss_cons (ps_if (pt_told GT hr (C := cA K 6) (d1 := fun (j : LI) => .tuple [.str "net", j.d, .tuple []]) (d2 := fun _ => oddD) (cA_st 6) (dat_tup (fun _ => Nat.le_of_ble_eq_true rfl) (dats_cons (cA_st 6) dat_str (dats_cons (cA_st 6) (dat_v 6 (vA 6)) (dats_cons (cA_st 6) (dat_tup (fun _ => Nat.le_of_ble_eq_true rfl) dats_nil) dats_nil)))) (dat_tup (fun _ => Nat.le_of_ble_eq_true rfl) (dats_cons (cA_st 6) dat_int (dats_cons (cA_st 6) (dat_v 5 (d := fun _ => .str "not a net") (oA 6)) dats_nil)))) (pss_one (ps_ret pe_bl)) pss_nil)
      (pss_cons (ps_set (i := 7) scLaw.nd rfl (.inl rfl) (pe_call GD.ok hr1 (by rfl) GD.g GD.kp GD.b .nil pass0 (pa_cons (pv 1) (pa_cons (pe_op op_add (pe_callB call_len_seq (by rfl) B.len bt_len (pa_cons (pe_ix ix_tup (pv 2) pe_int (fun _ _ => rfl)) pa_nil)) pe_int) pa_nil))))
      (pss_cons (ps_set (i := 8) scLaw.nd rfl (.inl rfl) (pe_call GP.ok hr2 (by rfl) GP.g GP.kp GP.b .nil pass0 (pa_cons (pv 1) (pa_cons (pe_call GB.ok hr1 (by rfl) GB.g GB.kp GB.b .nil pass0 (pa_cons (pv 4) pa_nil)) pa_nil))))
      (pss_cons (ps_if (pt_told GT hr (C := cW K) (d1 := fun (j : LI) => netP j.n j.t (.tuple ((j.rs.map rdD).take j.k ++ [j.d] ++ (j.rs.map rdD).drop j.k))) (d2 := fun _ => oddD) cW_st (dat_tup (fun _ => Nat.le_of_ble_eq_true rfl) (dats_cons cW_st dat_str (dats_cons cW_st (dat_v 3 (d := fun (j : LI) => .tuple (namesL j.n j.t)) w3) (dats_cons cW_st (dat_cat (ds := fun (j : LI) => (j.rs.map rdD).take j.k ++ [j.d]) (es := fun (j : LI) => (j.rs.map rdD).drop j.k) cW_st wl2 (dat_cat (ds := fun (j : LI) => (j.rs.map rdD).take j.k) (es := fun (j : LI) => [j.d]) cW_st wl1 (dat_to (ds := fun (j : LI) => j.rs.map rdD) (at' := fun (j : LI) => j.k) (pv 7) wk (dat_ix (ds := netL) (d := fun (j : LI) => .tuple (j.rs.map rdD)) (i := 2) (fun _ _ _ _ _ => rfl) (dat_v 2 (d := netJ) w2))) (dat_tup (fun _ => Nat.le_of_ble_eq_true rfl) (dats_cons cW_st (dat_v 8 (d := fun (j : LI) => j.d) w8) dats_nil))) (dat_from (ds := fun (j : LI) => j.rs.map rdD) (at' := fun (j : LI) => j.k) (pv 7) wk (dat_ix (ds := netL) (d := fun (j : LI) => .tuple (j.rs.map rdD)) (i := 2) (fun _ _ _ _ _ => rfl) (dat_v 2 (d := netJ) w2)))) dats_nil)))) (dat_tup (fun _ => Nat.le_of_ble_eq_true rfl) (dats_cons cW_st dat_int (dats_cons cW_st (dat_v 5 (d := fun _ => .str "not a net") w5) dats_nil)))) (pss_one (ps_ret pe_bl)) pss_nil)
      (pss_cons (ps_for PassesOwn.never rfl (pi_list (dat_lst (C := cL K) (ds := thingsD) (fun _ => Nat.le_of_ble_eq_true rfl) (dats_cons cL_st (dat_tup (fun _ => Nat.le_of_ble_eq_true rfl) (dats_cons cL_st dat_str (dats_cons cL_st (dat_v 3 (d := fun (j : LI) => .tuple (namesL j.n j.t)) l3) (dats_cons cL_st (dat_ix (ds := netL) (d := fun (j : LI) => .tuple (j.rs.map rdD)) (i := 2) (fun _ _ _ _ _ => rfl) (dat_v 2 (d := netJ) l2)) dats_nil)))) (dats_cons cL_st (dat_toC (ds := netL) (n := 2) (fun _ _ _ _ _ => Nat.le_of_ble_eq_true rfl) (dat_v 2 (d := netJ) l2)) (dats_cons cL_st (dat_cat (ds := netL) (es := fun _ => [.tuple []]) cL_st (fun _ _ _ _ _ => Nat.le_of_ble_eq_true rfl) (dat_v 2 (d := netJ) l2) (dat_tup (fun _ => Nat.le_of_ble_eq_true rfl) (dats_cons cL_st (dat_tup (fun _ => Nat.le_of_ble_eq_true rfl) dats_nil) dats_nil))) (dats_cons cL_st (dat_list (ds := netL) (by rfl) B.list (dat_v 2 (d := netJ) l2)) (dats_cons cL_st dat_non (dats_cons cL_st dat_int (dats_cons cL_st (dat_tup (fun _ => Nat.le_of_ble_eq_true rfl) (dats_cons cL_st dat_str (dats_cons cL_st (dat_v 3 (d := fun (j : LI) => .tuple (namesL j.n j.t)) l3) (dats_cons cL_st (dat_list (ds := fun (j : LI) => j.rs.map rdD) (by rfl) B.list (dat_ix (ds := netL) (d := fun (j : LI) => .tuple (j.rs.map rdD)) (i := 2) (fun _ _ _ _ _ => rfl) (dat_v 2 (d := netJ) l2))) dats_nil)))) (dats_cons cL_st (dat_tup (fun _ => Nat.le_of_ble_eq_true rfl) dats_nil) (dats_cons cL_st (dat_tup (fun _ => Nat.le_of_ble_eq_true rfl) (dats_cons cL_st (dat_tup (fun _ => Nat.le_of_ble_eq_true rfl) (dats_cons cL_st dat_str dats_nil)) (dats_cons cL_st (dat_v 3 (d := fun (j : LI) => .tuple (namesL j.n j.t)) l3) (dats_cons cL_st (dat_ix (ds := netL) (d := fun (j : LI) => .tuple (j.rs.map rdD)) (i := 2) (fun _ _ _ _ _ => rfl) (dat_v 2 (d := netJ) l2)) dats_nil)))) dats_nil))))))))))) (pg_name (i := 9) scLaw.nd rfl (.inl rfl)) (pss_one (ps_if (pt_told GT hr (C := cA K 9) (d1 := fun (j : LI) => j.d) (d2 := fun _ => oddD) (cA_st 9) (dat_v 9 (vA 9)) (dat_tup (fun _ => Nat.le_of_ble_eq_true rfl) (dats_cons (cA_st 9) dat_int (dats_cons (cA_st 9) (dat_v 5 (d := fun _ => .str "not a net") (oA 9)) dats_nil)))) (pss_one (ps_ret pe_bl)) pss_nil)))
      (pss_cons (ps_if (pt_cmpR op_gt (pv 4) pe_int (nomark _)) (pss_cons (ps_set (i := 10) scLaw.nd rfl (.inl rfl) (pe_tup (pa_cons pe_int (pa_cons pe_int (pa_cons (pe_op op_mul pe_int (pe_op op_sub pe_int (pe_op op_mul pe_int (pe_call GD.ok hr1 (by rfl) GD.g GD.kp GD.b .nil pass0 (pa_cons (pv 1) (pa_cons pe_int pa_nil)))))) pa_nil)))))
      (pss_cons (ps_set (i := 11) scLaw.nd rfl (.inl rfl) (pe_op op_add pe_int (pe_call GD.ok hr1 (by rfl) GD.g GD.kp GD.b .nil pass0 (pa_cons (pv 1) (pa_cons pe_int pa_nil)))))
      (pss_cons (ps_set (i := 12) scLaw.nd rfl (.inl rfl) (pe_op op_catB (pe_ix ix_tup (pv 2) pe_int (fun _ _ => rfl)) (pe_op op_repT (pe_tup (pa_cons (pv 10) pa_nil)) (pe_op op_sub (pv 11) (pe_callB call_len_seq (by rfl) B.len bt_len (pa_cons (pe_ix ix_tup (pv 2) pe_int (fun _ _ => rfl)) pa_nil))))))
      (pss_cons (ps_if (pt_told GT hr (C := cF K 12 11) (d1 := fun (j : LI) => netP j.n j.t j.d) (d2 := fun (j : LI) => if decide (V.int (j.k : Int) = V.int 81) = true then oddD else .str "") (cF_st 12 11) (dat_tup (fun _ => Nat.le_of_ble_eq_true rfl) (dats_cons (cF_st 12 11) dat_str (dats_cons (cF_st 12 11) (dat_v 3 (d := fun (j : LI) => .tuple (namesL j.n j.t)) f3) (dats_cons (cF_st 12 11) (dat_v 12 (d := fun (j : LI) => j.d) f12) dats_nil)))) (dat_pick (c := fun (j : LI) => decide (V.int (j.k : Int) = V.int 81)) (cF_st 12 11) (by rfl) B.int dat_str (dat_tup (fun _ => Nat.le_of_ble_eq_true rfl) (dats_cons (cF_st 12 11) dat_int (dats_cons (cF_st 12 11) (dat_v 5 (d := fun _ => .str "not a net") f5) dats_nil))) (PE.imp (pe_cmpR op_eq (pv 11) pe_int (nomark _)) fun σ H Q ⟨j, b, dg, hB, hC, q⟩ => ⟨_, hC.2, rfl, q⟩))) (pss_one (ps_ret pe_bl)) pss_nil)
      (pss_cons (ps_set (i := 13) scLaw.nd rfl (.inl rfl) (pe_callTy call_tuple_of (by rfl) B.tuple bt_tuple (pa_cons (pe_lc (own := [("_law_reading_here", 16)]) (g := gName 16) (tt := tTest (tOp (rI0 fun i j => .bl (decide (j < i))) (tCall (spDraw K) [] E0 (tCons (tVar 1) (tCons (tC (.int 3)) tNil))) (tC (.int 0)))) rfl scLaw.nd (pi_tup (pe_ix ix_tup (pv 2) pe_int (fun _ _ => rfl))) (blkOk_by (own := [("_law_reading_here", 16)]) (N := nLaw) (sc := defScope sLaw) (by decide +kernel)) (fun _ _ _ _ _ => pg_name (i := 16) scLaw.nd rfl (.inl rfl)) (fun _ _ _ _ _ => pts_one (pt_cmpR op_gt (pe_call GD.ok hr1 (by rfl) GD.g GD.kp GD.b .nil pass0 (pa_cons (pv 1) (pa_cons pe_int pa_nil))) pe_int (nomark _))) (fun _ _ _ _ _ => pv 16)) pa_nil)))
      (pss_cons (ps_set (i := 14) scLaw.nd rfl (.inl rfl) (pe_call GL.ok hr1 (by rfl) GL.g GL.kp GL.b .nil pass0 (pa_cons (pv 4) (pa_cons (pv 13) (pa_cons pe_int pa_nil)))))
      (pss_cons (ps_if (pt_not (pt_val (pe_callG okS hg hr1 (by rfl) gS kS bS (pa_cons (pe_call GJ.ok hr2 (by rfl) GJ.g GJ.kp GJ.b .nil pass0 (pa_cons (pv 3) (pa_cons (pv 13) pa_nil))) (pa_cons (pe_cmpR op_eq (pe_callB call_len_seq (by rfl) B.len bt_len (pa_cons (pv 14) pa_nil)) (pv 4) (nomark _)) pa_nil))))) (pss_one (ps_ret pe_bl)) pss_nil)
      (pss_cons (ps_if (pt_told GT hr (C := cG K) (d1 := fun (j : LI) => netP j.n j.t j.d) (d2 := fun (j : LI) => if decide ((((natV (compo j.n j.ls 0)).length : Nat) : Int) < (j.n : Int)) = true then notJ else .str "") cG_st (dat_tup (fun _ => Nat.le_of_ble_eq_true rfl) (dats_cons cG_st dat_str (dats_cons cG_st (dat_v 3 (d := fun (j : LI) => .tuple (namesL j.n j.t)) g3) (dats_cons cG_st (dat_v 13 (d := fun (j : LI) => j.d) g13) dats_nil)))) (dat_pick (c := fun (j : LI) => decide ((((natV (compo j.n j.ls 0)).length : Nat) : Int) < (j.n : Int))) cG_st (by rfl) B.int dat_str (dat_tup (fun _ => Nat.le_of_ble_eq_true rfl) (dats_cons cG_st dat_int (dats_cons cG_st dat_str dats_nil))) (PE.imp (pe_cmpR op_lt (pe_callB call_len_seq (by rfl) B.len bt_len (pa_cons (pv 14) pa_nil)) (pv 4) (nomark _)) fun σ H Q ⟨j, b, dg, hB, hC, q⟩ => by
        obtain ⟨p, e14, hT⟩ := hC.2.1
        exact ⟨_, e14, p, _, rfl, .inr (T_of_del hT), _, hC.2.2, _, _, rfl, rfl, q⟩))) (pss_one (ps_ret pe_bl)) pss_nil)
      (pss_cons (ps_set (i := 15) scLaw.nd rfl (.inl rfl) (pe_call GD.ok hr1 (by rfl) GD.g GD.kp GD.b .nil pass0 (pa_cons (pv 1) (pa_cons (pv 4) pa_nil))))
      (pss_one (ps_if (pt_not (pt_val (pe_callG okS hg hr1 (by rfl) gS kS bS (pa_cons (pe_call GR.ok hr1 (by rfl) GR.g GR.kp GR.b .nil pass0 (pa_cons (pv 4) (pa_cons (pv 13) (pa_cons (pv 15) pa_nil)))) (pa_cons (pe_call GL.ok hr1 (by rfl) GL.g GL.kp GL.b .nil pass0 (pa_cons (pv 4) (pa_cons (pv 13) (pa_cons (pv 15) pa_nil)))) pa_nil))))) (pss_one (ps_ret pe_bl)) pss_nil))))))))))) pss_nil)
      (pss_one (ps_ret (pe_told GT hr (C := cU) (d1 := fun _ => .tuple [.str "net", zsD 16, .tuple []]) (d2 := fun _ => notJ) cU_st (dat_tup (fun _ => Nat.le_of_ble_eq_true rfl) (dats_cons cU_st dat_str (dats_cons cU_st (PE.imp (t := t_zs K 16 17) (pe_callTy call_tuple_of (by rfl) B.tuple bt_tuple (pa_cons (pe_lc (own := [("_law_k", 17)]) (g := gName 17) (tt := tYes) rfl scLaw.nd (pi_range1 (by rfl) B.range (pa_cons pe_int pa_nil)) (blkOk_by (own := [("_law_k", 17)]) (N := nLaw) (sc := defScope sLaw) (by decide +kernel)) (fun _ _ _ _ _ => pg_name (i := 17) scLaw.nd rfl (.inl rfl)) (fun _ _ _ _ _ => pts_nil) (fun _ _ _ _ _ => pe_op op_add_str pe_str (pe_ix ix_str pe_str (pv 17) (fun _ _ => rfl)))) pa_nil)) fun σ H Q hq => zs_read (C := cU) (by decide) (fun _ b H hC => by rw [hC]; decide) hq) (dats_cons cU_st (dat_tup (fun _ => Nat.le_of_ble_eq_true rfl) dats_nil) dats_nil)))) (dat_tup (fun _ => Nat.le_of_ble_eq_true rfl) (dats_cons cU_st dat_int (dats_cons cU_st dat_str dats_nil))))))))))))))))))), ?_⟩
    -- the box
    refine ⟨_, rfl, a, ns, rfl, hS, fun H1 dg ns1 sm1 np1 ep1 => ⟨by show 2 ≤ sizeLine; decide, fun b nb => ?_⟩⟩
    have hB0 : BoxAt (upd H1 b (.lst [.ref dg, .int 0])) b dg := ⟨⟨0, upd_same, Int.le_refl 0⟩, ns1, by
      have hdb : dg ≠ b := fun z => by
        rw [z, nb] at ep1
        cases ep1
      rw [upd_ne hdb]
      exact ep1⟩
    revert hB0
    generalize upd H1 b (.lst [.ref dg, .int 0]) = H2
    intro hB0
    -- the net
    refine ⟨_, rfl, b, dg, rfl, hB0, fun x H3 n t rs st3 hn1 hn6 ht hrl hok hlk hD => ?_⟩
    obtain ⟨an, xs, rfl, hT, hA⟩ := dp_tup (id hD)
    obtain ⟨x0, x1, x2, d0, d1, d2, rfl, ed, h0, hm, hr3'⟩ := dp3 hA rfl
    cases ed
    obtain ⟨pm, ms, rfl, hTm, hAm⟩ := dp_tup (id hm)
    obtain ⟨pr, rxs, rfl, hTr, hAr⟩ := dp_tup (id hr3')
    have hml : ms.length = n := by rw [dpAll_len hAm, List.length_map, List.length_range]
    have hrx : rxs.length = rs.length := by rw [dpAll_len hAr, List.length_map]
    have hrs : ∀ r ∈ rs, r.1 < n ∧ r.2.1 < n := fun r hr => ⟨(hok r hr).1, (hok r hr).2.1⟩
    have hfm := fit_names_ok t ht n (by omega)
    have hbox := st3.box
    have gT : ∀ H', Step b dg H3 H' → SqT K H' an [x0, .ref pm, .ref pr] := fun H' st => T_of_del (same_T st.same hT)
    have gTm : ∀ H', Step b dg H3 H' → SqT K H' pm ms := fun H' st => T_of_del (same_T st.same hTm)
    have gTr : ∀ H', Step b dg H3 H' → SqT K (del H' b) pr rxs := fun H' st => same_T st.same hTr
    have gN : ∀ H', Step b dg H3 H' → Dp K (del H' b) (.ref an) (netP n t (.tuple (rs.map rdD))) := fun H' st => dp_same st.same _ _ hD
    have gM : ∀ H', Step b dg H3 H' → Dp K (del H' b) (.ref pm) (.tuple (namesL n t)) := fun H' st => dp_same st.same _ _ hm
    have fin : ∀ σ' H', σ'.length = 18 → Step b dg H3 H' → tRet (tEq K cU (fun _ => .tuple [.str "net", zsD 16, .tuple []]) (fun _ => notJ)) { nx := fun _ H' => Q .non H', rt := Q } σ' H' := fun σ' H' hl st =>
      ⟨{ n := n, t := t, rs := rs }, b, dg, st.box, hl, fit_net (m := zsD 16) (by decide +kernel), shp_notj, fun H'' _ => by
        have e := eq_told told_16 eq_notj
        rw [e]
        exact q H''⟩
    refine ⟨_, rfl, an, _, 1, .ref pm, rfl, rfl, T_of_del hT, atI_nat (j := 1) rfl, ?_⟩
    refine ⟨_, rfl, pm, ms, rfl, .inr (T_of_del hTm), ?_⟩
    show tSeq _ _ _ [some (.ref a), some (.ref b), some (.ref an), some (.ref pm), some (.int ((ms.length : Nat) : Int)), none, none, none, none, none, none, none, none, none, none, none, none, none] H3
    rw [hml]
    -- the net is told to be one
    refine ⟨{ n := n, t := t, rs := rs }, b, dg, hbox, ⟨rfl, ⟨_, rfl, hD⟩, _, rfl, hm⟩, fit_net hfm, shp_e, fun H4 st4 => ne_skip (eq_told (told_net ht hn1 hn6 hok.v (show rs.length ≤ 80 by omega) (fun m hm => link_reach hlk m hm)) eq_e) ?_⟩
    refine ⟨_, rfl, _, rfl, an, _, 2, .ref pr, rfl, rfl, gT H4 st4, atI_nat (j := 2) rfl, pm, ms, .ref pr, rs, rfl, gTm H4 st4, by omega, by omega, dp_same del_sub _ _ (dp_same st4.same _ _ hr3'), by rw [hml]; exact hrs, fun H5 sm5 => ⟨_, true, rfl, rfl, _, rfl, ?_⟩⟩
    have ej : decide ((compo ms.length rs 0).length = ms.length) = true := by
      rw [hml]
      exact decide_eq_true (compo_full.mpr fun m hm => link_reach hlk m hm)
    rw [ej]
    refine iteF ?_
    have st5 := st4.trans (.of st4.box sm5)
    -- spoilt marks
    refine ⟨_, rfl, _, rfl, .ref pm, namesL n t, .str (mkS t), b, dg, rfl, st5.box, gM H5 st5, ?_, ?_, fun l6 xs6 H6 st6 hl6 hA6 => ?_⟩
    · show ((List.range n).map fun k => PyData.str (mkS (t + k)))[0]? = _
      rw [List.getElem?_map, List.getElem?_range (by omega)]
      rfl
    · show ((List.range n).map _).length ≤ 20
      rw [List.length_map, List.length_range]
      omega
    refine ⟨b, dg, l6, xs6, rfl, st6.box, hl6, fun z => ?_, fun y7 hy7 H7 st7 => ?_⟩
    · have := dpAll_len hA6
      rw [z] at this
      exact absurd this (by show ¬ 0 = 13; decide)
    obtain ⟨i7, hi7, ei7⟩ := List.getElem_of_mem hy7
    obtain ⟨d7, hd7, hD7⟩ := dpAll_get hA6 (List.getElem?_eq_getElem hi7)
    rw [ei7] at hD7
    have hm7 := List.mem_of_getElem? hd7
    have st57 := (st5.trans st6).trans st7
    refine ⟨{ n := n, t := t, rs := rs, d := d7 }, b, dg, st7.box, ⟨⟨⟨rfl, ⟨_, rfl, gN H7 st57⟩, _, rfl, gM H7 st57⟩, rfl⟩, _, rfl, dp_same st7.same _ _ hD7⟩, fit_net (List.all_eq_true.mp (fit_bad_ok t ht n (by omega)) d7 hm7), shp_odd, fun H8 st8 => ne_skip (eq_told (told_badm ht hn1 hn6 hm7) eq_odd) ?_⟩
    have st8' := st57.trans st8
    -- a spoilt reading
    refine ⟨_, rfl, _, rfl, an, _, 2, .ref pr, rfl, rfl, gT H8 st8', atI_nat (j := 2) rfl, pr, rxs, rfl, .inr (T_of_del (gTr H8 st8')), (rxs.length : Nat), 1, rfl, rfl, b, dg, ((rxs.length : Nat) : Int) + 1, rfl, by omega, st8.box, fun r9 H9 h90 h91 st9 => ?_⟩
    obtain ⟨k, rfl⟩ : ∃ k : Nat, r9 = (k : Int) := ⟨r9.toNat, by omega⟩
    refine ⟨_, rfl, _, rfl, (n : Int), b, dg, rfl, st9.box, fun l10 xs10 H10 st10 hl10 hA10 => ⟨b, dg, l10, xs10, rfl, st10.box, hl10, fun z => ?_, fun y11 hy11 H11 st11 => ?_⟩⟩
    · have := dpAll_len hA10
      rw [z] at this
      exact absurd this (by show ¬ 0 = 17; decide)
    obtain ⟨i11, hi11, ei11⟩ := List.getElem_of_mem hy11
    obtain ⟨d11, hd11, hD11⟩ := dpAll_get hA10 (List.getElem?_eq_getElem hi11)
    rw [ei11] at hD11
    have hm11 := List.mem_of_getElem? hd11
    have st11' := ((st8'.trans st9).trans st10).trans st11
    refine ⟨{ n := n, t := t, rs := rs, d := d11, k := k }, b, dg, st11.box, ⟨⟨⟨⟨rfl, ⟨_, rfl, gN H11 st11'⟩, _, rfl, gM H11 st11'⟩, rfl⟩, _, rfl, dp_same st11.same _ _ hD11⟩, rfl, by show k ≤ rs.length; omega, by show rs.length ≤ 100; omega⟩, fit_net hfm, shp_odd, fun H12 st12 => ne_skip (eq_told (told_badr hn1 hn6 hm11) eq_odd) ?_⟩
    have st12' := st11'.trans st12
    -- things that do not look like a net
    refine ⟨{ n := n, t := t, rs := rs }, b, dg, st12.box, ⟨⟨rfl, ⟨_, rfl, gN H12 st12'⟩, _, rfl, gM H12 st12'⟩, rfl⟩, fun v13 H13 st13 hv13 => ?_⟩
    obtain ⟨lt, lxs, rfl, hL, hAL⟩ := dp_list hv13
    have st13' := st12'.trans st13
    refine ⟨lt, rfl, ⟨lxs, del_sub.seq hL⟩, for_list (xs := lxs) (fun i σ H' => ∃ y9, σ = [some (.ref a), some (.ref b), some (.ref an), some (.ref pm), some (.int (n : Int)), some (.str "not a net"), some y7, some (.int (k : Int)), some y11, y9, none, none, none, none, none, none, none, none] ∧ Step b dg H13 H')
      ⟨none, rfl, .refl st13.box⟩ (fun i σ H' _ ⟨_, _, st⟩ => del_sub.seq (st.same.seq hL)) (fun i y σ H' hi hP => ?_) (fun σ H14 hP => ?_)⟩
    · obtain ⟨y9, rfl, st⟩ := hP
      obtain ⟨d, hd, hyD⟩ := dpAll_get hAL hi
      obtain ⟨e1, e2⟩ := things_odd (j := { n := n, t := t, rs := rs }) ht hn6 d (List.mem_of_getElem? hd)
      have st' := st13'.trans st
      exact ⟨{ n := n, t := t, rs := rs, d := d }, b, dg, st.box, ⟨⟨⟨rfl, ⟨_, rfl, gN H' st'⟩, _, rfl, gM H' st'⟩, rfl⟩, _, rfl, dp_same st.same _ _ hyD⟩, e2, shp_odd, fun H'' st'' => ne_skip (eq_told e1 eq_odd) ⟨_, rfl, st.trans st''⟩⟩
    obtain ⟨y9, rfl, st14⟩ := hP
    have st14' := st13'.trans st14
    refine ⟨_, rfl, (n : Int), 1, rfl, rfl, _, rfl, ite2 (fun e => ?_) (fun e => fin _ H14 rfl st14')⟩
    have hn2 : 2 ≤ n := by
      have := of_decide_eq_true e
      omega
    -- readings at the bounds
    refine ⟨_, rfl, b, dg, 2, rfl, by decide, st14.box, fun r15 H15 h150 h151 st15 => ⟨2, r15, rfl, rfl, .inl ⟨by decide, by decide⟩, 1, 2 * r15, rfl, rfl, 1000000, 1 - 2 * r15, rfl, rfl, .inl ⟨by decide, by decide⟩, by show 3 ≤ sizeLine; decide, fun pe npe => ?_⟩⟩
    have hev : -1000000 ≤ 1000000 * (1 - 2 * r15) ∧ 1000000 * (1 - 2 * r15) ≤ 1000000 := by omega
    revert hev
    show -1000000 ≤ 1000000 * (1 - 2 * r15) ∧ 1000000 * (1 - 2 * r15) ≤ 1000000 → tSeq _ _ _ [some (.ref a), some (.ref b), some (.ref an), some (.ref pm), some (.int (n : Int)), some (.str "not a net"), some y7, some (.int (k : Int)), some y11, y9, some (.ref pe), none, none, none, none, none, none, none] (upd H15 pe (.tup [.int 0, .int 1, .int (1000000 * (1 - 2 * r15))]))
    generalize 1000000 * (1 - 2 * r15) = ev
    intro hev
    have st16 := st15.new (o := .tup [.int 0, .int 1, .int ev]) npe
    have hpe : Dp K (del (upd H15 pe (.tup [.int 0, .int 1, .int ev])) b) (.ref pe) (rdD (0, 1, ev)) := rd_at (r := (0, 1, ev)) st16.box upd_same
    revert st16 hpe
    generalize upd H15 pe (.tup [.int 0, .int 1, .int ev]) = H16
    intro st16 hpe
    have st16' := st14'.trans st16
    refine ⟨_, rfl, b, dg, 2, rfl, by decide, st16.box, fun r17 H17 h170 h171 st17 => ⟨80, r17, rfl, rfl, ?_⟩⟩
    obtain ⟨sz, hsz⟩ : ∃ sz : Nat, 80 + r17 = (sz : Int) := ⟨(80 + r17).toNat, by omega⟩
    show tSeq _ _ _ [some (.ref a), some (.ref b), some (.ref an), some (.ref pm), some (.int (n : Int)), some (.str "not a net"), some y7, some (.int (k : Int)), some y11, y9, some (.ref pe), some (.int (80 + r17)), none, none, none, none, none, none] H17
    rw [hsz]
    have hsz2 : sz = 80 ∨ sz = 81 := by omega
    have st17' := st16'.trans st17
    refine ⟨_, rfl, an, _, 2, .ref pr, rfl, rfl, gT H17 st17', atI_nat (j := 2) rfl, _, rfl, by show 1 ≤ sizeLine; decide, fun u nu => ?_⟩
    have st18 := st17.new (o := .tup [.ref pe]) nu
    have hTu := new_T (K := K) (xs := [.ref pe]) st17.box nu
    have st18' := st16'.trans st18
    revert st18 hTu st18'
    generalize upd H17 u (.tup [.ref pe]) = H18
    intro st18 hTu st18'
    have hm18 : ((sz : Int) - ((rxs.length : Nat) : Int)).toNat = sz - rs.length := by omega
    refine ⟨_, rfl, _, rfl, an, _, 2, .ref pr, rfl, rfl, gT H18 st18', atI_nat (j := 2) rfl, pr, rxs, rfl, .inr (T_of_del (gTr H18 st18')), _, _, rfl, rfl, u, _, [.ref pe], rfl, rfl, T_of_del hTu, by simp, by omega, by omega, by show 1 ≤ 1000; decide, fun p np => ?_⟩
    rw [hm18]
    have hTp := new_T (K := K) (xs := (List.replicate (sz - rs.length) [V.ref pe]).flatten) st18.box np
    have st19 := st18.new (o := .tup (List.replicate (sz - rs.length) [V.ref pe]).flatten) np
    have st19' := st16'.trans st19
    revert hTp st19 st19'
    generalize upd H18 p (.tup (List.replicate (sz - rs.length) [V.ref pe]).flatten) = H19
    intro hTp st19 st19'
    have hA19 := rep_all (dp_same st19.same _ _ hpe) (sz - rs.length)
    refine ⟨pr, p, rxs, _, b, dg, rfl, rfl, st19.box, gTr H19 st19', hTp, ?_, fun v20 H20 st20 hv20 => ?_⟩
    · rw [dpAll_len hA19, List.length_map, List.length_replicate]
      exact Nat.le_of_lt (small1000 (by omega))
    have st20' := st19'.trans st20
    have hD20 : Dp K (del H20 b) (.ref v20) (.tuple ((rs ++ List.replicate (sz - rs.length) (0, 1, ev)).map rdD)) := by
      rw [List.map_append]
      exact .tup hv20 (dpAll_app (dp_sameAll st20'.same _ _ hAr) (dp_sameAll st20.same _ _ hA19))
    obtain ⟨f1, f2⟩ := full_told (ev := ev) ht hn2 hn6 hok hlk hrl hsz2 hev
    refine ⟨{ n := n, t := t, rs := rs, d := .tuple ((rs ++ List.replicate (sz - rs.length) (0, 1, ev)).map rdD), k := sz }, b, dg, st20.box, ⟨⟨⟨⟨rfl, ⟨_, rfl, gN H20 st20'⟩, _, rfl, gM H20 st20'⟩, rfl⟩, _, rfl, hD20⟩, rfl⟩, fit_net hfm, f1, fun H21 st21 => ne_skip f2 ?_⟩
    have st21' := st20'.trans st21
    -- fewer readings
    refine ⟨_, rfl, an, _, 2, .ref pr, rfl, rfl, gT H21 st21', atI_nat (j := 2) rfl, pr, rfl, ⟨rxs, T_of_del (gTr H21 st21')⟩, fun D nD => ?_⟩
    have hDb := st21.box.ne nD
    have hA21 := dp_sameAll st21'.same _ _ hAr
    refine lc_tup (xs := rxs) (fun i H' => ∃ ys ls, Step b dg H21 H' ∧ H' D = some (.lst ys) ∧ DpAll K (del H21 b) ys (ls.map rdD) ∧ (∀ r ∈ ls, r ∈ rs) ∧ ls.length ≤ i)
      ⟨[], [], (Step.refl st21.box).new nD, upd_same, .nil, fun r hr => (by cases hr), Nat.le_refl _⟩ (fun i H' _ ⟨_, _, st, _⟩ => T_of_del (gTr H' (st21'.trans st))) (fun i y H' hi hP => ?_) (fun H22 hP => ?_)
    · obtain ⟨ys, ls, st, eD, hAy, hsub, hll⟩ := hP
      have hix : i < rxs.length := (List.getElem?_eq_some_iff.mp hi).1
      obtain ⟨d, hd, hyD⟩ := dpAll_get hA21 hi
      rw [List.getElem?_map] at hd
      obtain ⟨r, hr, rfl⟩ := Option.map_eq_some_iff.mp hd
      refine ⟨rfl, _, rfl, b, dg, 3, rfl, by decide, st.box, fun r2 H2 _ _ st2 => ⟨r2, 0, rfl, rfl, _, rfl, ite2 (fun e => ?_) (fun e => ⟨ys, ls, st.trans st2, st2.get hDb eD, hAy, hsub, by omega⟩)⟩⟩
      refine ⟨_, rfl, ys, st2.get hDb eD, ?_, ys ++ [y], ls ++ [r], (st.trans st2).put st21.box (del_none nD) hDb, upd_same, ?_, ?_, ?_⟩
      · rw [dpAll_len hAy, List.length_map]
        exact small1000 (by omega)
      · rw [List.map_append]
        exact dpAll_app hAy (.cons hyD .nil)
      · intro q hq
        rcases List.mem_append.mp hq with hq | hq
        · exact hsub q hq
        · have e : q = r := by simpa using hq
          rw [e]
          exact List.mem_of_getElem? hr
      · rw [List.length_append]
        show ls.length + 1 ≤ i + 1
        omega
    obtain ⟨ys, ls, st22, eD, hAy, hsub, hll⟩ := hP
    refine ⟨D, ys, rfl, .inl ⟨SqL.of eD, fun l nl => ?_⟩⟩
    have st23 := st22.new (o := .tup ys) nl
    have hD23 : Dp K (del (upd H22 l (.tup ys)) b) (.ref l) (.tuple (ls.map rdD)) := .tup (new_T st22.box nl) (dp_sameAll st23.same _ _ hAy)
    revert st23 hD23
    generalize upd H22 l (.tup ys) = H23
    intro st23 hD23
    have st23' := st21'.trans st23
    have hls : ∀ r ∈ ls, r.1 < n ∧ r.2.1 < n := fun r hr => hrs r (hsub r hr)
    have gL : ∀ H', Step b dg H23 H' → Dp K H' (.ref l) (.tuple (ls.map rdD)) := fun H' st => dp_same del_sub _ _ (dp_same st.same _ _ hD23)
    refine ⟨_, rfl, _, rfl, .ref l, n, 0, ls, rfl, by omega, by omega, gL H23 (.refl st23.box), hls, fun H24 p24 sm24 np24 ep24 => ?_⟩
    have hpb := st23.box.ne np24
    have st24 : Step b dg H23 H24 := .of st23.box sm24
    have st24' := st23'.trans st24
    have hTf : SqT K (del H24 b) p24 (natV (compo n ls 0)) := SqT.of (del_get hpb ep24)
    refine ⟨_, rfl, _, rfl, pm, ms, .ref l, ls, rfl, gTm H24 st24', by omega, by omega, gL H24 st24, by rw [hml]; exact hls, fun H25 sm25 => ⟨_, rfl, p24, _, rfl, .inr (SqT.of (sm25 _ _ ep24)), _, rfl, rfl, ?_⟩⟩
    have st25 := st24.trans (.of st24.box sm25)
    have st25' := st23'.trans st25
    refine ⟨.bl (decide ((compo ms.length ls 0).length = ms.length)), _, .bool (decide ((compo ms.length ls 0).length = ms.length)), rfl, .bl _, ?_, .inl ⟨_, rfl⟩, _, rfl, iteF ?_⟩
    · have e : decide (V.int (((natV (compo n ls 0)).length : Nat) : Int) = V.int (n : Int)) = decide ((compo ms.length ls 0).length = ms.length) := by
        rw [hml, List.length_map, Bool.eq_iff_iff, decide_eq_true_eq, decide_eq_true_eq]
        exact ⟨fun h => by have := V.int.inj h; omega, fun h => by rw [h]⟩
      rw [← e]
      exact .bl _
    obtain ⟨f3, f4⟩ := less_told (ls := ls) ht hn1 hn6 (fun r hr => hok.v r (hsub r hr)) (by omega)
    refine ⟨{ n := n, t := t, rs := rs, d := .tuple (ls.map rdD), ls := ls }, b, dg, st25.box, ⟨⟨⟨⟨rfl, ⟨_, rfl, gN H25 st25'⟩, _, rfl, gM H25 st25'⟩, rfl⟩, _, rfl, dp_same st25.same _ _ hD23⟩, ⟨p24, rfl, SqT.of (del_get hpb (sm25 _ _ ep24))⟩, rfl⟩, fit_net hfm, f3, fun H26 st26 => ne_skip f4 ?_⟩
    have st26' := st25.trans st26
    refine ⟨_, rfl, _, rfl, b, dg, n, rfl, by omega, st26.box, fun r27 H27 h270 h271 st27 => ?_⟩
    obtain ⟨s0, rfl⟩ : ∃ s0 : Nat, r27 = (s0 : Int) := ⟨r27.toNat, by omega⟩
    have st27' := st26'.trans st27
    refine ⟨_, rfl, _, rfl, _, rfl, .ref l, n, s0, ls, rfl, by omega, by omega, gL H27 st27', hls, fun H28 p28 sm28 np28 ep28 => ?_⟩
    have st28' := st27'.trans (.of st27.box sm28)
    refine ⟨_, rfl, _, rfl, _, rfl, .ref l, n, s0, ls, rfl, by omega, by omega, gL H28 st28', hls, fun H29 p29 sm29 np29 ep29 => ?_⟩
    have st29' := st28'.trans (.of st28'.box sm29)
    refine ⟨.ref p28, .ref p29, natsD (compo n ls s0), rfl, nats_at (sm29 _ _ ep28), nats_at ep29, .inr ⟨_, rfl, ?_, ?_⟩, _, rfl, iteF (fin _ H29 rfl (st23'.trans st29'))⟩
    · have := compo_le n ls s0
      omega
    · intro m hm
      have := (mem_compo.mp hm).1
      omega
end
end NC
set_option maxRecDepth 100000
set_option maxHeartbeats 4000000
namespace NC
open PySem PySem.Spec PyProof.Rows L2
/-! ### the law's head, where it is known that no repr is under way -/
section
variable {P : Program} {w : World} {K : PySem.W.Frag} {mg mb : Str → Option Value} {k : Nat} {fa a : Addr} {fd : FuncData} {y : Str} {pr : Sp} {s0 : Shared} {us : List Value} {zs : List Int}
def Ends1 (s0 : Shared) (r : Result) (s' : Shared) : Prop := r = .ok (.ret (.bool true)) ∧ OldK s0.heap s'.heap ∧ s'.os = s0.os ∧ AllBare s'.gens
theorem headG (KX : K.In s0.heap) (hgl : s0.heap.Ns mainGlobals mg) (hbl : s0.heap.Ns builtinsNs mb) (hbb : ∀ z : Str, z ≠ "__name__" → mb z = bootBuiltins z) (hno : s0.heap.NoLimit) (hgn : s0.gens = #[])
    (hat : s0.heap.get? a = some { cls := .type "list", data := .seq us.toArray }) (hin : IntsAre us zs) (hle : zs.length ≤ sizeLine) (hrm : Room k callerA)
    (okF : ∀ base : Heap, K.In base → base.Ns mainGlobals mg → FnOkG P w K mg base CX0 k fa fd [y] pr) (hbd : ∀ (s : Shared) (u : Value), BindsTo s fd ⟨[u], []⟩ [(y, u)])
    (hpr : ∀ H : Hp, Only H → SqL K H a (zs.map V.int) → pr [.ref a] H (fun v _ => v = .bl true) fun _ _ _ => False) :
    codeAny (model P w) callerA (.call (.ref fa) ⟨[.ref a], []⟩) (Ends1 s0) s0 := by
  have rz := vals_ints hin
  have hsz := hin.length
  -- whatever heap is told, so that it tells of the script alone
  have main : ∀ H : Hp, Only H ∧ SqL K H a (zs.map V.int) ∧ HOk P w H s0.heap ∧ (∀ c, H c ≠ none → c = a) ∧ (H a ≠ none → K.lookup a = none) → codeAny (model P w) callerA (.call (.ref fa) ⟨[.ref a], []⟩) (Ends1 s0) s0 := by
    rintro H ⟨hO, hS, hok, hone, hfree⟩
    have hid : ∀ {c : Addr} {o : Obj}, s0.heap.get? c = some o → H c = none → (hidT s0.heap H).get? c = some o := fun e n => hidT_get e n
    have dictFree : ∀ {c : Addr} {o : Obj} {es : Array DictEntry} {ep : Nat}, s0.heap.get? c = some o → o.data = .dict es ep → H c = none := fun {c o es ep} e dd => by
      cases hc : H c with
      | none => rfl
      | some _ =>
        obtain rfl : c = a := hone c (by rw [hc]; simp)
        rw [hat] at e
        cases e
        have : Data.seq us.toArray _ = Data.dict es ep := dd
        cases this
    have nsHid : ∀ {c : Addr} {m : Str → Option Value}, s0.heap.Ns c m → (hidT s0.heap H).Ns c m := by
      rintro c m ⟨o, es, ep, e, dd, r⟩
      exact ⟨o, es, ep, hid e (dictFree e dd), dd, r⟩
    have KB : K.In (hidT s0.heap H) := by
      intro c o e
      refine hid (KX c o e) ?_
      cases hc : H c with
      | none => rfl
      | some _ =>
        obtain rfl : c = a := hone c (by rw [hc]; simp)
        rw [hfree (by rw [hc]; simp)] at e
        cases e
    have MM : Mod K mg (hidT s0.heap H) := by
      refine ⟨KB, nsHid hgl, ⟨mb, nsHid hbl, hbb⟩, ?_⟩
      obtain ⟨mc, h1, h2⟩ := hno
      exact ⟨mc, nsHid h1, h2⟩
    have EE : Env0 P w K mg (hidT s0.heap H) callerA [] s0 H := ⟨rfl, MM, fun c o e => of_hidT e, Nat.le_of_eq (hidT_size _ _), trivial, fun c hc => absurd hc (List.not_mem_nil), hok, .of_eq hgn⟩
    refine codeAny_mono ((okF _ KB (nsHid hgl)).run callerA [] s0 H ⟨[.ref a], []⟩ [.ref a] [.ref a] _ _ rfl hrm EE (hbd s0 (.ref a)) (.cons rfl .nil) (hpr H hO hS)) ?_
    intro r s' hh
    cases r with
    | error e => exact False.elim hh
    | ok fl =>
      cases fl with
      | ret u =>
        obtain ⟨v, H', os, bare, un, hok', rv, q⟩ := hh
        obtain rfl : v = .bl true := q
        obtain rfl : u = Value.bool true := rv
        refine ⟨rfl, OldK.of_keep fun c o e => ?_, os, bare⟩
        cases hc : H c with
        | none => exact un.keep c o e hc (List.not_mem_nil) (by simp)
        | some _ =>
          rcases hO c with n | ⟨oc, ys, n⟩
          · rw [hc] at n
            cases n
          · obtain ⟨e1, _⟩ := hok c _ n
            obtain ⟨e2, _⟩ := hok' c _ (un.frzs c oc _ n)
            rw [e] at e1
            cases e1
            exact e2
      | next => exact False.elim hh
      | brk => exact False.elim hh
      | cont => exact False.elim hh
  cases hk : K.lookup a with
  | some o =>
    have e := KX a o hk
    rw [hat] at e
    cases e
    refine main (fun _ => none) ⟨fun _ => .inl rfl, .inr ⟨_, us.toArray, _, hk, rfl, rfl, rfl, ?_, ?_⟩, fun c u z => ?_, fun c z => absurd rfl z, fun z => absurd rfl z⟩
    · rw [List.size_toArray, hsz]
      exact hle
    · simpa using rz
    · have : (none : Option HO) = some u := z
      cases this
  | none =>
    refine main (fun c => if c = a then some (.frz { cls := .type "list", data := .seq us.toArray } (.lst (zs.map V.int))) else none) ⟨fun c => ?_, .inl (.inr ⟨{ cls := .type "list", data := .seq us.toArray }, if_pos rfl⟩), fun c u z => ?_, fun c z => ?_, fun _ => hk⟩
    · by_cases hc : c = a
      · exact .inr ⟨_, _, if_pos hc⟩
      · exact .inl (if_neg hc)
    · by_cases hc : c = a
      · subst hc
        have z1 := (if_pos rfl).symm.trans z
        cases z1
        exact ⟨hat, by rw [List.length_map]; exact hle, us, _, rz, hat⟩
      · have z1 := (if_neg hc).symm.trans z
        cases z1
    · by_cases hc : c = a
      · exact hc
      · exact absurd (if_neg hc) z
end
theorem walkG {l : PySem.W.OpenLaw} {n k : Nat} {q : Program} {loose : List Str} {XP : (Str → Option Value) → Heap → Prop} {YP : World → Heap → Prop} {d : DefRec} {K : Params → PySem.W.Frag} {pr : PySem.W.Frag → Sp} {y : Str}
    (hn : l.most = some n) (hn2 : n ≤ sizeLine) (hdf : d.params.defaults = []) (hrm : Room k callerA) (hY : ∀ (w : World) (h : Heap), YP w h → (K w.params).In h)
    (hF : ∀ (w : World) (mg : Str → Option Value) (fa : Addr) (h : Heap), (K w.params).In h → h.Ns mainGlobals mg → mg d.name = some (.ref fa) →
      ∃ fd : FuncData, (∀ (s : Shared) (u : Value), BindsTo s fd ⟨[u], []⟩ [(y, u)]) ∧ ∀ base : Heap, (K w.params).In base → base.Ns mainGlobals mg → FnOkG l.prog w (K w.params) mg base CX0 k fa fd [y] (pr (K w.params)))
    (hpr : ∀ (K : PySem.W.Frag) (H : Hp) (a : Addr) (zs : List Int), SqL K H a (zs.map V.int) → pr K [.ref a] H (fun v _ => v = .bl true) fun _ _ _ => False) :
    PySem.W.WalkO q loose XP YP l.row.toRowW d [] (fun f vs => PySem.call f vs) := by
  refine Att.attach_call hn hdf ?_
  intro w _ s0 mg mb fa _ _ _ _ a us zs G Y _ _ _ hmg hat hin hle hgn
  obtain ⟨fd, hbd, okF⟩ := hF w mg fa _ (hY w _ Y) G.T.g hmg
  exact headG (hY w _ Y) G.T.g G.T.b G.T.builtins G.T.nolimit hgn hat hin (Nat.le_trans hle hn2) hrm okF hbd fun H _ hS => hpr _ H a zs hS
/-! ### what the top has written -/
/-- a def of the module -/
def DefK (K : PySem.W.Frag) (x : Str) (st : Stmt) : Prop := ∃ (f : Addr) (oc : Value) (od : Option Addr) (kV dc pm : Value) (an : Option Addr) (cd ct : Value) (sl : Array (Option Value)),
  PySem.W.nsIn K mainGlobals x = some (some (.ref f)) ∧ K.lookup f = some ⟨oc, od, .func (PySem.W.fnOf x x (defArgs st) (defBody st) (defScope st) .none kV dc pm an cd ct), sl⟩ ∧ PySem.W.codeIn K cd x = true ∧ PySem.W.keepIn K (.ref f) = true
theorem DefK.of {K : PySem.W.Frag} {x : Str} {st : Stmt} {f : Addr} {oc : Value} {od : Option Addr} {kV dc pm : Value} {an : Option Addr} {cd ct : Value} {sl : Array (Option Value)} (h1 : PySem.W.nsIn K mainGlobals x = some (some (.ref f)))
    (h2 : K.lookup f = some ⟨oc, od, .func (PySem.W.fnOf x x (defArgs st) (defBody st) (defScope st) .none kV dc pm an cd ct), sl⟩) (h3 : PySem.W.codeIn K cd x = true) (h4 : PySem.W.keepIn K (.ref f) = true) : DefK K x st :=
  ⟨f, oc, od, kV, dc, pm, an, cd, ct, sl, h1, h2, h3, h4⟩
theorem DefK.get {K : PySem.W.Frag} {h : Heap} {mg : Str → Option Value} {x : Str} {st : Stmt} (D : DefK K x st) (X : K.In h) (G : h.Ns mainGlobals mg) : ∃ f fd, Fun K x x st f fd ∧ mg x = some (.ref f) := by
  obtain ⟨f, oc, od, kV, dc, pm, an, cd, ct, sl, h1, h2, h3, h4⟩ := D
  exact ⟨f, _, fun_mk h2 h3 h4, PySem.W.mg_of X G h1⟩
/-- the names that are not the module's; the constants -/
structure NamesK (K : PySem.W.Frag) : Prop where
  isinstance : PySem.W.nsIn K mainGlobals "isinstance" = some none
  int : PySem.W.nsIn K mainGlobals "int" = some none
  bool : PySem.W.nsIn K mainGlobals "bool" = some none
  str : PySem.W.nsIn K mainGlobals "str" = some none
  tuple : PySem.W.nsIn K mainGlobals "tuple" = some none
  list : PySem.W.nsIn K mainGlobals "list" = some none
  len : PySem.W.nsIn K mainGlobals "len" = some none
  range : PySem.W.nsIn K mainGlobals "range" = some none
  sorted : PySem.W.nsIn K mainGlobals "sorted" = some none
  repr : PySem.W.nsIn K mainGlobals "repr" = some none
  sup : PySem.W.nsIn K mainGlobals "super" = some none
  ve : PySem.W.nsIn K mainGlobals "ValueError" = some none
  c1 : ∃ t, PySem.W.nsIn K mainGlobals "MOST_MARKS" = some (some (.int 16 t))
  c2 : ∃ t, PySem.W.nsIn K mainGlobals "MOST_READINGS" = some (some (.int 80 t))
  c3 : ∃ t, PySem.W.nsIn K mainGlobals "MOST_VALUE" = some (some (.int 1000000 t))
  c4 : ∃ t, PySem.W.nsIn K mainGlobals "MOST_NAME" = some (some (.int 8 t))
  c5 : ∃ t, PySem.W.nsIn K mainGlobals "LETTERS" = some (some (.str lettersS t))
section
variable {K : PySem.W.Frag} {h : Heap} {mg : Str → Option Value}
theorem NamesK.none (_ : NamesK K) (X : K.In h) (G : h.Ns mainGlobals mg) {x : Str} (e : PySem.W.nsIn K mainGlobals x = some none) : mg x = .none := PySem.W.mg_none_of X G e
theorem NamesK.blt (N : NamesK K) (X : K.In h) (G : h.Ns mainGlobals mg) : Blt mg := ⟨N.none X G N.isinstance, N.none X G N.int, N.none X G N.bool, N.none X G N.str, N.none X G N.tuple, N.none X G N.list, N.none X G N.len, N.none X G N.range⟩
theorem NamesK.cst (N : NamesK K) (X : K.In h) (G : h.Ns mainGlobals mg) : Cst mg := by
  obtain ⟨t1, e1⟩ := N.c1
  obtain ⟨t2, e2⟩ := N.c2
  obtain ⟨t3, e3⟩ := N.c3
  obtain ⟨t4, e4⟩ := N.c4
  obtain ⟨t5, e5⟩ := N.c5
  exact ⟨⟨t1, PySem.W.mg_of X G e1⟩, ⟨t2, PySem.W.mg_of X G e2⟩, ⟨t3, PySem.W.mg_of X G e3⟩, ⟨t4, PySem.W.mg_of X G e4⟩, ⟨t5, PySem.W.mg_of X G e5⟩⟩
end
/-- a constant -/
theorem int_of {K : PySem.W.Frag} {x : Str} {i : Int} {t : Tok} (e : PySem.W.nsIn K mainGlobals x = some (some (.int i t))) : ∃ t, PySem.W.nsIn K mainGlobals x = some (some (.int i t)) := ⟨t, e⟩
theorem str_of {K : PySem.W.Frag} {x z : Str} {t : Tok} (e : PySem.W.nsIn K mainGlobals x = some (some (.str z t))) : ∃ t, PySem.W.nsIn K mainGlobals x = some (some (.str z t)) := ⟨t, e⟩
/-- the class of the error, and its __init__ -/
def ClsK (K : PySem.W.Frag) (C : Addr) : Prop := ∃ nm q N bs bm sn sub ab col dd k0 k1 k2 k3 k5, K.lookup C = some (excClassObj nm q C N bs bm true sn sub ab col dd k0 k1 k2 k3 k5 "ValueError.__new__") ∧ PySem.HandSPX.refsVE bm = true
theorem ClsK.of {K : PySem.W.Frag} {C : Addr} {nm q : Str} {N : Addr} {bs bm : List Value} {sn : List Str} {sub : List Value} {ab : Bool} {col : Option Bool} {dd : Option Addr} {k0 k1 k2 k3 k5 : Option Value}
    (l : K.lookup C = some (excClassObj nm q C N bs bm true sn sub ab col dd k0 k1 k2 k3 k5 "ValueError.__new__")) (r : PySem.HandSPX.refsVE bm = true) : ClsK K C := ⟨nm, q, N, bs, bm, sn, sub, ab, col, dd, k0, k1, k2, k3, k5, l, r⟩
def InitK (P : Program) (K : PySem.W.Frag) (C fI : Addr) : Prop := ∃ (oc : Value) (od : Option Addr) (dV kV doc pm : Value) (an : Option Addr) (cda cc : Addr) (ct : Value) (osl : Array (Option Value)) (ccl cl : Value) (cdd cld : Option Addr) (vs : Array Value) (ccs csl : Array (Option Value)) (file : Str) (tf : Tok),
    K.lookup fI = some ⟨oc, od, .func (PySem.W.ksFn "__init__" "BadNet.__init__" (defArgs sInit) (defBody sInit) (defScope sInit) .none kV doc pm an (.ref cda) ct cc), osl⟩ ∧ PySem.W.codeIn K (.ref cda) "BadNet.__init__" = true ∧
    K.lookup cda = some ⟨ccl, cdd, .fields vs, ccs⟩ ∧ vs[2]? = some (.str file tf) ∧ ((P.main.file : Str) == file) = true ∧ K.lookup cc = some ⟨cl, cld, .cell (some (.ref C)), csl⟩ ∧
    (P.main.scope.names.lookup ("super" : Str)).isSome = false
theorem InitK.of {P : Program} {K : PySem.W.Frag} {C fI : Addr} {oc : Value} {od : Option Addr} {kV doc pm : Value} {an : Option Addr} {cda cc : Addr} {ct : Value} {osl : Array (Option Value)} {ccl cl : Value} {cdd cld : Option Addr} {vs : Array Value} {ccs csl : Array (Option Value)} {file : Str} {tf : Tok}
    (p1 : K.lookup fI = some ⟨oc, od, .func (PySem.W.ksFn "__init__" "BadNet.__init__" (defArgs sInit) (defBody sInit) (defScope sInit) .none kV doc pm an (.ref cda) ct cc), osl⟩) (p2 : PySem.W.codeIn K (.ref cda) "BadNet.__init__" = true)
    (p3 : K.lookup cda = some ⟨ccl, cdd, .fields vs, ccs⟩) (p4 : vs[2]? = some (.str file tf)) (p5 : ((P.main.file : Str) == file) = true) (p6 : K.lookup cc = some ⟨cl, cld, .cell (some (.ref C)), csl⟩)
    (p7 : (P.main.scope.names.lookup ("super" : Str)).isSome = false) : InitK P K C fI := ⟨oc, od, .none, kV, doc, pm, an, cda, cc, ct, osl, ccl, cl, cdd, cld, vs, ccs, csl, file, tf, p1, p2, p3, p4, p5, p6, p7⟩
/-- the error classes -/
structure ErrK (P : Program) (K : PySem.W.Frag) (C fI L BE BS : Addr) : Prop where
  nC : PySem.W.nsIn K mainGlobals "BadNet" = some (some (.ref C))
  nL : PySem.W.nsIn K mainGlobals "LevelError" = some (some (.ref L))
  nE : PySem.W.nsIn K mainGlobals "BadEntry" = some (some (.ref BE))
  nS : PySem.W.nsIn K mainGlobals "BadState" = some (some (.ref BS))
  iC : PySem.W.findIn K (.ref C) "__init__" = some (some (.ref fI))
  tF : PySem.W.typeIn K (.ref fI) = some (.type "function")
  cls : ClsK K C
  sa : PySem.W.findIn K (.ref C) "__setattr__" = some (some (.builtin "object.__setattr__"))
  eX : PySem.W.subIn K (.ref C) (.type "BaseException") = some true
  tC : PySem.W.typeIn K (.ref C) = some (.type "type")
  kC : PySem.W.keepIn K (.ref C) = true
  gg : PySem.W.findIn K (.ref C) "__getattr__" = some none
  ga : PySem.W.findIn K (.ref C) "__getattribute__" = some (some (.builtin "BaseException.__getattribute__"))
  aL : PySem.W.findIn K (.ref C) "line" = some none
  aR : PySem.W.findIn K (.ref C) "reason" = some none
  hd : PySem.W.hasDictIn K C = true
  mC : PySem.W.mroIn K C (.ref C) = some true
  mO : PySem.W.mroIn K C (.type "object") = some true
  sV : PySem.W.subIn K (.ref C) (.type "ValueError") = some true
  sup : PySem.W.ks_superIn K C C "__init__" = some (some (.builtin "ValueError.__init__"))
  tp : PySem.W.nsIn K cStatics "thirdparty.any" = some none
  cl : PySem.W.findIn K (.ref C) "__class__" = some (some (.builtin "object.__class__"))
  sp : PySem.W.specialIn K (.builtin "object.__class__") "__get__" = some (some (.builtin "getset_descriptor.__get__"))
  tk : PySem.W.takesIn K (.builtin "object.__class__") = some true
  xL : PySem.W.exmOne K (.ref C) (.ref L) = some true
  kE : PySem.W.kitOne K (.ref C) (.ref BE) = some false
  kS : PySem.W.kitOne K (.ref C) (.ref BS) = some false
  kk : PySem.W.kitOne K (.ref C) (.ref C) = some true
  kV : PySem.W.kitOne K (.ref C) (.type "ValueError") = some true
  fn : InitK P K C fI
section
variable {P : Program} {K : PySem.W.Frag} {h : Heap} {mg : Str → Option Value} {C fI L BE BS : Addr}
theorem ErrK.bad (T : ErrK P K C fI L BE BS) (X : K.In h) (G : h.Ns mainGlobals mg) (ms : mg "super" = none) : BadTxt P K mg C fI :=
  { gC := PySem.W.mg_of X G T.nC, oex := ⟨T.cls, T.sa, T.eX, T.tC, T.kC⟩, gg := T.gg, ga := T.ga, nL := T.aL, nR := T.aR, iC := T.iC, tC := T.tF, hdC := T.hd, mC := T.mC, sV := T.sV, sup := T.sup, msup := ms, tp := T.tp, fn := T.fn }
theorem ErrK.err (T : ErrK P K C fI L BE BS) (X : K.In h) (G : h.Ns mainGlobals mg) (mv : mg "ValueError" = none) : ErrT K mg L C BE BS :=
  { gL := PySem.W.mg_of X G T.nL, gC := PySem.W.mg_of X G T.nC, gE := PySem.W.mg_of X G T.nE, gS := PySem.W.mg_of X G T.nS, mV := mv, xL := T.xL, kE := T.kE, kS := T.kS, kC := T.kk, kV := T.kV,
    exc := ⟨T.ga, T.gg, T.eX, T.hd, T.cl, T.sp, T.tk, T.mO⟩ }
end
theorem all_mk {P : Program} {w : World} {K : PySem.W.Frag} {h : Heap} {mg : Str → Option Value} {fa C fI L BE BS : Addr} (X : K.In h) (G : h.Ns mainGlobals mg) (hfa : mg "law" = some (.ref fa)) (EK : ErrK P K C fI L BE BS) (N : NamesK K)
    (D0 : DefK K "is_integer" sInt)
    (D1 : DefK K "is_name" sName)
    (D2 : DefK K "are_marks" sMarks)
    (D3 : DefK K "is_reading" sRead)
    (D4 : DefK K "are_readings" sReads)
    (D5 : DefK K "reached" sReach)
    (D6 : DefK K "is_joined" sJoin)
    (D7 : DefK K "is_shaped" sShape)
    (D8 : DefK K "check_net" sCheck)
    (D9 : DefK K "_law_cell" sCell)
    (D10 : DefK K "_law_digits" sDigs)
    (D11 : DefK K "_law_draw" sDraw)
    (D12 : DefK K "_law_pick" sPick)
    (D13 : DefK K "_law_same" sSame)
    (D14 : DefK K "_law_marks" sLMarks)
    (D15 : DefK K "_law_reading" sLRead)
    (D16 : DefK K "_law_net" sLNet)
    (D17 : DefK K "_law_told" sTold)
    (D18 : DefK K "_law_bad_readings" sBadR)
    (D19 : DefK K "_law_bad_marks" sBadM)
    (D20 : DefK K "_law_reached" sLReach)
    (D21 : DefK K "law" sLaw)
    : ∃ fd : FuncData, (∀ (s : Shared) (u : Value), BindsTo s fd ⟨[u], []⟩ [("_law_script", u)]) ∧ ∀ base : Heap, K.In base → base.Ns mainGlobals mg → FnOkG P w K mg base CX0 7 fa fd ["_law_script"] (spLaw K) := by
  have B : Blt mg := N.blt X G
  have CT : Cst mg := N.cst X G
  have TB : BadTxt P K mg C fI := EK.bad X G (N.none X G N.sup)
  have ET : ErrT K mg L C BE BS := EK.err X G (N.none X G N.ve)
  obtain ⟨f0, fd0, F0, g0⟩ := D0.get X G
  have b0 := F0.binds (ps := ["n", "least", "most"]) fun _ _ _ _ _ _ us hl => match us, hl with | [_, _, _], _ => rfl
  obtain ⟨f1, fd1, F1, g1⟩ := D1.get X G
  have b1 := F1.binds (ps := ["name"]) fun _ _ _ _ _ _ us hl => match us, hl with | [_], _ => rfl
  obtain ⟨f2, fd2, F2, g2⟩ := D2.get X G
  have b2 := F2.binds (ps := ["marks"]) fun _ _ _ _ _ _ us hl => match us, hl with | [_], _ => rfl
  obtain ⟨f3, fd3, F3, g3⟩ := D3.get X G
  have b3 := F3.binds (ps := ["reading", "many"]) fun _ _ _ _ _ _ us hl => match us, hl with | [_, _], _ => rfl
  obtain ⟨f4, fd4, F4, g4⟩ := D4.get X G
  have b4 := F4.binds (ps := ["readings", "many"]) fun _ _ _ _ _ _ us hl => match us, hl with | [_, _], _ => rfl
  obtain ⟨f5, fd5, F5, g5⟩ := D5.get X G
  have b5 := F5.binds (ps := ["many", "readings", "start"]) fun _ _ _ _ _ _ us hl => match us, hl with | [_, _, _], _ => rfl
  obtain ⟨f6, fd6, F6, g6⟩ := D6.get X G
  have b6 := F6.binds (ps := ["marks", "readings"]) fun _ _ _ _ _ _ us hl => match us, hl with | [_, _], _ => rfl
  obtain ⟨f7, fd7, F7, g7⟩ := D7.get X G
  have b7 := F7.binds (ps := ["net"]) fun _ _ _ _ _ _ us hl => match us, hl with | [_], _ => rfl
  obtain ⟨f8, fd8, F8, g8⟩ := D8.get X G
  have b8 := F8.binds (ps := ["net"]) fun _ _ _ _ _ _ us hl => match us, hl with | [_], _ => rfl
  obtain ⟨f9, fd9, F9, g9⟩ := D9.get X G
  have b9 := F9.binds (ps := ["_law_script", "_law_k"]) fun _ _ _ _ _ _ us hl => match us, hl with | [_, _], _ => rfl
  obtain ⟨f10, fd10, F10, g10⟩ := D10.get X G
  have b10 := F10.binds (ps := ["_law_script", "_law_first", "_law_last"]) fun _ _ _ _ _ _ us hl => match us, hl with | [_, _, _], _ => rfl
  obtain ⟨f11, fd11, F11, g11⟩ := D11.get X G
  have b11 := F11.binds (ps := ["_law_box", "_law_many"]) fun _ _ _ _ _ _ us hl => match us, hl with | [_, _], _ => rfl
  obtain ⟨f12, fd12, F12, g12⟩ := D12.get X G
  have b12 := F12.binds (ps := ["_law_box", "_law_things"]) fun _ _ _ _ _ _ us hl => match us, hl with | [_, _], _ => rfl
  obtain ⟨f13, fd13, F13, g13⟩ := D13.get X G
  have b13 := F13.binds (ps := ["_law_actual", "_law_due"]) fun _ _ _ _ _ _ us hl => match us, hl with | [_, _], _ => rfl
  obtain ⟨f14, fd14, F14, g14⟩ := D14.get X G
  have b14 := F14.binds (ps := ["_law_box", "_law_many"]) fun _ _ _ _ _ _ us hl => match us, hl with | [_, _], _ => rfl
  obtain ⟨f15, fd15, F15, g15⟩ := D15.get X G
  have b15 := F15.binds (ps := ["_law_box", "_law_heights", "_law_one", "_law_other"]) fun _ _ _ _ _ _ us hl => match us, hl with | [_, _, _, _], _ => rfl
  obtain ⟨f16, fd16, F16, g16⟩ := D16.get X G
  have b16 := F16.binds (ps := ["_law_box", "_law_most", "_law_more"]) fun _ _ _ _ _ _ us hl => match us, hl with | [_, _, _], _ => rfl
  obtain ⟨f17, fd17, F17, g17⟩ := D17.get X G
  have b17 := F17.binds (ps := ["_law_net_here"]) fun _ _ _ _ _ _ us hl => match us, hl with | [_], _ => rfl
  obtain ⟨f18, fd18, F18, g18⟩ := D18.get X G
  have b18 := F18.binds (ps := ["_law_many"]) fun _ _ _ _ _ _ us hl => match us, hl with | [_], _ => rfl
  obtain ⟨f19, fd19, F19, g19⟩ := D19.get X G
  have b19 := F19.binds (ps := ["_law_marks_here"]) fun _ _ _ _ _ _ us hl => match us, hl with | [_], _ => rfl
  obtain ⟨f20, fd20, F20, g20⟩ := D20.get X G
  have b20 := F20.binds (ps := ["_law_many", "_law_readings", "_law_start"]) fun _ _ _ _ _ _ us hl => match us, hl with | [_, _, _], _ => rfl
  obtain ⟨f21, fd21, F21, g21⟩ := D21.get X G
  have e := hfa.symm.trans g21
  cases e
  have bl : ∀ (s : Shared) (u : Value), BindsTo s fd21 ⟨[u], []⟩ [("_law_script", u)] := fun s u => by
    obtain ⟨_, _, _, _, _, _, _, _, _, e, _⟩ := F21.ex
    rw [e]
    exact .of_eq rfl
  refine ⟨fd21, bl, fun base _ _ => ?_⟩
  have GI : Cal P w K mg base CX0 1 "is_integer" f0 fd0 ["n", "least", "most"] (spInt K) := ⟨ok_int F0 B, g0, F0.kp, b0⟩
  have GNa : Cal P w K mg base CX0 1 "is_name" f1 fd1 ["name"] (spName K) := ⟨ok_name F1 B CT, g1, F1.kp, b1⟩
  have GRe : Cal P w K mg base CX0 2 "is_reading" f3 fd3 ["reading", "many"] (spRead K) := ⟨ok_read F3 B CT GI, g3, F3.kp, b3⟩
  have GRs : Cal P w K mg base CX0 3 "are_readings" f4 fd4 ["readings", "many"] (spReads K) := ⟨ok_reads F4 B CT GRe, g4, F4.kp, b4⟩
  have GMs : Cal P w K mg base CX0 2 "are_marks" f2 fd2 ["marks"] (spMarks K) := ⟨ok_marks F2 B CT GNa, g2, F2.kp, b2⟩
  have GRc : Cal P w K mg base CX0 1 "reached" f5 fd5 ["many", "readings", "start"] (spReach K) := ⟨ok_reach F5 B, g5, F5.kp, b5⟩
  have GJo : Cal P w K mg base CX0 2 "is_joined" f6 fd6 ["marks", "readings"] (spJoin K) := ⟨ok_join F6 B GRc, g6, F6.kp, b6⟩
  have GSh : Cal P w K mg base CX0 4 "is_shaped" f7 fd7 ["net"] (spShape K) := ⟨ok_shape F7 B GMs GRs, g7, F7.kp, b7⟩
  have GCh : Cal P w K mg base (L2.CX P w) 5 "check_net" f8 fd8 ["net"] (spCheck K C) := ⟨ok_check F8 TB GSh GJo, g8, F8.kp, b8⟩
  have GTo : Cal P w K mg base CX0 6 "_law_told" f17 fd17 ["_law_net_here"] (spTold K) := ⟨ok_told F17 B TB ET GCh, g17, F17.kp, b17⟩
  have GCe : Cal P w K mg base CX0 1 "_law_cell" f9 fd9 ["_law_script", "_law_k"] (spCell K) := ⟨ok_cell F9 B, g9, F9.kp, b9⟩
  have GDg : Cal P w K mg base CX0 2 "_law_digits" f10 fd10 ["_law_script", "_law_first", "_law_last"] (spDigs K) := ⟨ok_digs F10 B GCe, g10, F10.kp, b10⟩
  have GDr : Cal P w K mg base CX0 1 "_law_draw" f11 fd11 ["_law_box", "_law_many"] (spDraw K) := ⟨ok_draw F11 B, g11, F11.kp, b11⟩
  have GPi : Cal P w K mg base CX0 2 "_law_pick" f12 fd12 ["_law_box", "_law_things"] (spPick K) := ⟨ok_pick F12 B GDr, g12, F12.kp, b12⟩
  have GLm : Cal P w K mg base CX0 2 "_law_marks" f14 fd14 ["_law_box", "_law_many"] (spLMarks K) := ⟨ok_lmarks F14 B GDr, g14, F14.kp, b14⟩
  have GLr : Cal P w K mg base CX0 2 "_law_reading" f15 fd15 ["_law_box", "_law_heights", "_law_one", "_law_other"] (spLRead K) := ⟨ok_lread F15 GDr, g15, F15.kp, b15⟩
  have GLn : Cal P w K mg base CX0 3 "_law_net" f16 fd16 ["_law_box", "_law_most", "_law_more"] (spLNet K) := ⟨ok_lnet F16 B GDr GLr GLm, g16, F16.kp, b16⟩
  have GBr : Cal P w K mg base CX0 1 "_law_bad_readings" f18 fd18 ["_law_many"] (spBadR K) := ⟨ok_badr F18, g18, F18.kp, b18⟩
  have GBm : Cal P w K mg base CX0 1 "_law_bad_marks" f19 fd19 ["_law_marks_here"] (spBadM K) := ⟨ok_badm F19 B, g19, F19.kp, b19⟩
  have GLe : Cal P w K mg base CX0 1 "_law_reached" f20 fd20 ["_law_many", "_law_readings", "_law_start"] (spReach K) := ⟨ok_lreach F20 B (N.none X G N.sorted), g20, F20.kp, b20⟩
  exact ok_law F21 B GDg GLn GTo GJo GPi GBm GBr GDr (ok_same F13 (N.none X G N.repr)) g13 F13.kp b13 GRc GLe
end NC
open PySem PySem.W PyProof.Rows
set_option maxRecDepth 100000 in
set_option maxHeartbeats 0 in
theorem PySem.Challenge.cw_truelevels_k00_nets_are_checked_holds : PySem.Challenge.rw_truelevels_k00_nets_are_checked.Holds := by
  w_on; o_law; k_head; (case hw => w_witness2)
  k_fill
  refine NC.walkG (l := PySem.Challenge.rw_truelevels_k00_nets_are_checked) (n := 63) (k := 7) (y := "_law_script") (pr := NC.spLaw) rfl (by decide) rfl ⟨rfl, by decide, by decide⟩ (fun w h Y => PySem.W.kIn_of Y) ?F (fun _ _ a ns hS => ⟨a, ns, rfl, hS, fun _ => rfl⟩)
  case F =>
    intro w mg fa h KX G hmg
    refine' NC.all_mk KX G hmg ?ek ?nk ?d0 ?d1 ?d2 ?d3 ?d4 ?d5 ?d6 ?d7 ?d8 ?d9 ?d10 ?d11 ?d12 ?d13 ?d14 ?d15 ?d16 ?d17 ?d18 ?d19 ?d20 ?d21
    (case ek =>
      refine' ⟨?nC, ?nL, ?nE, ?nS, ?iC, ?tF, ?cls, ?sa, ?eX, ?tC, ?kC, ?gg, ?ga, ?aL, ?aR, ?hd, ?mC, ?mO, ?sV, ?sup, ?tp, ?cl, ?sp, ?tk, ?xL, ?kE, ?kS, ?kk, ?kV, ?fn⟩
      (case nC => k_is); (case nL => k_is); (case nE => k_is); (case nS => k_is); (case iC => k_is); (case tF => k_is)
      (case cls => refine' NC.ClsK.of ?l ?r; (case l => k_is); (case r => decide +kernel))
      (case sa => k_is); (case eX => k_is); (case tC => k_is); (case kC => k_is); (case gg => k_is); (case ga => k_is); (case aL => k_is); (case aR => k_is); (case hd => k_is); (case mC => k_is); (case mO => k_is); (case sV => k_is)
      (case sup => kernel_rfl)
      (case tp => k_is); (case cl => k_is); (case sp => k_is); (case tk => k_is)
      (case xL => kernel_rfl); (case kE => kernel_rfl); (case kS => kernel_rfl); (case kk => kernel_rfl); (case kV => kernel_rfl)
      (case fn =>
        refine' NC.InitK.of ?p1 ?p2 ?p3 ?p4 ?p5 ?p6 ?p7
        (case p1 => k_is); (case p2 => k_is); (case p3 => k_is); (case p4 => exact rfl); (case p5 => decide +kernel); (case p6 => k_is); (case p7 => decide +kernel)))
    (case nk =>
      refine' ⟨?z1, ?z2, ?z3, ?z4, ?z5, ?z6, ?z7, ?z8, ?z9, ?z10, ?z11, ?z12, NC.int_of ?c1, NC.int_of ?c2, NC.int_of ?c3, NC.int_of ?c4, NC.str_of ?c5⟩
      (case z1 => k_is); (case z2 => k_is); (case z3 => k_is); (case z4 => k_is); (case z5 => k_is); (case z6 => k_is); (case z7 => k_is); (case z8 => k_is); (case z9 => k_is); (case z10 => k_is); (case z11 => k_is); (case z12 => k_is)
      (case c1 => k_is); (case c2 => k_is); (case c3 => k_is); (case c4 => k_is); (case c5 => k_is))
    (case d0 => (refine' NC.DefK.of ?a ?l ?c ?k; (case a => k_is); (case l => k_is); (case c => k_is); (case k => k_is)))
    (case d1 => (refine' NC.DefK.of ?a ?l ?c ?k; (case a => k_is); (case l => k_is); (case c => k_is); (case k => k_is)))
    (case d2 => (refine' NC.DefK.of ?a ?l ?c ?k; (case a => k_is); (case l => k_is); (case c => k_is); (case k => k_is)))
    (case d3 => (refine' NC.DefK.of ?a ?l ?c ?k; (case a => k_is); (case l => k_is); (case c => k_is); (case k => k_is)))
    (case d4 => (refine' NC.DefK.of ?a ?l ?c ?k; (case a => k_is); (case l => k_is); (case c => k_is); (case k => k_is)))
    (case d5 => (refine' NC.DefK.of ?a ?l ?c ?k; (case a => k_is); (case l => k_is); (case c => k_is); (case k => k_is)))
    (case d6 => (refine' NC.DefK.of ?a ?l ?c ?k; (case a => k_is); (case l => k_is); (case c => k_is); (case k => k_is)))
    (case d7 => (refine' NC.DefK.of ?a ?l ?c ?k; (case a => k_is); (case l => k_is); (case c => k_is); (case k => k_is)))
    (case d8 => (refine' NC.DefK.of ?a ?l ?c ?k; (case a => k_is); (case l => k_is); (case c => k_is); (case k => k_is)))
    (case d9 => (refine' NC.DefK.of ?a ?l ?c ?k; (case a => k_is); (case l => k_is); (case c => k_is); (case k => k_is)))
    (case d10 => (refine' NC.DefK.of ?a ?l ?c ?k; (case a => k_is); (case l => k_is); (case c => k_is); (case k => k_is)))
    (case d11 => (refine' NC.DefK.of ?a ?l ?c ?k; (case a => k_is); (case l => k_is); (case c => k_is); (case k => k_is)))
    (case d12 => (refine' NC.DefK.of ?a ?l ?c ?k; (case a => k_is); (case l => k_is); (case c => k_is); (case k => k_is)))
    (case d13 => (refine' NC.DefK.of ?a ?l ?c ?k; (case a => k_is); (case l => k_is); (case c => k_is); (case k => k_is)))
    (case d14 => (refine' NC.DefK.of ?a ?l ?c ?k; (case a => k_is); (case l => k_is); (case c => k_is); (case k => k_is)))
    (case d15 => (refine' NC.DefK.of ?a ?l ?c ?k; (case a => k_is); (case l => k_is); (case c => k_is); (case k => k_is)))
    (case d16 => (refine' NC.DefK.of ?a ?l ?c ?k; (case a => k_is); (case l => k_is); (case c => k_is); (case k => k_is)))
    (case d17 => (refine' NC.DefK.of ?a ?l ?c ?k; (case a => k_is); (case l => k_is); (case c => k_is); (case k => k_is)))
    (case d18 => (refine' NC.DefK.of ?a ?l ?c ?k; (case a => k_is); (case l => k_is); (case c => k_is); (case k => k_is)))
    (case d19 => (refine' NC.DefK.of ?a ?l ?c ?k; (case a => k_is); (case l => k_is); (case c => k_is); (case k => k_is)))
    (case d20 => (refine' NC.DefK.of ?a ?l ?c ?k; (case a => k_is); (case l => k_is); (case c => k_is); (case k => k_is)))
    (case d21 => (refine' NC.DefK.of ?a ?l ?c ?k; (case a => k_is); (case l => k_is); (case c => k_is); (case k => k_is)))
