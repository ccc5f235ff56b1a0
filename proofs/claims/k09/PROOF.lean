import PyProof.Rows.All
import Wide.All
import OpenK.AllK
import Wide.FinOn
import HandS.ForMost
import HandS.ForExc
import HandS.Codes
import KE.KExcLine
import KE.KExcPX
import HandS.ClsMeth
import HandS.EndTab
import HandS.Head2
import HandS.HeadHook4
import HandS.HeadEnd
import KE.KOpsOwn
import KE.KCallOwn
import HandS.Small
import HandS.FStr
import HandS.Defaults
import HandS.Property
import HandS.WordsExc
import HandS.ExcIs
import HandS.ExcValue
import HandS.IsInst
import HandS.ExcField
import HandS.MakeKwOnly
import HandS.Exc
import HandS.Wide
import PyProof.Rows.RegStrFacts
import PyProof.ReprRoads
import PyProof.CallFns
import HandS.Lambda
import HandS.Style
import HandS.Flow
import HandS.TupAny
import HandS.TryOnly
import HandS.MakeKw
import HandS.Star
import HandS.SortInts
import HandS.OwnEq
import KE.KFmtOwn
import PySem.Challenge.RW_allzooms_k09_whole_roundings_rise_and_co
set_option Elab.async false
set_option linter.all false
set_option maxRecDepth 100000
set_option maxHeartbeats 4000000
/-! An own exception class over ValueError (bases of the program between) whose __init__ says super().__init__(..) and stores its parameters. -/
namespace AzX
open PySem PySem.W PySem.Calls PyProof.Rows
/-- what the written part says of the class at C and its __init__ at fI (parameters ps behind self) -/
structure ExK (P : Program) (K : Frag) (mg : Str → Option Value) (C fI : Addr) (params : Arguments) (body : List Stmt) (scope : Scope) : Prop where
  fn : ∃ (oc : Value) (od : Option Addr) (osl : Array (Option Value)) (qual : Str) (kV doc pm : Value) (an : Option Addr) (cda : Addr) (ct : Value) (cc : Addr) (ccl : Value) (cdd : Option Addr) (vs : Array Value) (ccs : Array (Option Value)) (file : Str) (tf : Tok) (cl : Value) (cld : Option Addr) (csl : Array (Option Value)),
    K.lookup fI = some ⟨oc, od, .func (ksFn "__init__" qual params body scope .none kV doc pm an (.ref cda) ct cc), osl⟩ ∧ codeIn K (.ref cda) qual = true ∧ K.lookup cda = some ⟨ccl, cdd, .fields vs, ccs⟩ ∧ vs[2]? = some (.str file tf) ∧
    ((P.main.file : Str) == file) = true ∧ K.lookup cc = some ⟨cl, cld, .cell (some (.ref C)), csl⟩
  cls : ∃ nm q N bs bm sn sub ab col dd k0 k1 k2 k3 k5, K.lookup C = some (excClassObj nm q C N bs bm true sn sub ab col dd k0 k1 k2 k3 k5 "ValueError.__new__") ∧ PX.refsVE bm = true
  self : mroIn K C (.ref C) = some true
  sup : ks_superIn K C C "__init__" = some (some (.builtin "ValueError.__init__"))
  sub : subIn K (.ref C) (.type "ValueError") = some true
  opq : nsIn K cStatics "thirdparty.any" = some none
  sa : findIn K (.ref C) "__setattr__" = some (some (.builtin "object.__setattr__"))
  mgS : mg "super" = none
  top : (P.main.scope.names.lookup ("super" : Str)).isSome = false
  iC : findIn K (.ref C) "__init__" = some (some (.ref fI))
  tC : typeIn K (.ref fI) = some (.type "function")
  kC : keepIn K (.ref C) = true

abbrev sup1 (p0 p1 p2 p3 p4 : Pos) (args : List PySem.Expr) : Stmt := .Expr (.Call (.Attribute (.Call (.Name "super" p0) [] [] p1) "__init__" p2) args [] p3) p4
section
variable {prog : Program} {w : World} {A : Around} {E : Value → Shared → Prop} {R : Result → Shared → Prop} {s : Shared} {K : Frag} {mg : Str → Option Value} {base : Heap} {C fI : Addr} {params : Arguments} {body : List Stmt} {scope : Scope}
/-- super().__init__(args), run within __init__'s own activation -/
theorem sup_run {fd : FuncData} {qual : Str} {cda cc x t0 L : Addr} {p0 p1 p2 p3 p4 : Pos} {args : List PySem.Expr} {us : List Value} {m : Str → Option Value} {body : List Stmt} {ar : Arg} {of oc : Obj} {vs : Array Value} {file : Str} {tf : Tok} {Q : Flow → Shared → Prop} {pl : Sem Bool}
    (M : L2.Mod K mg base) (kb : ∀ b o, base.get? b = some o → s.heap.get? b = some o) (hx : s.heap.get? x = some (PX.excO C t0))
    (hks : scope.names.lookup ("super" : Str) = some .globalImplicit) (hkc : scope.names.lookup ("__class__" : Str) = some .free) (hka : scope.names.lookup ar.arg = some .local) (hk : scope.kind = .function)
    (hf : s.heap.get? fI = some of) (hfd : of.data = .func fd) (hp : (fd.params.posonlyargs ++ fd.params.args).head? = some ar)
    (hcc : s.heap.get? cda = some oc) (hoc : oc.data = .fields vs) (hvs : vs[2]? = some (.str file tf)) (hfile : ((prog.main.file : Str) == file) = true)
    (hcell : s.heap.IsCell cc (some (.ref C))) (T : ExK prog K mg C fI params body scope)
    (hn : s.heap.Ns L m) (hself : m ar.arg = some (.ref x)) (hz : us.length ≤ sizeLine)
    (hargs : ∀ (s1 : Shared) (Q1 : List Value → Shared → Prop), (∀ b o, s.heap.get? b = some o → s1.heap.get? b = some o) → Q1 us s1 → wpAny (model prog w) A (spliced (backTo p3 (starEach args (ksEnv qual scope L fI (.ref cda) cc)))) Q1 E s1)
    (hpl : (backTo p3 (starEach args (ksEnv qual scope L fI (.ref cda) cc))).any (·.1) = false)
    (hev : ∀ (f : Value) (s1 : Shared) (Q1 : Args → Shared → Prop), wpAny (model prog w) A (spliced (backTo p3 (starEach args (ksEnv qual scope L fI (.ref cda) cc)))) (fun vs s' => Q1 ⟨vs, []⟩ s') E s1 → wpAny (model prog w) A (evalArgs f true (backTo p3 (starEach args (ksEnv qual scope L fI (.ref cda) cc))) []) Q1 E s1)
    (he : eval (.Call (.Attribute (.Call (.Name "super" p0) [] [] p1) "__init__" p2) args [] p3) (ksEnv qual scope L fI (.ref cda) cc) = (do
      let ov ← attributeBase (.Call (.Name "super" p0) [] [] p1) "__init__" (ksEnv qual scope L fI (.ref cda) cc) (eval (.Call (.Name "super" p0) [] [] p1) (ksEnv qual scope L fI (.ref cda) cc))
      standAt p2.atName
      let (f, first) ← holding [ov] (getMethod ov "__init__" pl)
      callWith p3 f first (backTo p3 (starEach args (ksEnv qual scope L fI (.ref cda) cc))) []))
    (hsw : swapsWith (.Call (.Attribute (.Call (.Name "super" p0) [] [] p1) "__init__" p2) args [] p3) none p4.line (ksEnv qual scope L fI (.ref cda) cc) = pure false)
    (hq : ∀ h' t1 tk, (∀ b o, b ≠ x → s.heap.get? b = some o → h'.get? b = some o) → h'.get? x = some (PX.excO C t1) → Q .next { s with heap := h', toks := tk }) :
    _root_.PySem.wpAt (model prog w) A (.func body (ksEnv qual scope L fI (.ref cda) cc)) (exec (sup1 p0 p1 p2 p3 p4 args) (ksEnv qual scope L fI (.ref cda) cc)) Q E s := by
  have X : K.In s.heap := M.kin.keeps kb
  obtain ⟨nm, q, N, bs, bm, sn, sub, ab, col, dd, k0, k1, k2, k3, k5, hC, hbm⟩ := T.cls
  have hC' := X _ _ hC
  have hT := fun X => PX.refsVE_contains X bm hbm
  obtain ⟨mb, hb1, hb2⟩ := M.blt
  obtain ⟨hh, g, d, t, os⟩ := s
  refine ks_wpAt_Expr_any (ks_wpAt_MethodCall (pl := pl) ?_ he) (by unfold interactive; rw [show (ksEnv qual scope L fI (.ref cda) cc).scope.kind = .function from hk]; rfl) hsw
  refine ks_wpAt_super_base (env := ksEnv qual scope L fI (.ref cda) cc) hks hkc (by decide) rfl hf hfd hp rfl hcc hoc hvs hfile T.top ?_
  refine ks_loadName_global hk hks (loadGlobal_builtin (env := ksEnv qual scope L fI (.ref cda) cc) (M.glob.keeps kb) T.mgS (hb1.keeps kb) ((hb2 _ (by decide)).trans (by first | rfl | kernel_rfl)) ⟨rfl, ?_⟩)
  refine wpAny_loadName_free hk hkc rfl hcell ?_
  refine wpAny_loadName_local hk hka hn hself ?_
  refine ks_wpAny_isType_cls hC' rfl ⟨rfl, ?_⟩
  refine ks_wpAny_call_super hC' rfl hx rfl (fun c e => by cases e) (looks_mroIn X T.self) (fun h1 hso k1' => ?_)
  have X1 : K.In h1 := X.keeps k1'
  have hx1 := k1' _ _ hx
  have I1 : InstAt h1 x (PX.excO C t0) C none := ⟨hx1, rfl, rfl, trivial⟩
  have hcl : clsIn K C = some { name := nm, bases := bs, mro := .ref C :: bm, ns := N, qualname := q, hasDict := true, slotNames := sn, subclasses := sub, abstract := ab, collection := col, hasDel := false } := by unfold clsIn; rw [hC] <;> rfl
  have hsup := T.sup
  unfold ks_superIn at hsup
  rw [hcl] at hsup
  refine kxs_getMethod kxs_ValueError hso (looks_opaque X1 T.opq) (l₀ := .ref C :: bm) ?_ rfl X1 hsup (I1.type.andThen (looks_subIn X1 T.sub)) (ks_ne X1 I1 hcl) (by decide) ?_
  · exact fun A Q E s k q => wpAny_bind ((looks_clsIn X1 hcl) A _ E s k (wpAny_pure q))
  have k2' : ∀ b o, h1.get? b = some o → (h1.push (kxs_mw "ValueError.__init__" x)).get? b = some o := fun b o e => Heap.get?_push_of_some _ e
  have hu : (h1.push (kxs_mw "ValueError.__init__" x)).get? h1.objs.size = some (kxs_mw "ValueError.__init__" x) := Heap.get?_push_at rfl rfl
  refine kxs_callWith (i := "ValueError.__init__") (x := x) hpl (hev _ _ _ (hargs _ _ (fun b o e => k2' b o (k1' b o e)) ⟨hu, ?_⟩))
  have hx2 := k2' _ _ hx1
  have hC2 := k2' _ _ (k1' _ _ hC')
  refine wpAny_call (codeAny_of_tree ?_)
  show wpAny _ A.in1 (callAny (.ref h1.objs.size) ⟨us, []⟩) _ _ _
  simp only [callAny]
  refine wpAny_bind (wpAny_load hu ?_)
  simp only [kxs_mw, show (Value.type "method-wrapper" == Value.type "method" || Value.type "method-wrapper" == Value.type "builtin_function_or_method" || Value.type "method-wrapper" == Value.type "method-wrapper") = true by decide, if_true]
  refine KFB.if_so (by decide) ?_
  refine wpAny_bind (check_bound_init F.excBase_ValueError.toExcCallFacts hC2 hx2 rfl ?_)
  refine wpAny_bind (wpAny_pure (wpAny_pure ?_))
  refine ⟨plainId_quiet F.excBase_ValueError.init.plain _, codeAny_builtin F.excBase_ValueError.initEntry ?_⟩
  refine exc_init_tree (cls := .ref C) (t0 := t0) (dv := none) (c2 := .none) (c3 := .none) (b4 := .bool false) hx2 hz fun h3 k3' hx3 _ => ?_
  exact hq h3 _ _ (fun b o hb e => k3' b o hb (k2' b o (k1' b o e))) hx3
end
end AzX

/-! Readings step by step: one lemma for each word of the hand layer. -/
namespace Az
open PySem L2
section
variable {σ : L2.St} {H H1 : Hp} {Q : VK} {v x y : V} {i j : Int} {a p : Addr} {K : PySem.W.Frag}
theorem i_var {n : Nat} (h : σ[n]? = some (some v)) (k : Q v H) : tVar n σ H Q := ⟨v, h, k⟩
theorem i_c (k : Q v H) : tC v σ H Q := k
theorem i_op {r : R2} {ta tb : TE} (k : ta σ H fun x H1 => tb σ H1 fun y H2 => r x y H2 Q) : tOp r ta tb σ H Q := k
theorem i_un {r : V → Hp → VK → Prop} {ta : TE} (k : ta σ H fun x H1 => r x H1 Q) : tUn r ta σ H Q := k
theorem i_I0 {g : Int → Int → V} (k : Q (g i j) H) : rI0 g (.int i) (.int j) H Q := ⟨i, j, rfl, rfl, k⟩
theorem i_I {C : Int → Int → Prop} {g : Int → Int → V} (c : C i j) (k : Q (g i j) H) : rI C g (.int i) (.int j) H Q := ⟨i, j, rfl, rfl, c, k⟩
theorem i_U {g : Int → V} (k : Q (g i) H) : rU g (.int i) H Q := ⟨i, rfl, k⟩
theorem i_test {t : TE} {R : Bool → Hp → Prop} (k : t σ H fun x H' => ∃ k, x = .bl k ∧ R k H') : tTest t σ H R := k
theorem i_tB {t : TE} {R : Bool → Hp → Prop} (k : t σ H fun x H' => ∃ k, x = .bl k ∧ R k H') : tB t σ H R := k
theorem i_bl {b : Bool} {R : Bool → Prop} (k : R b) : ∃ c, V.bl b = .bl c ∧ R c := ⟨b, rfl, k⟩
theorem i_int1 {R : Int → Prop} (k : R i) : ∃ c, V.int i = .int c ∧ R c := ⟨i, rfl, k⟩
theorem i_seq {t u : TS} {D : Ends} (k : t { D with nx := u D } σ H) : tSeq t u D σ H := k
theorem i_asg {te : TE} {g : TG} {D : Ends} (k : te σ H fun x H1 => g x σ H1 D.nx) : tAsg te g D σ H := k
theorem i_name {n : Nat} {R : L2.St → Hp → Prop} (k : R (σ.set n (some v)) H) : gName n v σ H R := k
theorem i_ret {te : TE} {D : Ends} (k : te σ H D.rt) : tRet te D σ H := k
theorem i_drop {te : TE} {D : Ends} (k : te σ H fun _ H1 => D.nx σ H1) : tDrop te D σ H := k
theorem i_next {D : Ends} (k : D.nx σ H) : tNext D σ H := k
theorem i_ifS {c : TT} {t u : TS} {D : Ends} (k : c σ H fun b H1 => if b = true then t D σ H1 else u D σ H1) : tIfS c t u D σ H := k
theorem i_if {c : TT} {ta tb : TE} (k : c σ H fun b H1 => if b = true then ta σ H1 Q else tb σ H1 Q) : tIf c ta tb σ H Q := k
theorem i_and {t u : TT} {R : Bool → Hp → Prop} (k : t σ H fun c H1 => if c = true then u σ H1 R else R false H1) : tAnd t u σ H R := k
theorem i_or {t u : TT} {R : Bool → Hp → Prop} (k : t σ H fun c H1 => if c = true then R true H1 else u σ H1 R) : tOr t u σ H R := k
theorem i_not {t : TT} {R : Bool → Hp → Prop} (k : t σ H fun c H1 => R (!c) H1) : tNot t σ H R := k
theorem i_andV {ta tb : TE} (k : ta σ H fun x H1 => ∃ c, x = .bl c ∧ if c = true then tb σ H1 Q else Q (.bl false) H1) : tAndV ta tb σ H Q := k
theorem i_orV {ta tb : TE} (k : ta σ H fun x H1 => ∃ c, x = .bl c ∧ if c = true then Q (.bl true) H1 else tb σ H1 Q) : tOrV ta tb σ H Q := k
theorem i_notV {ta : TE} (k : ta σ H fun x H1 => ∃ c, x = .bl c ∧ Q (.bl (!c)) H1) : tNotV ta σ H Q := k
theorem i_nil {R : List V → Hp → Prop} (k : R [] H) : tNil σ H R := k
theorem i_cons {ta : TE} {tr : TA} {R : List V → Hp → Prop} (k : ta σ H fun x H1 => tr σ H1 fun xs H2 => R (x :: xs) H2) : tCons ta tr σ H R := k
theorem i_tup {t : TA} (k : t σ H fun xs H1 => xs.length ≤ sizeLine ∧ ∀ p, H1 p = none → Q (.ref p) (upd H1 p (.tup xs))) : tTup t σ H Q := k
theorem i_lst {t : TA} (k : t σ H fun xs H1 => xs.length ≤ sizeLine ∧ ∀ p, H1 p = none → Q (.ref p) (upd H1 p (.lst xs))) : tLst t σ H Q := k
theorem i_CB {r : List V → Hp → VK → Prop} {t : TA} (k : t σ H fun vs H1 => r vs H1 Q) : tCB r t σ H Q := k
theorem i_call {sp : Sp} {E : XK} {t : TA} (k : t σ H fun vs H1 => sp vs H1 Q E) : tCall sp [] E t σ H Q := by
  unfold tCall
  simpa only [List.append_nil] using k
theorem i_fld {C dx : Addr} {fs : List (Str × V)} {f : Str} (h : H a = some (.ins C dx fs)) (c : Cls K C) (n : NoAttr K C f) (l : fs.lookup f = some v) (k : Q v H) : (∃ a' C dx fs v, V.ref a = .ref a' ∧ H a' = some (.ins C dx fs) ∧ Cls K C ∧ NoAttr K C f ∧ fs.lookup f = some v ∧ Q v H) := ⟨a, C, dx, fs, v, rfl, h, c, n, l, k⟩
theorem i_tFld {ta : TE} {f : Str} (k : ta σ H fun x H1 => ∃ a C dx fs v, x = .ref a ∧ H1 a = some (.ins C dx fs) ∧ Cls K C ∧ NoAttr K C f ∧ fs.lookup f = some v ∧ Q v H1) : tFld K ta f σ H Q := k
theorem i_ixL {xs : List V} (h : H p = some (.lst xs)) (hv : atI xs i = some v) (k : Q v H) : rIxL K (.ref p) (.int i) H Q := ⟨p, xs, i, v, rfl, rfl, SqL.of h, hv, k⟩
theorem i_ixT {xs : List V} (h : H p = some (.tup xs)) (hv : atI xs i = some v) (k : Q v H) : rIxT K (.ref p) (.int i) H Q := ⟨p, xs, i, v, rfl, rfl, SqT.of h, hv, k⟩
theorem i_setL {xs : List V} {n : Nat} {R : Hp → Prop} (h : H p = some (.lst xs)) (hn : ixN xs.length i = some n) (k : R (upd H p (.lst (xs.set n v)))) : rSetL (.ref p) (.int i) v H R := ⟨p, xs, i, n, rfl, rfl, h, hn, k⟩
theorem i_set31 {x0 x1 x2 : V} {R : Hp → Prop} (h : H p = some (.lst [x0, x1, x2])) (k : R (upd H p (.lst [x0, v, x2]))) : rSetL (.ref p) (.int 1) v H R := ⟨p, _, 1, 1, rfl, rfl, h, rfl, k⟩
theorem i_set32 {x0 x1 x2 : V} {R : Hp → Prop} (h : H p = some (.lst [x0, x1, x2])) (k : R (upd H p (.lst [x0, x1, v]))) : rSetL (.ref p) (.int 2) v H R := ⟨p, _, 2, 2, rfl, rfl, h, rfl, k⟩
theorem i_sub {to ti : TE} {t : TSet} {R : L2.St → Hp → Prop} (k : to σ H fun o H1 => ti σ H1 fun i H2 => t o i v H2 fun H3 => R σ H3) : gSub to ti t v σ H R := k
theorem i_sl {r : V → Option Int → Option Int → Hp → VK → Prop} {te : TE} {tl th : TO} (k : te σ H fun x H1 => tl σ H1 fun l H2 => th σ H2 fun u H3 => r x l u H3 Q) : tSl r te tl th σ H Q := k
theorem i_noPart {R : Option Int → Hp → Prop} (k : R none H) : tNoPart σ H R := k
theorem i_part {t : TE} {R : Option Int → Hp → Prop} (k : t σ H fun x H1 => ∃ i, x = .int i ∧ R (some i) H1) : tPart t σ H R := k
theorem i_dec {q : Prop} [Decidable q] {A B : Prop} (h1 : q → A) (h2 : ¬ q → B) : if decide q = true then A else B := by
  by_cases h : q
  · rw [if_pos (decide_eq_true h)]; exact h1 h
  · rw [if_neg (by rw [decide_eq_false h]; exact Bool.false_ne_true)]; exact h2 h
theorem i_ndec {q : Prop} [Decidable q] {A B : Prop} (h1 : ¬ q → A) (h2 : q → B) : if (!decide q) = true then A else B := by
  by_cases h : q
  · rw [if_neg (by rw [decide_eq_true h]; exact Bool.false_ne_true)]; exact h2 h
  · rw [if_pos (by rw [decide_eq_false h]; rfl)]; exact h1 h
theorem i_b2 {b : Bool} {A B : Prop} (h1 : b = true → A) (h2 : b = false → B) : if b = true then A else B := by
  cases b
  · rw [if_neg Bool.false_ne_true]; exact h2 rfl
  · rw [if_pos rfl]; exact h1 rfl
def rInt : List V → Hp → VK → Prop := fun xs H Q => (∃ i, xs = [.int i] ∧ Q (.int i) H) ∨ ∃ k, xs = [.bl k] ∧ Q (.int (if k then 1 else 0)) H
theorem c_int {X : Cx} : CallR X (.type "int") rInt := call_int1
def rAbs : List V → Hp → VK → Prop := fun xs H Q => ∃ i, xs = [.int i] ∧ Q (.int (if i < 0 then -i else i)) H
theorem c_abs {X : Cx} : CallR X (.builtin "abs") rAbs := call_abs
def rLenS (K : PySem.W.Frag) : List V → Hp → VK → Prop := fun xs H Q => ∃ p ys, xs = [.ref p] ∧ (SqL K H p ys ∨ SqT K H p ys) ∧ Q (.int ys.length) H
theorem c_len {X : Cx} : CallR X (.builtin "len") (rLenS X.K) := call_len_seq
def rListOf (K : PySem.W.Frag) : List V → Hp → VK → Prop := fun xs H Q => ∃ p ys, xs = [.ref p] ∧ (SqL K H p ys ∨ SqT K H p ys) ∧ ∀ l, H l = none → Q (.ref l) (upd H l (.lst ys))
theorem c_list {X : Cx} : CallR X (.type "list") (rListOf X.K) := call_list_of
theorem i_int (k : Q (.int i) H) : rInt [.int i] H Q := .inl ⟨i, rfl, k⟩
theorem i_intB {b : Bool} (k : Q (.int (if b then 1 else 0)) H) : rInt [.bl b] H Q := .inr ⟨b, rfl, k⟩
theorem i_abs (k : Q (.int (if i < 0 then -i else i)) H) : rAbs [.int i] H Q := ⟨i, rfl, k⟩
theorem i_len {xs : List V} (h : H p = some (.lst xs)) (k : Q (.int xs.length) H) : rLenS K [.ref p] H Q := ⟨p, xs, rfl, .inl (SqL.of h), k⟩
theorem i_lenT {xs : List V} (h : H p = some (.tup xs)) (k : Q (.int xs.length) H) : rLenS K [.ref p] H Q := ⟨p, xs, rfl, .inr (SqT.of h), k⟩
theorem i_neL0 {xs : List Int} {b : Addr} (h : H p = some (.lst (xs.map V.int))) (h2 : H b = some (.lst [])) (k : Q (.bl (!xs.isEmpty)) H) : rNeD K (.ref p) (.ref b) H Q := by
  have da : ∀ l : List Int, DpAll K H (l.map V.int) (l.map PyData.int) := fun l => by
    induction l with
    | nil => exact .nil
    | cons x r ih => exact .cons (.int x) ih
  refine ⟨.list (xs.map PyData.int), .list [], .lst (SqL.of h) (da xs), .lst (SqL.of h2) .nil, ?_, rfl, ?_⟩
  · have c0 : ∀ l : List Int, PyData.canLayAll0 (l.map PyData.int) = true := fun l => by
      induction l with
      | nil => simp [PyData.canLayAll0]
      | cons x r ih => simp [PyData.canLayAll0, PyData.canLay0, ih]
    have d0 : ∀ l : List Int, PyData.depthAll (l.map PyData.int) = 0 := fun l => by
      induction l with
      | nil => simp [PyData.depthAll]
      | cons x r ih => simp [PyData.depthAll, PyData.depth, ih]
    simp [SeqAt.shaped, PyData.canLay0, PyData.depth, c0, d0]
  · cases xs with
    | nil => exact k
    | cons x r => exact k
theorem i_cat {l b : Addr} {xs zs : List V} (h1 : H l = some (.lst xs)) (h2 : H b = some (.lst zs)) (hz : xs.length + zs.length ≤ sizeLine) (k : ∀ p, H p = none → Q (.ref p) (upd H p (.lst (xs ++ zs)))) : rCat (.ref l) (.ref b) H Q := ⟨l, b, xs, zs, rfl, rfl, h1, h2, hz, k⟩
theorem i_fresh {n : Nat} {R : Addr → Prop} (hn : n ≤ sizeLine) (k : ∀ p, H p = none → R p) : n ≤ sizeLine ∧ ∀ p, H p = none → R p := ⟨hn, k⟩
theorem size_ok {n : Nat} (h : Nat.ble n 16777216 = true) : n ≤ sizeLine := by rw [sizeLine_eq]; exact Nat.le_of_ble_eq_true h
theorem i_eq {x y : V} (s : scal x y = true) (k : Q (.bl (decide (x = y))) H) : rEq x y H Q := ⟨s, k⟩
theorem i_ne {x y : V} (s : scal x y = true) (k : Q (.bl (!decide (x = y))) H) : rNe x y H Q := ⟨s, k⟩
end
theorem mul_bd {a b : Int} (A B : Int) (ha : 0 ≤ a) (hb : 0 ≤ b) (hA : a ≤ A) (hB : b ≤ B) : 0 ≤ a * b ∧ a * b ≤ A * B :=
  ⟨Int.mul_nonneg ha hb, Int.mul_le_mul hA hB hb (Int.le_trans ha hA)⟩
theorem mix_lt {m s c5 c6 c7 : Int} (hm0 : 0 ≤ m) (hm1 : m < 2147483648) (hs0 : 0 ≤ s) (hs1 : s ≤ 100000) (h5 : 0 ≤ c5 ∧ c5 ≤ 100000) (h6 : 0 ≤ c6 ∧ c6 ≤ 1000000) (h7 : 0 ≤ c7 ∧ c7 ≤ 1000000) :
    (m * (2 * s + c5) + c6 * s * s + c7).natAbs < 2 ^ 64 := by
  have a := mul_bd (a := m) (b := 2 * s + c5) 2147483648 300000 hm0 (by omega) (by omega) (by omega)
  have b := mul_bd (a := c6) (b := s) 1000000 100000 h6.1 hs0 h6.2 hs1
  have c := mul_bd (a := c6 * s) (b := s) (1000000 * 100000) 100000 b.1 hs0 b.2 hs1
  have e : (2 : Int) ^ 64 = 18446744073709551616 := by decide
  omega
theorem get_new {H : Hp} {a p : Addr} {o o' : HO} (hp : H p = none) (h : H a = some o) : upd H p o' a = some o := by rw [upd_ne (ne_of_none h hp)]; exact h
theorem get_put {H : Hp} {a p : Addr} {o o' : HO} (n : a ≠ p) (h : H a = some o) : upd H p o' a = some o := by rw [upd_ne n]; exact h
theorem ne_upd_none {H : Hp} {a p : Addr} {o : HO} (h : upd H p o a = none) : H a = none := by
  by_cases e : a = p
  · subst e; rw [upd_same] at h; cases h
  · rw [upd_ne e] at h; exact h
/-- all that stood stands, but what is at a -/
def Ext (a : Addr) (H H' : Hp) : Prop := ∀ b o, H b = some o → b ≠ a → H' b = some o
theorem Ext.refl (a : Addr) (H : Hp) : Ext a H H := fun _ _ h _ => h
theorem Ext.trans {a : Addr} {H H1 H2 : Hp} (x : Ext a H H1) (y : Ext a H1 H2) : Ext a H H2 := fun b o h n => y b o (x b o h n) n
theorem Ext.new {a p : Addr} {o : HO} {H : Hp} (h : H p = none) : Ext a H (upd H p o) := fun b o' e _ => by rw [upd_ne (ne_of_none e h)]; exact e
theorem Ext.put {a : Addr} {o : HO} {H : Hp} : Ext a H (upd H a o) := fun b o' e n => by rw [upd_ne n]; exact e
theorem Ext.andNew {a p : Addr} {o : HO} {H H1 : Hp} (x : Ext a H H1) (h : H1 p = none) : Ext a H (upd H1 p o) := x.trans (.new h)
theorem Ext.andPut {a : Addr} {o : HO} {H H1 : Hp} (x : Ext a H H1) : Ext a H (upd H1 a o) := x.trans .put
theorem Ext.of_same {a : Addr} {H H1 : Hp} (x : Same H H1) : Ext a H H1 := fun b o e _ => x b o e
theorem same_new {H H1 : Hp} {p : Addr} {o : HO} (s : Same H H1) (h : H1 p = none) : Same H (upd H1 p o) := fun b o' e => get_new h (s b o' e)
theorem same_new2 {H H1 : Hp} {p d : Addr} {o o' : HO} (s : Same H H1) (h : H1 p = none) (h2 : H1 d = none) (n : d ≠ p) : Same H (upd (upd H1 d o) p o') := same_new (same_new s h2) (by rw [upd_ne (Ne.symm n)]; exact h)
end Az

/-! C.m(e, ..) of a static method. -/
namespace Az
open PySem PySem.Spec PyProof.Rows L2 ClX
/-- C.m is a staticmethod: its record at p, its def at g -/
structure SMet (K : PySem.W.Frag) (C : Addr) (mc : Value) (m : Str) (p g : Addr) : Prop where
  at_ : PySem.W.findCls K (.ref C) mc m = some (.get (.builtin "staticmethod.__get__") (.ref p) .none (.ref C))
  rc : ∃ rest, PySem.W.recIn K p "staticmethod" = some (.ref g :: rest)
  kp : PySem.W.keepIn K (.ref g) = true
def tSMeth (C : Addr) (sp : Sp) (dvs : List V) (E : XK) (ta : TE) (t : TA) : TE := fun σ H Q => ta σ H fun x H1 => x = .ref C ∧ t σ H1 fun vs H2 => sp (vs ++ dvs) H2 Q E
section
variable {X : Cx} {CX : CXT} {k : Nat} {C p g : Addr} {mc : Value} {sp : Sp} {E : XK} {o e : Expr} {es : List Expr} {m : Str} {pos apos : Pos} {ta : TE} {t : TA} {pl : Sem Bool} {fd : FuncData} {ps : List Str} {ds : List Value} {dvs : List V}
theorem pe_smeth (he : PE X o ta) (r : CRead X.K C mc) (c : SMet X.K C mc m p g) (F : FnOk X.prog X.w X.K X.mg X.base CX k g fd ps sp) (hr : Room k X.A) (hb : Binds X.K fd ps ds) (hd : Vals dvs ds) (hx : Passes CX X E) (ha : PA X (e :: es) t)
    (hst : starEach (e :: es) X.env = (false, eval e X.env) :: starEach es X.env := by rfl) (hpl : (backTo pos (starEach es X.env)).any (·.1) = false := by rfl)
    (ht : eval (.Call (.Attribute o m apos) (e :: es) [] pos) X.env = (do
      let ov ← eval o X.env
      standAt apos.atName
      let (f, first) ← holding [ov] (getMethod ov m pl)
      callWith pos f first (backTo pos (starEach (e :: es) X.env)) (backToKw pos (keywordEach [] X.env))) := by rfl) :
    PE X (.Call (.Attribute o m apos) (e :: es) [] pos) (tSMeth C sp dvs E ta t) := by
  refine ⟨fun pins s σ H Q I h => ?_⟩
  refine PySem.W.methodCall_KW (pl := pl) (thn (he.run pins s σ H _ I h) fun u s1 ⟨x, H1, I1, rx, ex, q⟩ => ?_) ht
  subst ex
  obtain rfl : u = Value.ref C := rx
  obtain ⟨rest, hp⟩ := c.rc
  refine PySem.W.method_cls I1.kIn r.ga (PySem.W.cls_bind I1.kIn r.rd c.at_ (wpAny_call (PySem.W.sm_get (s := { s1 with toks := s1.toks + 1 }) I1.kIn hp (PySem.W.handed_on rfl ?_))))
  have I2 := I1.tok (s1.toks + 1)
  refine PySem.W.callWith_K (first := []) (h₀ := X.base) I.ok.mod.kin c.kp (thn (ha.run pos pins _ σ H1 _ I2 q) fun us s2 ⟨vs, H2, I3, rv, q2⟩ => ⟨I3.kIn, ?_⟩) hst hpl
  exact run_fn F hr hb hd hx I3 rv q2
end
end Az

/-! A def's promise where the guards of repr are known to be none, and the law's end over it. -/
namespace Az
open PySem PySem.Spec PyProof.Rows L2 LamX
/-- as FnOk, called where no repr is under way -/
structure FnG (P : Program) (w : World) (K : PySem.W.Frag) (mg : Str → Option Value) (base : Heap) (CX : CXT) (k : Nat) (f : Addr) (fd : FuncData) (ps : List Str) (sp : Sp) : Prop where
  len : ∀ vs H Q E, sp vs H Q E → vs.length = ps.length
  run : ∀ (A : Around) (outer : List Env) (s : Shared) (H : Hp) (args : Args) (us : List Value) (vs : List V) (Q : VK) (E : XK), Room k A → A.guards = some [] → Env0 P w K mg base A outer s H → BindsTo s fd args (ps.zip us) → Vals vs us → sp vs H Q E →
    codeAny (model P w) A (.call (.ref f) args) (CR CX outer P w H s Q E) s
theorem FnG.of {P : Program} {w : World} {K : PySem.W.Frag} {mg : Str → Option Value} {base : Heap} {CX : CXT} {k : Nat} {f : Addr} {fd : FuncData} {ps : List Str} {sp : Sp} (F : FnOk P w K mg base CX k f fd ps sp) : FnG P w K mg base CX k f fd ps sp :=
  ⟨F.len, fun A outer s H args us vs Q E hr _ => F.run A outer s H args us vs Q E hr⟩
/-- of a def that does as told wherever it is called with the guards known: its promise -/
theorem fn_ofG {CX : CXT} {P : Program} {w : World} {K : PySem.W.Frag} {mg : Str → Option Value} {base : Heap} {k : Nat} {f : Addr} {name qual : Str} {params : Arguments} {body : List Stmt} {scope : Scope} {dV kV doc pm cdv ct oc : Value} {an od : Option Addr}
    {osl : Array (Option Value)} {N ps : List Str} {sp : Sp} (lk : K.lookup f = some ⟨oc, od, .func (PySem.W.fnOf name qual params body scope dV kV doc pm an cdv ct), osl⟩) (hcd : PySem.W.codeIn K cdv qual = true) (S : FnScope N ps scope)
    (len : ∀ vs H Q E, sp vs H Q E → vs.length = ps.length)
    (hbody : ∀ (A : Around) (outer : List Env) (s : Shared) (H : Hp) (vs : List V) (Q : VK) (E : XK), Room k (A.deeper (envOfC qual scope s.heap.objs.size f cdv)) → A.guards = some [] → sp vs H Q E →
      ∃ t, PSs (cxOf CX P w K mg base N qual scope f cdv A outer s H E) body t ∧ t { nx := fun _ H' => Q .non H', rt := Q } (start N vs) H) :
    FnG P w K mg base CX (k + 1) f (PySem.W.fnOf name qual params body scope dV kV doc pm an cdv ct) ps sp := by
  refine ⟨len, fun A outer s H args us vs Q E hr hgd e0 hb r hsp => ?_⟩
  have hl := len _ _ _ _ hsp
  have kp : ∀ b o, base.get? b = some o → s.heap.get? b = some o := fun b o e => (e0.bs b o e).1
  have KX : K.In s.heap := e0.mod.kin.keeps kp
  have lim : s.heap.NoLimit := e0.mod.nolimit.keeps kp
  have hkind : ∀ y ∈ ps.zip us, scope.names.lookup y.1 = some .local ∨ (scope.names.lookup y.1 = some .cell ∧ ((cellsFrom (s.heap.objs.size + 1) scope.names []).lookup y.1).isSome = true) := fun ⟨n, v⟩ hy =>
    (S.par n (List.of_mem_zip hy).1).imp (fun q => q) fun q => ⟨q, PySem.W.cellsFrom_some _ _ _ (.inl q)⟩
  refine codeAny_call_function hr.depth (KX _ _ lk) rfl S.co S.gen rfl (PySem.W.codeRec_of KX hcd) (hb _ _ _ _ (wpAny_newFunctionEnv_cells S.kind hkind fun env he s1 x => ?_))
  subst he
  refine ⟨lim.keeps x.toInCall.keep, codeAny_func ?_⟩
  obtain ⟨t, ht, hq⟩ := hbody A outer s H vs Q E (hr.deeper _) hgd hsp
  refine wpAny_mono (ht.run [] s1 (start N vs) H _ (inv_start S hr.hd e0 hl r x) hq) (fun fl s' hs => ?_) fun e s' hs => hs
  have fin : ∀ {σ' : L2.St} {H' : Hp} {v : V} {u : Value}, Inv (cxOf CX P w K mg base N qual scope f cdv A outer s H E) [] σ' H' s' → RelV v u → Q v H' → CE outer P w H s Q u s' :=
    fun {σ' H' v u} J rv q => ⟨v, H', J.os, J.bare, J.base, J.hok, rv, q⟩
  cases fl with
  | ret u => obtain ⟨v, σ', H', J, rv, q⟩ := hs; exact fin J rv q
  | next => obtain ⟨σ', H', J, q⟩ := hs; exact fin (v := V.non) (u := Value.none) J rfl q
  | brk => obtain ⟨_, _, _, q⟩ := hs; exact False.elim q
  | cont => obtain ⟨_, _, _, q⟩ := hs; exact False.elim q
section
variable {P : Program} {w : World} {K : PySem.W.Frag} {mg : Str → Option Value} {base : Heap}
/-- of a def of the text -/
theorem okG {x qual : Str} {st : Stmt} {f : Addr} {fd : FuncData} {N ps : List Str} {k : Nat} {sp : Sp} (F : Fun K x qual st f fd) (S : FnScope N ps (defScope st)) (len : ∀ vs H Q E, sp vs H Q E → vs.length = ps.length)
    (hbody : ∀ (cdv : Value) (A : Around) (outer : List Env) (s : Shared) (H : Hp) (vs : List V) (Q : VK) (E : XK), Room k (A.deeper (envOfC qual (defScope st) s.heap.objs.size f cdv)) → A.guards = some [] → sp vs H Q E →
      ∃ t, PSs (cxOf CX0 P w K mg base N qual (defScope st) f cdv A outer s H E).nox (defBody st) t ∧ t { nx := fun _ H' => Q .non H', rt := Q } (start N vs) H) : FnG P w K mg base CX0 (k + 1) f fd ps sp := by
  obtain ⟨oc, od, kV, doc, pm, an, cdv, ct, osl, rfl, lk, hcd⟩ := F.ex
  refine fn_ofG lk hcd S len fun A outer s H vs Q E hr hg hsp => ?_
  obtain ⟨t, h, q⟩ := hbody cdv A outer s H vs Q E hr hg hsp
  exact ⟨t, h.nox, q⟩
end
section
variable {X : Cx} {CX : CXT} {k : Nat} {f : Addr} {fd : FuncData} {ps : List Str} {sp : Sp} {dvs : List V} {ds : List Value} {E : XK} {x : Str} {p pos : Pos} {e : Expr} {es : List Expr} {t : TA}
theorem run_fnG {pins : List (Addr × Obj)} {σ : L2.St} {H : Hp} {s : Shared} {Q : VK} {us : List Value} {vs : List V} (F : FnG X.prog X.w X.K X.mg X.base CX k f fd ps sp) (hr : Room k X.A) (hgd : X.A.guards = some []) (hb : Binds X.K fd ps ds) (hd : Vals dvs ds) (hx : Passes CX X E)
    (I : Inv X pins σ H s) (r : Vals vs us) (h : sp (vs ++ dvs) H Q E) : wpAny (model X.prog X.w) X.A (call (.ref f) us) (EP X pins σ Q) X.xe s := by
  have r2 : Vals (vs ++ dvs) (us ++ ds) := r.append hd
  have hl : (us ++ ds).length = ps.length := by rw [← r2.length]; exact F.len _ _ _ _ h
  refine wpAny_call (codeAny_mono (F.run X.A X.stack s H ⟨us, []⟩ (us ++ ds) (vs ++ dvs) Q E hr hgd I.env0 (hb s us I.kIn hl) r2 h) fun r s' hq => ?_)
  cases r with
  | error e => exact hx pins σ H s e s' I hq
  | ok fl => cases fl with
    | ret u => exact I.after hq
    | next => exact False.elim hq
    | brk => exact False.elim hq
    | cont => exact False.elim hq
/-- f(e, ..) -/
theorem pe_callG (F : FnG X.prog X.w X.K X.mg X.base CX k f fd ps sp) (hr : Room k X.A) (hgd : X.A.guards = some []) (hg : Gl X x) (hm : X.mg x = some (.ref f)) (hk : PySem.W.keepIn X.K (.ref f) = true) (hb : Binds X.K fd ps ds) (hd : Vals dvs ds) (hx : Passes CX X E)
    (ha : PA X (e :: es) t) (hdb : (x == ("__debug__" : Str)) = false := by decide) (he : starEach (e :: es) X.env = (false, eval e X.env) :: starEach es X.env := by rfl) (hpl : (backTo pos (starEach es X.env)).any (·.1) = false := by rfl) :
    PE X (.Call (.Name x p) (e :: es) [] pos) (tCall sp dvs E t) := by
  refine ⟨fun pins s σ H Q I h => ?_⟩
  refine wpAny_Call_Name_kw (ld_glob I hg hm ?_ hdb)
  refine PySem.W.callWith_K (h₀ := X.base) I.ok.mod.kin hk (thn (ha.run pos pins s σ H _ I h) fun us s1 ⟨vs, H1, I1, r1, q1⟩ => ?_) he hpl
  exact ⟨I1.kIn, run_fnG F hr hgd hb hd hx I1 r1 q1⟩
end
/-- the law's call from its promise, the guards told -/
theorem law_callG {P : Program} {w : World} {K : PySem.W.Frag} {mg mb : Str → Option Value} {CX : CXT} {k : Nat} {fa a : Addr} {cs : List (Addr × Addr)} {fd : FuncData} {x : Str} {sp : Sp} {s₁ : Shared} {vs : List Value} {ns : List Int}
    (KX : K.In s₁.heap) (hns : s₁.heap.Ns mainGlobals mg) (hb : s₁.heap.Ns builtinsNs mb) (hbb : ∀ x : Str, x ≠ "__name__" → mb x = bootBuiltins x) (hlim : s₁.heap.NoLimit) (hg : s₁.gens = #[])
    (hT : ∀ p ∈ cs, s₁.heap.get? p.2 = some { cls := .none, data := .fields #[] }) (nT : ∀ p ∈ cs, K.lookup p.2 = none) (C : ∀ p ∈ cs, PySem.W.CodeHd s₁.heap p.1 p.2)
    (hbm : ∃ (bm : Addr) (ob : Obj), mg "__builtins__" = some (.ref bm) ∧ bm ≠ builtinsNs ∧ s₁.heap.get? bm = some ob ∧ ob.cls = .type "module" ∧ ob.dict = some builtinsNs ∧ ob.data = .plain)
    (ha : s₁.heap.get? a = some { cls := .type "list", data := .seq vs.toArray }) (hi : IntsAre vs ns) (hl : ns.length ≤ sizeLine) (hr : Room k callerA)
    (F : ∀ base : Heap, K.In base → base.Ns mainGlobals mg → (∀ p ∈ cs, TabB base mg p.1 p.2) → FnG P w K mg base CX k fa fd [x] sp) (hbind : ∀ (s : Shared) (u : Value), BindsTo s fd ⟨[u], []⟩ [(x, u)])
    (hsp : ∀ H : Hp, (∀ p ∈ cs, H p.2 = some (.tbl #[])) → SqL K H a (ns.map V.int) → sp [.ref a] H (fun v _ => v = .bl true) fun _ _ _ => False)
    (hCX : ∀ H e s', CX [] H s₁ (fun _ _ _ => False) e s' → False) :
    codeAny (model P w) callerA (.call (.ref fa) ⟨[.ref a], []⟩) (fun r s' => r = .ok (.ret (.bool true)) ∧ OldK s₁.heap s'.heap ∧ s'.os = s₁.os ∧ AllBare s'.gens) s₁ := by
  have rv := vals_ints hi
  have lenV := hi.length
  have isT : ∀ b : Addr, b ∈ cs.map (·.2) → s₁.heap.get? b = some { cls := .none, data := .fields #[] } := fun b hb => by
    obtain ⟨p, hp, e⟩ := List.mem_map.mp hb
    rw [← e]
    exact hT p hp
  have aT : a ∉ cs.map (·.2) := fun z => by
    have q := isT a z
    rw [ha] at q
    have z' : Data.seq vs.toArray _ = Data.fields #[] := congrArg Obj.data (Option.some.inj q)
    cases z'
  have memT : ∀ p ∈ cs, p.2 ∈ cs.map (·.2) := fun p hp => List.mem_map.mpr ⟨p, hp, rfl⟩
  -- from an abstract heap in which nothing but the script and the tables may be tracked
  have core : ∀ H : Hp, (∀ p ∈ cs, H p.2 = some (.tbl #[])) → (∀ b, H b = none ∨ b ∈ cs.map (·.2) ∨ ∃ o xs, H b = some (.frz o (.lst xs))) → SqL K H a (ns.map V.int) → HOk P w H s₁.heap → (∀ b, H b ≠ none → b = a ∨ b ∈ cs.map (·.2)) → (H a ≠ none → K.lookup a = none) →
      codeAny (model P w) callerA (.call (.ref fa) ⟨[.ref a], []⟩) (fun r s' => r = .ok (.ret (.bool true)) ∧ OldK s₁.heap s'.heap ∧ s'.os = s₁.os ∧ AllBare s'.gens) s₁ := by
    intro H hH hO hS hok hA hK
    have base_of : ∀ {b : Addr} {o : Obj}, s₁.heap.get? b = some o → H b = none → (hidT s₁.heap H).get? b = some o := fun e n => hidT_get e n
    have noD : ∀ {b : Addr} {o : Obj}, s₁.heap.get? b = some o → (∀ vs n, o.data ≠ .seq vs n) → o.data ≠ .fields #[] → H b = none := fun {b o} e h1 h2 => by
      cases q : H b with
      | none => rfl
      | some u =>
        rcases hA b (by rw [q]; simp) with e' | e'
        · rw [e', ha] at e
          cases e
          exact (h1 _ _ rfl).elim
        · rw [isT b e'] at e
          cases e
          exact (h2 rfl).elim
    have noA : ∀ {b : Addr} {o : Obj} {es : Array DictEntry} {ep : Nat}, s₁.heap.get? b = some o → o.data = .dict es ep → H b = none := fun {b o es ep} e d => by
      refine noD e (fun vs n z => ?_) fun z => ?_
      · rw [d] at z
        cases z
      · rw [d] at z
        cases z
    have nsK : ∀ {b : Addr} {m : Str → Option Value}, s₁.heap.Ns b m → (hidT s₁.heap H).Ns b m := fun {b m} ⟨o, es, ep, e, d, r⟩ => ⟨o, es, ep, base_of e (noA e d), d, r⟩
    have hKb : K.In (hidT s₁.heap H) := fun b o e => base_of (KX b o e) (by
      cases q : H b with
      | none => rfl
      | some u =>
        rcases hA b (by rw [q]; simp) with e' | e'
        · rw [e'] at e q
          rw [hK (by rw [q]; simp)] at e
          cases e
        · obtain ⟨p, hp, ep⟩ := List.mem_map.mp e'
          rw [← ep, nT p hp] at e
          cases e)
    have hM : L2.Mod K mg (hidT s₁.heap H) := ⟨hKb, nsK hns, ⟨mb, nsK hb, hbb⟩, let ⟨mc, h1, h2⟩ := hlim; ⟨mc, nsK h1, h2⟩⟩
    have TB : ∀ p ∈ cs, TabB (hidT s₁.heap H) mg p.1 p.2 := fun p hp => by
      have hTp := hT p hp
      refine ⟨?_, ?_, fun z => ?_⟩
      · obtain ⟨o, us, file, tf, flags, tg, inF, text, tt, e1, r1, r2, r3, r4, r5, r6, r7, r8, hne⟩ := C p hp
        refine ⟨o, us, file, tf, flags, tg, inF, text, tt, base_of e1 (noD e1 (fun vs n z => ?_) fun z => ?_), r1, r2, r3, r4, r5, r6, r7, r8, hne⟩
        · rw [r2] at z
          cases z
        · rw [r2] at z
          cases z
          simp at r3
      · obtain ⟨bm, ob, b1, b2, b3, b4, b5, b6⟩ := hbm
        have nG : bm ≠ mainGlobals := fun q => by
          obtain ⟨o, es, ep, e, hd, _⟩ := hns
          rw [q, e] at b3
          cases b3
          rw [hd] at b6
          cases b6
        have nP : bm ≠ p.2 := fun q => by
          rw [q, hTp] at b3
          cases b3
          cases b6
        refine ⟨bm, ob, b1, b2, nG, nP, base_of b3 (noD b3 (fun vs n z => ?_) fun z => ?_), b4, b5, b6⟩
        · rw [b6] at z
          cases z
        · rw [b6] at z
          cases z
      · obtain ⟨o, es, ep, e, hd, _⟩ := hns
        rw [z, hTp] at e
        cases e
        cases hd
    have e0 : Env0 P w K mg (hidT s₁.heap H) callerA [] s₁ H := ⟨rfl, hM, fun b o e => of_hidT e, Nat.le_of_eq (hidT_size _ _), trivial, fun b hb => absurd (show b ∈ ([] : List Addr) from hb) (by simp), hok, .of_eq hg⟩
    refine codeAny_mono ((F _ hKb (nsK hns) TB).run callerA [] s₁ H ⟨[.ref a], []⟩ [.ref a] [.ref a] _ _ hr rfl e0 (hbind s₁ (.ref a)) (.cons rfl .nil) (hsp H hH hS)) fun r s' h => ?_
    cases r with
    | error e => exact (hCX H e s' h).elim
    | ok fl =>
      cases fl with
      | next => exact False.elim h
      | brk => exact False.elim h
      | cont => exact False.elim h
      | ret u =>
        obtain ⟨v, H', os, bare, un, hok', r', q⟩ := h
        have q' : v = .bl true := q
        subst q'
        obtain rfl : u = Value.bool true := r'
        have key : ∀ b o, b ∉ cs.map (·.2) → s₁.heap.get? b = some o → s'.heap.get? b = some o := fun b o nb e => by
          cases q : H b with
          | none => exact un.keep b o e q (by intro z; exact absurd (show b ∈ ([] : List Addr) from z) (by simp)) (by simp)
          | some u =>
            rcases hO b with z | z | ⟨ob, xs, z⟩
            · rw [q] at z; cases z
            · exact absurd z nb
            · have z2 := un.frzs b ob _ z
              obtain ⟨e1, _⟩ := hok b _ z
              obtain ⟨e2, _⟩ := hok' b _ z2
              rw [e] at e1; cases e1
              exact e2
        have grown : ∀ p ∈ cs, ∃ more : Array Value, s'.heap.get? p.2 = some { cls := .none, data := .fields more } := fun p hp => by
          obtain ⟨more, z⟩ := un.tbls p.2 #[] (hH p hp)
          exact ⟨_, hok' p.2 _ z⟩
        refine ⟨rfl, ⟨fun b o e => ?_, fun b o e => ?_⟩, os, bare⟩
        · by_cases hb : b ∈ cs.map (·.2)
          · obtain ⟨p, hp, ep⟩ := List.mem_map.mp hb
            obtain ⟨more, hm⟩ := grown p hp
            rw [← ep] at e ⊢
            rw [hT p hp] at e
            cases e
            exact .inr (.inl ⟨((C p hp).tab (hT p hp)).isCodeTable, rfl, #[], more, rfl, by rw [Array.empty_append]; exact hm⟩)
          · exact .inl (key b o hb e)
        · by_cases hb : b ∈ cs.map (·.2)
          · obtain ⟨p, hp, ep⟩ := List.mem_map.mp hb
            obtain ⟨more, hm⟩ := grown p hp
            rw [← ep]
            exact ⟨_, hm⟩
          · exact ⟨o, key b o hb e⟩
  cases hk : K.lookup a with
  | some o =>
    have e := KX a o hk
    rw [ha] at e
    cases e
    refine core (fun b => if b ∈ cs.map (·.2) then some (.tbl #[]) else none) (fun p hp => if_pos (memT p hp)) (fun b => ?_) (.inr ⟨_, vs.toArray, _, hk, rfl, rfl, rfl, by rw [List.size_toArray, lenV]; exact hl, by simpa using rv⟩) (fun b u z => ?_) (fun b z => ?_) fun z => absurd (show (if a ∈ cs.map (·.2) then some (HO.tbl #[]) else none) = none from if_neg aT) z
    · by_cases hb : b ∈ cs.map (·.2)
      · exact .inr (.inl hb)
      · exact .inl (if_neg hb)
    · by_cases hb : b ∈ cs.map (·.2)
      · have z' := (if_pos hb).symm.trans z
        cases z'
        exact isT b hb
      · have z' := (if_neg hb).symm.trans z
        cases z'
    · by_cases hb : b ∈ cs.map (·.2)
      · exact .inr hb
      · exact absurd (if_neg hb) z
  | none =>
    refine core (fun b => if b = a then some (.frz { cls := .type "list", data := .seq vs.toArray } (.lst (ns.map V.int))) else if b ∈ cs.map (·.2) then some (.tbl #[]) else none) (fun p hp => (if_neg (show ¬ p.2 = a from fun z => aT (by rw [← z]; exact memT p hp))).trans (if_pos (memT p hp))) (fun b => ?_)
      (.inl (.inr ⟨{ cls := .type "list", data := .seq vs.toArray }, if_pos rfl⟩)) (fun b u z => ?_) (fun b z => ?_) fun _ => hk
    · by_cases hb : b = a
      · exact .inr (.inr ⟨_, _, if_pos hb⟩)
      · by_cases hb2 : b ∈ cs.map (·.2)
        · exact .inr (.inl hb2)
        · exact .inl ((if_neg hb).trans (if_neg hb2))
    · by_cases hb : b = a
      · have z' := (if_pos hb).symm.trans z
        cases z'
        rw [hb]
        exact ⟨ha, by rw [List.length_map]; exact hl, vs, _, rv, ha⟩
      · have z1 := (if_neg hb).symm.trans z
        by_cases hb2 : b ∈ cs.map (·.2)
        · have z' := (if_pos hb2).symm.trans z1
          cases z'
          exact isT b hb2
        · have z' := (if_neg hb2).symm.trans z1
          cases z'
    · by_cases hb : b = a
      · exact .inl hb
      · by_cases hb2 : b ∈ cs.map (·.2)
        · exact .inr hb2
        · exact absurd ((if_neg hb).trans (if_neg hb2)) z
/-- what is known of the law's promise at the head's heap h -/
def LawAtG (l : PySem.W.OpenLaw) (w : World) (K : PySem.W.Frag) (CX : CXT) (k n : Nat) (x : Str) (mg : Str → Option Value) (fa : Addr) (h : Heap) : Prop :=
  ∃ (fd : FuncData) (cs : List (Addr × Addr)) (sp : Sp), (∀ p ∈ cs, h.get? p.2 = some { cls := .none, data := .fields #[] }) ∧ (∀ p ∈ cs, K.lookup p.2 = none) ∧ (∀ p ∈ cs, PySem.W.CodeHd h p.1 p.2) ∧ (∀ (s : Shared) (u : Value), BindsTo s fd ⟨[u], []⟩ [(x, u)]) ∧
    (∀ (H : Hp) (a : Addr) (ns : List Int), ns.length ≤ n → (∀ z ∈ ns, Builtin.Int.intBits z ≤ 1048576) → (∀ p ∈ cs, H p.2 = some (.tbl #[])) → SqL K H a (ns.map V.int) → sp [.ref a] H (fun v _ => v = .bl true) fun _ _ _ => False) ∧
    ∀ base : Heap, K.In base → base.Ns mainGlobals mg → (∀ p ∈ cs, TabB base mg p.1 p.2) → FnG l.prog w K mg base CX k fa fd [x] sp
theorem walk_ofG {l : PySem.W.OpenLaw} {n k : Nat} {q : Program} {loose : List Str} {XP : (Str → Option Value) → Heap → Prop} {YP : World → Heap → Prop} {d : DefRec} {K : Params → PySem.W.Frag} {CX : World → CXT} {x : Str}
    (hn : l.most = some n) (hn2 : n ≤ sizeLine) (hdf : d.params.defaults = []) (hr : Room k callerA) (hY : ∀ (w : World) (h : Heap), YP w h → (K w.params).In h)
    (F : ∀ (w : World) (mg : Str → Option Value) (fa : Addr) (h : Heap), YP w h → (K w.params).In h → h.Ns mainGlobals mg → mg d.name = some (.ref fa) → LawAtG l w (K w.params) (CX w) k n x mg fa h)
    (hCX : ∀ (w : World) (H : Hp) (s : Shared) (e : Value) (s' : Shared), CX w [] H s (fun _ _ _ => False) e s' → False) :
    PySem.W.WalkO q loose XP YP l.row.toRowW d [] (fun f vs => PySem.call f vs) := by
  refine Att.attach_callB hn hdf fun w s₀ s₁ mg mb fa o pm cd doc a vs ns G Y ho hd hcd hmg hobj hints hlen hbits hg => ?_
  have KX := hY w _ Y
  obtain ⟨fd, cs, sp, hT, nT, C, hb, hsp, hF⟩ := F w mg fa _ Y KX G.T.g hmg
  exact law_callG KX G.T.g G.T.b G.T.builtins G.T.nolimit hg hT nT C G.T.bmain hobj hints (Nat.le_trans hlen hn2) hr hF hb (fun H hH hS => hsp H a ns hlen hbits hH hS) fun H e s' => hCX w H s₁ e s'
end Az

/-! The head by facts: defs anywhere (static ones, class ones, those with __class__), own errors, any further Bool. -/
namespace Hz
open PySem PySem.Spec PyProof.Rows L2 He
/-- the def of a static or class method, of a property, whose record stands in the class -/
def sAd (K : PySem.W.Frag) (C m : Str) : Addr := match K.lookup (ma K (ga K C) m) with
  | some ⟨_, _, .fields vs, _⟩ => (match vs.toList with
    | .ref a :: _ => a
    | _ => 0)
  | _ => 0
/-- where a def stands: a global's, a class's method, a method behind a record -/
inductive At where
  | g (x : Str)
  | m (C x : Str)
  | s (C x : Str)
def At.ad (K : PySem.W.Frag) : At → Addr
  | .g x => ga K x
  | .m C x => ma K (ga K C) x
  | .s C x => sAd K C x
abbrev FnZ : Type := Option (Str × Str × Arguments × FuncBody × Scope × Addr × List Str × Addr)
def fnZ (K : PySem.W.Frag) (a : Addr) : FnZ := match K.lookup a with
  | some ⟨_, _, .func fd, _⟩ => some (fd.name, fd.qualname, fd.params, fd.body, fd.scope, fd.globals, fd.closure.map fun q => q.1, fd.builtins)
  | _ => none
structure DefZ where
  at_ : At
  name : Str
  qual : Str
  st : Stmt
  dfl : List Dv := []
  clo : Bool := false
def DefZ.val (d : DefZ) : FnZ := some (d.name, d.qual, defArgs d.st, FuncBody.stmts (defBody d.st), defScope d.st, mainGlobals, if d.clo then [("__class__" : Str)] else [], builtinsNs)
def DefZ.dvs (K : PySem.W.Frag) (d : DefZ) : List V := d.dfl.map (Dv.v K)
def DefZ.ok (K : PySem.W.Frag) (d : DefZ) : Bool := PySem.W.keepIn K (.ref (d.at_.ad K)) && (match K.lookup (d.at_.ad K) with
  | some ⟨_, _, .func fd, _⟩ => PySem.W.codeIn K fd.code d.qual && dflB K fd.defaults (d.dvs K)
  | _ => false)
abbrev FnP (K : PySem.W.Frag) (d : DefZ) (fd : FuncData) : Prop := FunD K d.name d.qual (defArgs d.st) (defBody d.st) (defScope d.st) (d.dvs K) [] (d.at_.ad K) fd
theorem DefZ.funD {K : PySem.W.Frag} {d : DefZ} (hc : d.clo = false) (e : fnZ K (d.at_.ad K) = d.val) (c : d.ok K = true) : ∃ fd, FnP K d fd := by
  obtain ⟨kp, c2⟩ := ba c
  unfold fnZ at e
  cases q : K.lookup (d.at_.ad K) with
  | none =>
    rw [q] at c2
    cases c2
  | some o =>
    obtain ⟨oc, od, dt, osl⟩ := o
    rw [q] at c2 e
    cases dt with
    | func fd =>
      obtain ⟨n1, n2, n3, n4, n5, n6, n7, n8, n9, n10, n11, n12, n13, n14, n15⟩ := fd
      have e2 : (some (n1, n2, n3, n4, n5, n6, n7.map fun q => q.1, n15) : FnZ) = some (d.name, d.qual, defArgs d.st, FuncBody.stmts (defBody d.st), defScope d.st, mainGlobals, if d.clo then [("__class__" : Str)] else [], builtinsNs) := e
      rw [hc] at e2
      simp only [Option.some.injEq, Prod.mk.injEq] at e2
      obtain ⟨h1, h2, h3, h4, h5, h6, h7, h8⟩ := e2
      have h7' : n7 = [] := by
        cases n7 with
        | nil => rfl
        | cons a r => cases h7
      subst h1 h2 h3 h4 h5 h6 h7' h8
      have c3 : (PySem.W.codeIn K n13 d.qual && dflB K n8 (d.dvs K)) = true := c2
      obtain ⟨k1, k2⟩ := ba c3
      exact ⟨_, ⟨oc, od, n8, n9, n10, n11, n12, n13, n14, osl, rfl, q, k1, dflB_ok k2, .inl rfl⟩, kp⟩
    | _ => cases c2
/-! ### own errors -/
def excB (K : PySem.W.Frag) (C : Addr) : Bool := match K.lookup C with
  | some ⟨.type "type", _, .cls cd, sl⟩ => (match cd.mro, sl.toList with
    | .ref C' :: bm, [_, _, _, _, some (.builtin n), _] => C' == C && (n == "ValueError.__new__" && (!cd.hasDel && (cd.hasDict && PySem.PX.refsVE bm)))
    | _, _ => false)
  | _ => false
theorem excB_ok {K : PySem.W.Frag} {C : Addr} (q : excB K C = true) : ∃ nm q N bs bm sn sub ab col dd k0 k1 k2 k3 k5, K.lookup C = some (excClassObj nm q C N bs bm true sn sub ab col dd k0 k1 k2 k3 k5 "ValueError.__new__") ∧ PySem.PX.refsVE bm = true := by
  unfold excB at q
  split at q
  · rename_i dd cd sl ho
    split at q
    · rename_i C' bm k0 k1 k2 k3 n k5 hm hs
      simp only [Bool.and_eq_true, beq_iff_eq, Bool.not_eq_true'] at q
      obtain ⟨rfl, rfl, hdel, hdd, hv⟩ := q
      obtain ⟨nm, bs, mro, ns, qn, hd, sn, sub, ab, col, del⟩ := cd
      dsimp only at hm hdel hdd
      subst hm hdel hdd
      have hsl : sl = #[k0, k1, k2, k3, some (.builtin "ValueError.__new__"), k5] := by
        obtain ⟨l⟩ := sl
        simp only at hs
        rw [hs]
      subst hsl
      exact ⟨nm, qn, ns, bs, bm, sn, sub, ab, col, dd, k0, k1, k2, k3, k5, ho, hv⟩
    · cases q
  · cases q
/-- the code object's file, the class in the cell -/
def cellB (K : PySem.W.Frag) (cc C : Addr) : Bool := match K.lookup cc with
  | some ⟨_, _, .cell (some (.ref C')), _⟩ => C' == C
  | _ => false
theorem cellB_ok {K : PySem.W.Frag} {cc C : Addr} (h : cellB K cc C = true) : ∃ cl cld csl, K.lookup cc = some ⟨cl, cld, .cell (some (.ref C)), csl⟩ := by
  unfold cellB at h
  split at h
  · rename_i a b c d e
    rw [beq_iff_eq.mp h] at e
    exact ⟨_, _, _, e⟩
  · cases h
def strB (file : Str) : Option Value → Bool
  | some (.str z _) => file == z
  | _ => false
theorem strB_ok {file : Str} {o : Option Value} (h : strB file o = true) : ∃ z t, o = some (.str z t) ∧ (file == z) = true := by
  unfold strB at h
  split at h
  · exact ⟨_, _, rfl, h⟩
  · cases h
def fileB (file : Str) (K : PySem.W.Frag) (cda : Addr) : Bool := match K.lookup cda with
  | some ⟨_, _, .fields vs, _⟩ => strB file vs[2]?
  | _ => false
theorem fileB_ok {file : Str} {K : PySem.W.Frag} {cda : Addr} (h : fileB file K cda = true) : ∃ ccl cdd vs ccs z tf, K.lookup cda = some ⟨ccl, cdd, .fields vs, ccs⟩ ∧ vs[2]? = some (.str z tf) ∧ (file == z) = true := by
  unfold fileB at h
  split at h
  · rename_i a b c d e
    obtain ⟨z, t, h1, h2⟩ := strB_ok h
    exact ⟨_, _, _, _, z, t, e, h1, h2⟩
  · cases h
def nonB : Value → Bool
  | .none => true
  | _ => false
theorem nonB_ok {v : Value} (h : nonB v = true) : v = .none := by
  cases v <;> first | rfl | cases h
def cdOf : Value → Addr
  | .ref a => a
  | _ => 0
def clB (K : PySem.W.Frag) (C : Addr) : List (Str × Addr) → Bool
  | [q] => cellB K q.2 C
  | _ => false
theorem clB_ok {K : PySem.W.Frag} {C : Addr} {l : List (Str × Addr)} (h : clB K C l = true) : ∃ y cc, l = [(y, cc)] ∧ cellB K cc C = true := by
  unfold clB at h
  split at h
  · rename_i q
    exact ⟨q.1, q.2, rfl, h⟩
  · cases h
def iniB (file : Str) (K : PySem.W.Frag) (C f : Addr) : Bool := match K.lookup f with
  | some ⟨_, _, .func fd, _⟩ => nonB fd.defaults && (fileB file K (cdOf fd.code) && clB K C fd.closure)
  | _ => false
/-- what is asked of an own error's class of the fields fs -/
def errB (file : Str) (K : PySem.W.Frag) (x : Str) (fs : List Str) : Bool :=
  excB K (ga K x) && (iniB file K (ga K x) (ma K (ga K x) "__init__") && (decide (PySem.W.mroIn K (ga K x) (.ref (ga K x)) = some true) && (decide (PySem.W.ks_superIn K (ga K x) (ga K x) "__init__" = some (some (.builtin "ValueError.__init__"))) &&
  (decide (PySem.W.subIn K (.ref (ga K x)) (.type "ValueError") = some true) && (decide (PySem.W.findIn K (.ref (ga K x)) "__setattr__" = some (some (.builtin "object.__setattr__"))) && (decide (PySem.W.findIn K (.ref (ga K x)) "__init__" = some (some (.ref (ma K (ga K x) "__init__")))) &&
  (decide (PySem.W.typeIn K (.ref (ma K (ga K x) "__init__")) = some (.type "function")) && (PySem.W.keepIn K (.ref (ga K x)) && (decide (PySem.W.nsIn K cStatics "thirdparty.any" = some none) && fs.all fun f => decide (PySem.W.findIn K (.ref (ga K x)) f = some none))))))))))
/-- ExK of it: by the def's datum d (its closure told) and errB -/
theorem exk_of {P : Program} {K : PySem.W.Frag} {mg : Str → Option Value} {x : Str} {fs : List Str} {d : DefZ} (hat : d.at_ = .m x "__init__") (hn : d.name = "__init__") (hc : d.clo = true) (e : fnZ K (d.at_.ad K) = d.val) (c : d.ok K = true)
    (b : errB (P.main.file : Str) K x fs = true) (mgS : mg "super" = none) (top : (P.main.scope.names.lookup ("super" : Str)).isSome = false) :
    AzX.ExK P K mg (ga K x) (ma K (ga K x) "__init__") (defArgs d.st) (defBody d.st) (defScope d.st) ∧ ∀ f ∈ fs, PySem.W.findIn K (.ref (ga K x)) f = some none := by
  obtain ⟨b1, b⟩ := ba b
  obtain ⟨b2, b⟩ := ba b
  obtain ⟨b3, b⟩ := ba b
  obtain ⟨b4, b⟩ := ba b
  obtain ⟨b5, b⟩ := ba b
  obtain ⟨b6, b⟩ := ba b
  obtain ⟨b7, b⟩ := ba b
  obtain ⟨b8, b⟩ := ba b
  obtain ⟨b9, b⟩ := ba b
  obtain ⟨b10, b11⟩ := ba b
  refine ⟨⟨?_, excB_ok b1, of_decide_eq_true b3, of_decide_eq_true b4, of_decide_eq_true b5, of_decide_eq_true b10, of_decide_eq_true b6, mgS, top, of_decide_eq_true b7, of_decide_eq_true b8, b9⟩, fun f hf => of_decide_eq_true (List.all_eq_true.mp b11 f hf)⟩
  have e : fnZ K ((At.m x "__init__").ad K) = d.val := by rw [← hat]; exact e
  obtain ⟨kp, c2⟩ := ba c
  have c2 : (match K.lookup (ma K (ga K x) "__init__") with
    | some ⟨_, _, .func fd, _⟩ => PySem.W.codeIn K fd.code d.qual && dflB K fd.defaults (d.dvs K)
    | _ => false) = true := by rw [hat] at c2; exact c2
  have e : fnZ K (ma K (ga K x) "__init__") = d.val := e
  unfold fnZ at e
  unfold iniB at b2
  cases q : K.lookup (ma K (ga K x) "__init__") with
  | none =>
    rw [q] at c2
    cases c2
  | some o =>
    obtain ⟨oc, od, dt, osl⟩ := o
    rw [q] at c2 e b2
    cases dt with
    | func fd =>
      obtain ⟨n1, n2, n3, n4, n5, n6, n7, n8, n9, n10, n11, n12, n13, n14, n15⟩ := fd
      have e2 : (some (n1, n2, n3, n4, n5, n6, n7.map fun q => q.1, n15) : FnZ) = some (d.name, d.qual, defArgs d.st, FuncBody.stmts (defBody d.st), defScope d.st, mainGlobals, if d.clo then [("__class__" : Str)] else [], builtinsNs) := e
      rw [hc] at e2
      simp only [Option.some.injEq, Prod.mk.injEq] at e2
      obtain ⟨h1, h2, h3, h4, h5, h6, h7, h8⟩ := e2
      have c3 : (PySem.W.codeIn K n13 d.qual && dflB K n8 (d.dvs K)) = true := c2
      obtain ⟨k1, k2⟩ := ba c3
      have b3 : (nonB n8 && (fileB (P.main.file : Str) K (cdOf n13) && clB K (ga K x) n7)) = true := b2
      obtain ⟨z1, z2⟩ := ba b3
      obtain ⟨z2, z3⟩ := ba z2
      obtain ⟨cda, ec⟩ := codeIn_ref k1
      rw [ec] at z2 k1
      obtain ⟨ccl, cdd, vs, ccs, z, tf, l2, hz, hf⟩ := fileB_ok z2
      obtain ⟨y, cc, e7, z3⟩ := clB_ok z3
      obtain ⟨cl, cld, csl, l3⟩ := cellB_ok z3
      have e8 := nonB_ok z1
      rw [e7] at h7
      have ey : y = "__class__" := by
        have h9 : [y] = [("__class__" : Str)] := h7
        injection h9
      rw [ey] at e7
      rw [hn] at h1
      subst h1 h2 h3 h4 h5 h6 h8 e7 e8 ec
      exact ⟨oc, od, osl, d.qual, n9, n10, n11, n12, cda, n14, cc, ccl, cdd, vs, ccs, z, tf, cl, cld, csl, rfl, k1, l2, hz, hf, l3⟩
    | _ => cases c2
/-! ### the Hook -/
/-- what the names reach in n steps, and the interpreter's own statics -/
def asZ (g : Addr → Option Obj) (n : Nat) : List Addr := cStatics :: asD g n
/-- what is told -/
structure Says (fz : List DefZ) (tf : List Defn) (ex : PySem.W.Frag → List Bool) (h : Heap) (K : PySem.W.Frag) : Prop where
  val : fz.map (fun d => fnZ K (d.at_.ad K)) = fz.map DefZ.val
  ok : ∀ d ∈ fz, d.ok K = true
  more : ∀ b ∈ ex K, b = true
  hd : ∀ p ∈ tf, PySem.W.codeHdIn K (cT K p).1 (cT K p).2 = true
  out : ∀ p ∈ tf, K.lookup (cT K p).2 = none
  empty : ∀ p ∈ tf, h.get? (cT K p).2 = some { cls := .none, data := .fields #[] }
abbrev AlZ : Type := List FnZ × Bool
def obsK (g : Addr → Option Obj) (fz : List DefZ) (tf : List Defn) (ex : PySem.W.Frag → List Bool) (K : PySem.W.Frag) : AlZ := (fz.map fun d => fnZ K (d.at_.ad K), (fz.all fun d => d.ok K) && ((ex K).all id && tabsB g tf K))
def obsZ (n : Nat) (fz : List DefZ) (tf : List Defn) (ex : PySem.W.Frag → List Bool) (g : Addr → Option Obj) : AlZ := obsK g fz tf ex (frT g (asZ g n))
def valZ (fz : List DefZ) : AlZ := (fz.map DefZ.val, true)
theorem says_of {n : Nat} {fz : List DefZ} {tf : List Defn} {ex : PySem.W.Frag → List Bool} {h : Heap} (e : obsZ n fz tf ex h.get? = valZ fz) : Says fz tf ex h (frT h.get? (asZ h.get? n)) := by
  have e1 : fz.map (fun d => fnZ (frT h.get? (asZ h.get? n)) (d.at_.ad (frT h.get? (asZ h.get? n)))) = fz.map DefZ.val := congrArg (fun z : AlZ => z.1) e
  have e2 : ((fz.all fun d => d.ok (frT h.get? (asZ h.get? n))) && ((ex (frT h.get? (asZ h.get? n))).all id && tabsB h.get? tf (frT h.get? (asZ h.get? n)))) = true := congrArg (fun z : AlZ => z.2) e
  obtain ⟨h1, h2⟩ := ba e2
  obtain ⟨h2, h5⟩ := ba h2
  have key : ∀ p ∈ tf, PySem.W.codeHdIn (frT h.get? (asZ h.get? n)) (cT (frT h.get? (asZ h.get? n)) p).1 (cT (frT h.get? (asZ h.get? n)) p).2 = true ∧ ∃ o, h.get? (cT (frT h.get? (asZ h.get? n)) p).2 = some o ∧ emptyTab o = true := fun p hp => by
    obtain ⟨h3, h4⟩ := ba (List.all_eq_true.mp h5 p hp)
    refine ⟨h3, ?_⟩
    cases q : h.get? (cT (frT h.get? (asZ h.get? n)) p).2 with
    | none =>
      rw [q] at h4
      cases h4
    | some o =>
      rw [q] at h4
      exact ⟨o, rfl, h4⟩
  exact ⟨e1, fun d hd => List.all_eq_true.mp h1 d hd, fun b hb => List.all_eq_true.mp h2 b hb, fun p hp => (key p hp).1, fun p hp => by
    obtain ⟨_, o, q, z⟩ := key p hp
    exact frT_none q z, fun p hp => by
    obtain ⟨_, o, q, z⟩ := key p hp
    rw [q, emptyTab_eq z]⟩
def hookZ (n : Nat) (fz : List DefZ) (tf : List Defn) (ex : PySem.W.Frag → List Bool) : PySem.W.Hook where
  α := AlZ
  obs := fun s => obsZ n fz tf ex s.heap.get?
  val := fun _ => valZ fz
  says := fun _ h => ∃ K : PySem.W.Frag, K.In h ∧ Says fz tf ex h K
  of := fun _ _ e => ⟨_, frT_in, says_of e⟩
  keeps := fun _ _ _ ⟨K, hK, c⟩ k => ⟨K, PySem.W.Frag.In.keeps hK k, ⟨c.val, c.ok, c.more, c.hd, c.out, fun p hp => k _ _ (c.empty p hp)⟩⟩
theorem obsZ_eq {n : Nat} {fz : List DefZ} {tf : List Defn} {ex : PySem.W.Frag → List Bool} {g : Addr → Option Obj} {s : Shared} (h : ∀ a, g a = s.heap.get? a) : obsZ n fz tf ex g = (hookZ n fz tf ex).obs s := by
  have e : g = s.heap.get? := funext h
  rw [e] <;> rfl
section
variable {fz : List DefZ} {tf : List Defn} {ex : PySem.W.Frag → List Bool} {h : Heap} {K : PySem.W.Frag}
theorem Says.at (c : Says fz tf ex h K) (i : Nat) {d : DefZ} (e : fz[i]? = some d := by rfl) : fnZ K (d.at_.ad K) = d.val ∧ d.ok K = true := by
  have e2 : (fz.map fun d => fnZ K (d.at_.ad K))[i]? = (fz.map DefZ.val)[i]? := by rw [c.val]
  rw [List.getElem?_map, List.getElem?_map, e] at e2
  exact ⟨Option.some.inj e2, c.ok d (List.mem_of_getElem? e)⟩
theorem Says.def_ (c : Says fz tf ex h K) (i : Nat) {d : DefZ} (e : fz[i]? = some d := by rfl) (hc : d.clo = false := by rfl) : ∃ fd, FnP K d fd := DefZ.funD hc (c.at i e).1 (c.at i e).2
theorem Says.fact (c : Says fz tf ex h K) (i : Nat) {b : Bool} (e : (ex K)[i]? = some b) : b = true := c.more b (List.mem_of_getElem? e)
end
end Hz

/-! Operators by own methods: a + b, b + a, -a, a += b. -/
namespace AzX
open PySem PySem.W PySem.Calls PyProof.Rows
def Back (Q : Value → Shared → Prop) (v : Value) (s : Shared) : Prop := v ≠ .notImplemented ∧ Q v s
section
variable {prog : Program} {w : World} {A : Around} {E : Value → Shared → Prop} {s : Shared} {K : Frag} {x C f : Addr} {ox : Obj} {od : Option Obj} {nm T : String} {b : Value} {Q : Value → Shared → Prop}
theorem try_own {M : Model} {name : Str} (X : K.In s.heap) (I : InstAt s.heap x ox C od) (hs : findIn K (.ref C) name = some (some (.ref f))) (hf : isFn K (.ref f) = true)
    (h : wpAny M A (call (.ref f) [.ref x, b]) (Back Q) E s) : wpAny M A (tryMethod (.ref x) name b) (fun r s' => ∃ v, r = some v ∧ Q v s') E s := by
  unfold tryMethod
  refine wpAny_bind (special_fn X I hs (beq_iff_eq.mp hf) (wpAny_mono h (fun v s' hv => ?_) fun _ _ e => e))
  cases v <;> first | exact (hv.1 rfl).elim | exact wpAny_pure ⟨_, rfl, hv.2⟩
/-- a + b, both of the class -/
theorem bin1_same (X : K.In s.heap) (I : InstAt s.heap x ox C od) (hb : Looks (model prog w) s.heap (typeOf b) (.ref C)) (hc : selfFirst K C = true)
    (hs : findIn K (.ref C) (PySem.dunder nm) = some (some (.ref f))) (hf : isFn K (.ref f) = true)
    (h : wpAny (model prog w) A (call (.ref f) [.ref x, b]) (Back Q) E s) : wpAny (model prog w) A (binaryOp1 nm (.ref x) b) (fun r s' => ∃ v, r = some v ∧ Q v s') E s := by
  obtain ⟨cd, rest, hcd, hm⟩ := ksp_first hc
  have one := try_own X I hs hf h
  unfold binaryOp1
  refine wpAny_bind (I.type.here (wpAny_bind (hb.here (wpAny_bind ((fills_K X hcd hm hs).here ?_)))))
  simp only [beq_self_eq_true, if_true]
  refine wpAny_bind (wpAny_pure ?_)
  simp only [Bool.and_false, Bool.false_eq_true, if_false, Bool.false_and]
  refine wpAny_bind (wpAny_pure ?_)
  simp only [Bool.false_eq_true, if_false]
  refine wpAny_bind (wpAny_mono one (fun r s' hr' => ?_) fun _ _ e => e)
  obtain ⟨v, rfl, hq⟩ := hr'
  exact wpAny_pure ⟨v, rfl, hq⟩
/-- a + b, b of a built-in type -/
theorem bin1_type {fo ro rc : Option Value} (X : K.In s.heap) (I : InstAt s.heap x ox C od) (L2 : Looks (model prog w) s.heap (typeOf b) (.type T)) (hc : selfFirst K C = true)
    (hs : findIn K (.ref C) (PySem.dunder nm) = some (some (.ref f))) (hf : isFn K (.ref f) = true) (hr : findIn K (.ref C) (dunderR nm) = some rc) (hp : rc = none ∨ ∃ g : Addr, rc = some (.ref g))
    (h1 : findIn K (.type T) (PySem.dunder nm) = some fo) (h2 : findIn K (.type T) (dunderR nm) = some ro) (hsub : subIn K (.type T) (.ref C) = some false)
    (h : wpAny (model prog w) A (call (.ref f) [.ref x, b]) (Back Q) E s) : wpAny (model prog w) A (binaryOp1 nm (.ref x) b) (fun r s' => ∃ v, r = some v ∧ Q v s') E s := by
  obtain ⟨cd, rest, hcd, hm⟩ := ksp_first hc
  have one := try_own X I hs hf h
  obtain ⟨hh, g, d, tt, os⟩ := s
  have L1 : Looks (model prog w) hh (typeOf (.ref x)) (.ref C) := I.type
  have L3 : Looks (model prog w) hh (fillsNumberSlot (.ref C) nm) true := fills_K X hcd hm hs
  have L4 : Looks (model prog w) hh (fillsNumberSlot (.type T) nm) ((fo.isSome && !isSeqSlot fo) || (ro.isSome && !isSeqSlot ro)) := ksp_fillsT X h1 h2
  have L5 : Looks (model prog w) hh (isSubtype (.type T) (.ref C)) false := looks_subIn X hsub
  have L6 : Looks (model prog w) hh (numberSlotInPython (.ref C) nm) true := ksp_inPy X hs hr hp
  have L7 : Looks (model prog w) hh (numberSlotInPython (.type T) nm) false := Looks.of_pure rfl
  have L8 : Looks (model prog w) hh (typeLookup (.type T) (dunderR nm)) ro := looks_findIn X h2
  generalize ((fo.isSome && !isSeqSlot fo) || (ro.isSome && !isSeqSlot ro)) = right at L4
  have hne : (Value.ref C == Value.type T) = false := Bool.eq_false_iff.mpr fun q => by cases beq_iff_eq.mp q
  unfold binaryOp1
  refine wpAny_bind (L1.at (wpAny_bind (L2.at (wpAny_bind (L3.at ?_)))))
  simp only [hne, Bool.false_eq_true, if_false]
  cases right with
  | false =>
    ksp_lk
    refine wpAny_mono one (fun r s' hr' => ?_) fun _ _ e => e
    obtain ⟨v, rfl, hq⟩ := hr'
    ksp_lk
    exact ⟨v, rfl, hq⟩
  | true =>
    ksp_lk
    refine wpAny_mono one (fun r s' hr' => ?_) fun _ _ e => e
    obtain ⟨v, rfl, hq⟩ := hr'
    ksp_lk
    exact ⟨v, rfl, hq⟩
theorem int_declines {name : String} {f : Int → Int → Sem Fin} {i : Int} {t : Tok} {o : Obj} {R : Fin → Shared → Prop} (hx : s.heap.get? x = some o) (hd : ∀ p, o.data ≠ .prim p) (h : R (.done (.ret .notImplemented)) s) :
    wpAny (model prog w) A (Builtin.Int.intBinary name f false ⟨[.int i t, .ref x], []⟩) R E s := by
  unfold Builtin.Int.intBinary
  refine wpAny_bind (wpAny_of_eq (a := ((Value.int i t : Value), [Value.ref x])) (by first | rfl | (simp only [slotArgs]; rfl)) ?_)
  refine wpAny_bind (wpAny_of_eq (a := i) rfl ?_)
  refine wpAny_bind ?_
  show wpAny _ _ (asInt? (.ref x)) _ _ _
  unfold asInt?
  refine wpAny_bind (wpAny_load hx ?_)
  obtain ⟨oc, od, dt, sl⟩ := o
  cases dt <;> first | exact (hd _ rfl).elim | (exact wpAny_pure (wpAny_bind (wpAny_rule (show wpAny _ _ (ret Value.notImplemented) _ _ _ from wpAny_pure h))))
/-- b + a, b a whole number, a of the class -/
theorem bin1_refl {i : Int} {t : Tok} {id : String} {name : String} {g : Int → Int → Sem Fin} {fm : Addr} (X : K.In s.heap) (I : InstAt s.heap x ox C od) (hd : ∀ p, ox.data ≠ .prim p) (hc : selfFirst K C = true)
    (hfi : fillsNumberSlot (.type "int") nm = pure true) (hsl : Slot "int" (PySem.dunder nm) id) (hen : entryFor table id = some (Builtin.Int.intBinary name g false)) (har : argsOk id ⟨[.int i t, .ref x], []⟩)
    (hm : findIn K (.ref C) (PySem.dunder nm) = some (some (.ref fm))) (hs : findIn K (.ref C) (dunderR nm) = some (some (.ref f))) (hf : isFn K (.ref f) = true) (hsub : subIn K (.ref C) (.type "int") = some false)
    (h : wpAny (model prog w) A (call (.ref f) [.ref x, .int i t]) (Back Q) E s) : wpAny (model prog w) A (binaryOp1 nm (.int i t) (.ref x)) (fun r s' => ∃ v, r = some v ∧ Q v s') E s := by
  obtain ⟨cd, rest, hcd, hmr⟩ := ksp_first hc
  have one := try_own X I hs hf h
  have hx := I.at_
  have two : ∀ {R : Option Value → Shared → Prop}, R none s → wpAny (model prog w) A (tryMethod (.int i t) (PySem.dunder nm) (.ref x)) R E s := fun {R} hR =>
    wpAny_tryMethod_declines (typeIs_int s i t) hsl (wpAny_call_entry hsl (typeIs_int s i t) hen (int_declines hx hd ⟨_, rfl, rfl, hR⟩) har)
  obtain ⟨hh, g', d, tt, os⟩ := s
  have L1 : Looks (model prog w) hh (typeOf (.ref x)) (.ref C) := I.type
  have L2 : Looks (model prog w) hh (typeOf (.int i t)) (.type "int") := Looks.of_pure rfl
  have L3 : Looks (model prog w) hh (fillsNumberSlot (.ref C) nm) true := fills_K X hcd hmr hm
  have L4 : Looks (model prog w) hh (fillsNumberSlot (.type "int") nm) true := Looks.of_pure hfi
  have L5 : Looks (model prog w) hh (isSubtype (.ref C) (.type "int")) false := looks_subIn X hsub
  have L7 : Looks (model prog w) hh (numberSlotInPython (.type "int") nm) false := Looks.of_pure rfl
  have hne : (Value.type "int" == Value.ref C) = false := Bool.eq_false_iff.mpr fun q => by cases beq_iff_eq.mp q
  unfold binaryOp1
  refine wpAny_bind (L2.at (wpAny_bind (L1.at (wpAny_bind (L4.at ?_)))))
  simp only [hne, Bool.false_eq_true, if_false]
  ksp_lk
  refine two ?_
  ksp_lk
  refine wpAny_mono one (fun r s' hr' => ?_) fun _ _ e => e
  obtain ⟨v, rfl, hq⟩ := hr'
  ksp_lk
  exact ⟨v, rfl, hq⟩
theorem cmp1_own {M : Model} {name : Str} (X : K.In s.heap) (I : InstAt s.heap x ox C od) (hs : findIn K (.ref C) name = some (some (.ref f))) (hf : isFn K (.ref f) = true)
    (h : wpAny M A (call (.ref f) [.ref x, b]) (Back Q) E s) : wpAny M A (tryCompare (.ref x) name b) (fun r s' => ∃ v, r = some v ∧ Q v s') E s := by
  unfold tryCompare
  refine wpAny_bind (ifBound_K X I hs hf (wpAny_mono h (fun v s' hv => ?_) fun _ _ e => e))
  cases v <;> first | exact (hv.1 rfl).elim | exact wpAny_pure ⟨_, rfl, hv.2⟩
/-- a < b by a's own method -/
theorem cmp_own {op : CmpOp} {tb : Value} (hu : A.units < cLine) (X : K.In s.heap) (I : InstAt s.heap x ox C od) (hb : Looks (model prog w) s.heap (typeOf b) tb) (hn : notFirst K C tb = true)
    (hs : findIn K (.ref C) (cmpInfo op).2.1 = some (some (.ref f))) (hf : isFn K (.ref f) = true)
    (h : wpAny (model prog w) A (call (.ref f) [.ref x, b]) (Back Q) E s) : wpAny (model prog w) A (richCompare op (.ref x) b) Q E s := by
  have one := cmp1_own X I hs hf h
  unfold richCompare
  simp only [oneThing_ref]
  refine wpAny_holding (wpAny_bind (wpAny_cRoomFor hu ?_))
  refine wpAny_bind (I.type.here (wpAny_bind (hb.here ?_)))
  split
  · rename_i q
    have e : subIn K tb (.ref C) = some false := by
      rcases Bool.or_eq_true_iff.mp hn with e | e
      · rw [beq_iff_eq.mp e] at q; simp at q
      · exact beq_iff_eq.mp e
    refine wpAny_bind ((looks_subIn X e).here ?_)
    simp only [Bool.false_eq_true, if_false]
    refine wpAny_bind (wpAny_mono one (fun r s' z => ?_) fun _ _ e => e)
    obtain ⟨v, rfl, hq⟩ := z
    exact wpAny_pure hq
  · refine wpAny_bind (wpAny_pure ?_)
    simp only [Bool.false_eq_true, if_false]
    refine wpAny_bind (wpAny_mono one (fun r s' z => ?_) fun _ _ e => e)
    obtain ⟨v, rfl, hq⟩ := z
    exact wpAny_pure hq
/-- i < a by a's own method, i a whole number -/
theorem cmp_refl {op : CmpOp} {i : Int} {t : Tok} {id : String} {name : String} {g : Int → Int → Sem Fin} (hu : A.units < cLine) (X : K.In s.heap) (I : InstAt s.heap x ox C od) (hd : ∀ p, ox.data ≠ .prim p)
    (hsl : Slot "int" (cmpInfo op).2.1 id) (hen : entryFor table id = some (Builtin.Int.intBinary name g false)) (har : argsOk id ⟨[.int i t, .ref x], []⟩)
    (hs : findIn K (.ref C) (cmpInfo op).2.2 = some (some (.ref f))) (hf : isFn K (.ref f) = true) (hsub : subIn K (.ref C) (.type "int") = some false)
    (h : wpAny (model prog w) A (call (.ref f) [.ref x, .int i t]) (Back Q) E s) : wpAny (model prog w) A (richCompare op (.int i t) (.ref x)) Q E s := by
  have one := cmp1_own X I hs hf h
  have hx := I.at_
  have two : ∀ {R : Option Value → Shared → Prop}, R none s → wpAny (model prog w) A (tryCompare (.int i t) (cmpInfo op).2.1 (.ref x)) R E s := fun {R} hR =>
    wpAny_tryCompare_declines (typeIs_int s i t) hsl (wpAny_call_entry hsl (typeIs_int s i t) hen (int_declines hx hd ⟨_, rfl, rfl, hR⟩) har)
  have L1 : Looks (model prog w) s.heap (typeOf (.ref x)) (.ref C) := I.type
  have L2 : Looks (model prog w) s.heap (typeOf (.int i t)) (.type "int") := Looks.of_pure rfl
  have hne : (Value.type "int" != Value.ref C) = true := rfl
  have ho : oneThing? op (.int i t) (.ref x) = none := by cases op <;> rfl
  unfold richCompare
  simp only [ho]
  refine wpAny_holding (wpAny_bind (wpAny_cRoomFor hu ?_))
  refine wpAny_bind (L2.here (wpAny_bind (L1.here ?_)))
  simp only [hne, if_true]
  refine wpAny_bind ((looks_subIn X hsub).here ?_)
  simp only [Bool.false_eq_true, if_false]
  refine wpAny_bind (two ?_)
  simp only [Bool.not_false, if_true]
  refine wpAny_bind (wpAny_mono one (fun r s' z => ?_) fun _ _ e => e)
  obtain ⟨v, rfl, hq⟩ := z
  exact wpAny_pure hq
theorem bin_of1 {op : Operator} {a : Value} (h : wpAny (model prog w) A (binaryOp1 op.info.2 a b) (fun r s' => ∃ v, r = some v ∧ Q v s') E s) : wpAny (model prog w) A (binaryOp op a b) Q E s := by
  rcases hi : op.info with ⟨sym, nm'⟩
  rw [hi] at h
  simp only [binaryOp, hi]
  refine wpAny_holding (wpAny_bind (wpAny_mono h (fun r s' hr' => ?_) fun _ _ e => e))
  obtain ⟨v, rfl, hq⟩ := hr'
  exact wpAny_pure hq
end
end AzX
namespace Az
open PySem PySem.Spec PyProof.Rows L2 AzX
/-- the built-in type of a value -/
def tyV (H : Hp) : V → Option String
  | .int _ => some "int"
  | .bl _ => some "bool"
  | .non => some "NoneType"
  | .str _ => some "str"
  | .ref a => match H a with
    | some (.lst _) => some "list"
    | some (.tup _) => some "tuple"
    | some (.dK _) => some "dict"
    | _ => none
  | _ => none
theorem rel_ni {x : V} {u : Value} (r : RelV x u) : u ≠ .notImplemented := by
  cases x with
  | non => cases r; exact fun z => nomatch z
  | bl b => cases r; exact fun z => nomatch z
  | int i => obtain ⟨t, rfl⟩ := r; exact fun z => nomatch z
  | str i => obtain ⟨t, rfl⟩ := r; exact fun z => nomatch z
  | byt i => obtain ⟨t, rfl⟩ := r; exact fun z => nomatch z
  | flt i => obtain ⟨t, rfl⟩ := r; exact fun z => nomatch z
  | ref a => cases r; exact fun z => nomatch z
  | ty a => cases r; exact fun z => nomatch z
section
variable {X : Cx} {pins : List (Addr × Obj)} {σ : L2.St} {H : Hp} {s : Shared}
theorem ty_obj {a : Addr} {o : Obj} (ho : s.heap.get? a = some o) : PySem.W.Looks (model X.prog X.w) s.heap (typeOf (.ref a)) o.cls := fun A Q E s' k q => by
  unfold typeOf
  exact wpAny_bind (wpAny_load (k _ _ ho) (wpAny_pure q))
theorem ty_looks (I : Inv X pins σ H s) {y : V} {u : Value} {T : String} (r : RelV y u) (h : tyV H y = some T) : PySem.W.Looks (model X.prog X.w) s.heap (typeOf u) (.type T) := by
  cases y with
  | non => cases r; cases h; exact PySem.W.Looks.of_pure rfl
  | bl b => cases r; cases h; exact PySem.W.Looks.of_pure rfl
  | int i => obtain ⟨t, rfl⟩ := r; cases h; exact PySem.W.Looks.of_pure rfl
  | str i => obtain ⟨t, rfl⟩ := r; cases h; exact PySem.W.Looks.of_pure rfl
  | byt i => cases h
  | flt i => cases h
  | ty i => cases h
  | ref a =>
    cases (show u = Value.ref a from r)
    cases e : H a with
    | none => simp [tyV, e] at h
    | some o =>
      have ho := I.hok a _ e
      cases o <;> simp [tyV, e] at h
      · subst h
        obtain ⟨_, its, n, _, hg⟩ := ho
        exact ty_obj hg
      · subst h
        obtain ⟨_, its, _, o, h1, h2, _⟩ := ho
        have z := ty_obj (X := X) h1
        rw [h2] at z
        exact z
      · subst h
        obtain ⟨_, _, vs, _, o, es, ep, h1, h2, _⟩ := ho
        have z := ty_obj (X := X) h1
        rw [h2.1] at z
        exact z
end
end Az

namespace Az
open PySem PySem.Spec PyProof.Rows L2 AzX
/-- the methods of an own class for an operator -/
structure OpC (K : PySem.W.Frag) (C : Addr) (nm : String) (f g : Addr) : Prop where
  first : PySem.W.selfFirst K C = true
  m : PySem.W.findIn K (.ref C) (PySem.dunder nm) = some (some (.ref f))
  fn : PySem.W.isFn K (.ref f) = true
  r : PySem.W.findIn K (.ref C) (dunderR nm) = some (some (.ref g))
  rfn : PySem.W.isFn K (.ref g) = true
  noInt : PySem.W.subIn K (.ref C) (.type "int") = some false
/-- a built-in type on the other side -/
def OpT (K : PySem.W.Frag) (C : Addr) (nm T : String) : Prop := ∃ fo ro, PySem.W.findIn K (.type T) (PySem.dunder nm) = some fo ∧ PySem.W.findIn K (.type T) (dunderR nm) = some ro ∧ PySem.W.subIn K (.type T) (.ref C) = some false
/-- what may stand on the right -/
def OpY (K : PySem.W.Frag) (C : Addr) (nm : String) (H : Hp) (y : V) : Prop := (∃ b dy gs, y = .ref b ∧ H b = some (.ins C dy gs)) ∨ ∃ T, tyV H y = some T ∧ OpT K C nm T
def rOwn (K : PySem.W.Frag) (C : Addr) (nm : String) (sp : Sp) (E : XK) : R2 := fun x y H Q => ∃ a dx fs, x = .ref a ∧ H a = some (.ins C dx fs) ∧ OpY K C nm H y ∧ sp [x, y] H Q E
def rOwnR (C : Addr) (sp : Sp) (E : XK) : R2 := fun x y H Q => ∃ i a dx fs, x = .int i ∧ y = .ref a ∧ H a = some (.ins C dx fs) ∧ sp [y, x] H Q E
section
variable {X : Cx} {pins : List (Addr × Obj)} {σ : L2.St} {H : Hp} {s : Shared} {C f g : Addr} {nm : String} {k : Nat} {fd : FuncData} {ps : List Str} {sp : Sp} {E : XK} {CX : CXT}
theorem inst_of (I : Inv X pins σ H s) {a dx : Addr} {fs : List (Str × V)} (h : H a = some (.ins C dx fs)) : ∃ od, PySem.W.InstAt s.heap a (PySem.W.instObj C dx) C od := by
  obtain ⟨_, _, _, h1, mA, h2, _⟩ := (show ObjOk X.prog X.w H s.heap a (.ins C dx fs) from I.hok a _ h)
  obtain ⟨od, ho, _⟩ := lookIn_ns h2
  exact ⟨some od, h1, rfl, rfl, ho⟩
theorem run_back {Q : VK} {us : List Value} {vs : List V} (F : FnOk X.prog X.w X.K X.mg X.base CX k f fd ps sp) (hr : Room k X.A) (hb : Binds X.K fd ps []) (hx : Passes CX X E) (I : Inv X pins σ H s) (r : Vals vs us) (h : sp vs H Q E) :
    wpAny (model X.prog X.w) X.A (call (.ref f) us) (Back (EP X pins σ Q)) X.xe s :=
  wpAny_mono (run_fn (dvs := []) F hr hb .nil hx I r (by rw [List.append_nil]; exact h)) (fun v s' ⟨v', H', J, rv, q⟩ => ⟨rel_ni rv, v', H', J, rv, q⟩) fun _ _ e => e
theorem op1_own {Q : VK} {x y : V} {v u : Value} (oc : OpC X.K C nm f g) (F : FnOk X.prog X.w X.K X.mg X.base CX k f fd ps sp) (hr : Room k X.A) (hb : Binds X.K fd ps []) (hx : Passes CX X E) (I : Inv X pins σ H s) (rx : RelV x v) (ry : RelV y u) (h : rOwn X.K C nm sp E x y H Q) :
    wpAny (model X.prog X.w) X.A (binaryOp1 nm v u) (fun r s' => ∃ v, r = some v ∧ EP X pins σ Q v s') X.xe s := by
  obtain ⟨a, dx, fs, rfl, ha, hy, q⟩ := h
  cases (show v = Value.ref a from rx)
  obtain ⟨od, J⟩ := inst_of I ha
  have one := run_back (us := [.ref a, u]) (vs := [.ref a, y]) F hr hb hx I (.cons rfl (.cons ry .nil)) q
  rcases hy with ⟨b, dy, gs, rfl, hB⟩ | ⟨T, hT, fo, ro, h1, h2, h3⟩
  · cases (show u = Value.ref b from ry)
    obtain ⟨od2, J2⟩ := inst_of I hB
    exact bin1_same I.kIn J J2.type oc.first oc.m oc.fn one
  · exact bin1_type I.kIn J (ty_looks I ry hT) oc.first oc.m oc.fn oc.r (.inr ⟨g, rfl⟩) h1 h2 h3 one
/-- x op y by x's own method -/
theorem op_own {op : Operator} (oc : OpC X.K C op.info.2 f g) (F : FnOk X.prog X.w X.K X.mg X.base CX k f fd ps sp) (hr : Room k X.A) (hb : Binds X.K fd ps []) (hx : Passes CX X E) : OpR X (binaryOp op) (rOwn X.K C op.info.2 sp E) :=
  fun pins s σ H x y v u Q I rx ry h => bin_of1 (op1_own oc F hr hb hx I rx ry h)
/-- i op y by y's own method, i a whole number -/
theorem op_ownR {op : Operator} {id : String} {name : String} {gi : Int → Int → Sem Fin} (oc : OpC X.K C op.info.2 g f) (hfi : fillsNumberSlot (.type "int") op.info.2 = pure true) (hsl : Slot "int" (PySem.dunder op.info.2) id) (hen : entryFor table id = some (Builtin.Int.intBinary name gi false)) (har : ∀ a b, argsOk id ⟨[a, b], []⟩)
    (F : FnOk X.prog X.w X.K X.mg X.base CX k f fd ps sp) (hr : Room k X.A) (hb : Binds X.K fd ps []) (hx : Passes CX X E) : OpR X (binaryOp op) (rOwnR C sp E) := by
  intro pins s σ H x y v u Q I rx ry h
  obtain ⟨i, a, dx, fs, rfl, rfl, ha, q⟩ := h
  obtain ⟨t, rfl⟩ := rx
  cases (show u = Value.ref a from ry)
  obtain ⟨od, J⟩ := inst_of I ha
  have one := run_back (us := [.ref a, .int i t]) (vs := [.ref a, .int i]) F hr hb hx I (.cons rfl (.cons ⟨t, rfl⟩ .nil)) q
  exact bin_of1 (bin1_refl I.kIn J (fun p z => nomatch z) oc.first hfi hsl hen (har _ _) oc.m oc.r oc.rfn oc.noInt one)
/-- own comparison methods: x op y, x of the class -/
def CmpY (K : PySem.W.Frag) (C : Addr) (H : Hp) (y : V) : Prop := (∃ b dy gs, y = .ref b ∧ H b = some (.ins C dy gs)) ∨ ∃ T, tyV H y = some T ∧ PySem.W.subIn K (.type T) (.ref C) = some false
def rCmp (K : PySem.W.Frag) (C : Addr) (sp : Sp) (E : XK) : R2 := fun x y H Q => ∃ a dx fs, x = .ref a ∧ H a = some (.ins C dx fs) ∧ CmpY K C H y ∧ sp [x, y] H Q E
theorem cmpR_own {op : CmpOp} (hop : compareOp op = richCompare op) (hm : PySem.W.findIn X.K (.ref C) (cmpInfo op).2.1 = some (some (.ref f))) (hf : PySem.W.isFn X.K (.ref f) = true) (F : FnOk X.prog X.w X.K X.mg X.base CX k f fd ps sp) (hr : Room k X.A) (hb : Binds X.K fd ps []) (hx : Passes CX X E) : OpR X (compareOp op) (rCmp X.K C sp E) := by
  intro pins s σ H x y v u Q I rx ry h
  obtain ⟨a, dx, fs, rfl, ha, hy, q⟩ := h
  cases (show v = Value.ref a from rx)
  obtain ⟨od, J⟩ := inst_of I ha
  have hu : X.A.units < cLine := by have := hr.units; omega
  have one := run_back (us := [.ref a, u]) (vs := [.ref a, y]) F hr hb hx I (.cons rfl (.cons ry .nil)) q
  rw [hop]
  rcases hy with ⟨b, dy, gs, rfl, hB⟩ | ⟨T, hT, h3⟩
  · cases (show u = Value.ref b from ry)
    obtain ⟨od2, J2⟩ := inst_of I hB
    exact AzX.cmp_own hu I.kIn J J2.type (by unfold PySem.W.notFirst; simp) hm hf one
  · exact AzX.cmp_own hu I.kIn J (ty_looks I ry hT) (by unfold PySem.W.notFirst; simp [h3]) hm hf one
theorem cmpR_ownR {op : CmpOp} {id : String} {name : String} {gi : Int → Int → Sem Fin} (hop : compareOp op = richCompare op) (hsl : Slot "int" (cmpInfo op).2.1 id) (hen : entryFor table id = some (Builtin.Int.intBinary name gi false)) (har : ∀ a b, argsOk id ⟨[a, b], []⟩)
    (hm : PySem.W.findIn X.K (.ref C) (cmpInfo op).2.2 = some (some (.ref f))) (hf : PySem.W.isFn X.K (.ref f) = true) (hsub : PySem.W.subIn X.K (.ref C) (.type "int") = some false) (F : FnOk X.prog X.w X.K X.mg X.base CX k f fd ps sp) (hr : Room k X.A) (hb : Binds X.K fd ps []) (hx : Passes CX X E) : OpR X (compareOp op) (rOwnR C sp E) := by
  intro pins s σ H x y v u Q I rx ry h
  obtain ⟨i, a, dx, fs, rfl, rfl, ha, q⟩ := h
  obtain ⟨t, rfl⟩ := rx
  cases (show u = Value.ref a from ry)
  obtain ⟨od, J⟩ := inst_of I ha
  have hu : X.A.units < cLine := by have := hr.units; omega
  have one := run_back (us := [.ref a, .int i t]) (vs := [.ref a, .int i]) F hr hb hx I (.cons rfl (.cons ⟨t, rfl⟩ .nil)) q
  rw [hop]
  exact AzX.cmp_refl hu I.kIn J (fun p z => nomatch z) hsl hen (har _ _) hm hf hsub one
def rOwnU (C : Addr) (sp : Sp) (E : XK) : V → Hp → VK → Prop := fun x H Q => ∃ a dx fs, x = .ref a ∧ H a = some (.ins C dx fs) ∧ sp [x] H Q E
/-- -x by x's own method -/
theorem un_negO (hm : PySem.W.findIn X.K (.ref C) "__neg__" = some (some (.ref f))) (hf : PySem.W.isFn X.K (.ref f) = true) (F : FnOk X.prog X.w X.K X.mg X.base CX k f fd ps sp) (hr : Room k X.A) (hb : Binds X.K fd ps []) (hx : Passes CX X E) : UnR X (unaryOp .USub) (rOwnU C sp E) := by
  intro pins s σ H x v Q I rx h
  obtain ⟨a, dx, fs, rfl, ha, q⟩ := h
  cases (show v = Value.ref a from rx)
  obtain ⟨od, J⟩ := inst_of I ha
  unfold unaryOp
  refine wpAny_holding ?_
  exact wpAny_bind (PySem.W.special_fn I.kIn J hm (beq_iff_eq.mp hf) (wpAny_mono (run_fn (dvs := []) (us := [.ref a]) (vs := [.ref a]) F hr hb .nil hx I (.cons rfl .nil) q) (fun _ _ z => wpAny_pure z) fun _ _ z => z))
end
end Az

/-! x != y by an own __eq__; truth, bool, str of an own instance by its own methods; an own instance called. -/
namespace AzX
open PySem PySem.W PySem.Spec PySem.Calls PyProof.Rows
section
variable {M : Model} {prog : Program} {w : World} {A : Around} {E : Value → Shared → Prop} {s : Shared} {K : Frag} {x C f : Addr} {ox : Obj} {od : Option Obj} {b : Value}
theorem ifBound_objNe {args : List Value} {Q : Option Value → Shared → Prop} (X : K.In s.heap) (I : InstAt s.heap x ox C od) (hs : findIn K (.ref C) "__ne__" = some (some (.builtin "object.__ne__")))
    (h : wpAny M A (call (.builtin "object.__ne__") (.ref x :: args)) (fun v => Q (some v)) E s) : wpAny M A (callSpecialIfBound? (.ref x) "__ne__" args) Q E s := by
  simp only [callSpecialIfBound?, bindSpecialIfBound?]
  refine wpAny_holding (wpAny_bind (wpAny_bind (wpAny_bind (I.type.here ((looks_findIn X hs).here ?_)))))
  refine wpAny_bind (wpAny_askSetting (wpAny_ite ?_))
  have fin : wpAny M A (call (.builtin "object.__ne__") ([.ref x] ++ args) >>= fun v => pure (some v)) Q E s := wpAny_bind (wpAny_mono h (fun v s' h' => wpAny_pure h') fun _ _ h' => h')
  split
  · exact wpAny_bind (wpAny_of_eq (PySem.F.cmp_object.ne.bind _) (wpAny_pure (by exact fin)))
  · exact wpAny_tryCatch (wpAny_bind (wpAny_of_eq (PySem.F.cmp_object.ne.bind _) (wpAny_pure (by exact fin))))
/-- what an own __eq__ hands back, turned -/
def NeB2 (Q : Value → Shared → Prop) (v : Value) (s : Shared) : Prop := ∃ c, v = .bool c ∧ Q (.bool (!c)) s
theorem entry_ne {Q : Fin → Shared → Prop} (hu : A.units < cLine) (X : K.In s.heap) (I : InstAt s.heap x ox C od) (hs : findIn K (.ref C) "__eq__" = some (some (.ref f))) (hf : isFn K (.ref f) = true)
    (h : wpAny M A (call (.ref f) [.ref x, b]) (NeB2 fun v s' => Q (.done (.ret v)) s') E s) : wpAny M A (Builtin.«object.__ne__» ⟨[.ref x, b], []⟩) Q E s := by
  unfold Builtin.«object.__ne__»
  refine wpAny_bind (wpAny_of_eq (a := ((Value.ref x : Value), [b])) (by first | rfl | (simp only [slotArgs]; rfl)) ?_)
  refine wpAny_bind (wpAny_cRoomFor hu ?_)
  refine wpAny_bind (ifBound_K X I hs hf (wpAny_mono h (fun v s' hv => ?_) fun _ _ e => e))
  obtain ⟨c, rfl, hq⟩ := hv
  refine wpAny_bind (wpAny_truthy_bool ?_)
  exact wpAny_pure hq
theorem call_objNe {Q : Value → Shared → Prop} (hu : A.units + 1 < cLine) (X : K.In s.heap) (I : InstAt s.heap x ox C od) (hm : mroIn K C (.type "object") = some true) (hs : findIn K (.ref C) "__eq__" = some (some (.ref f))) (hf : isFn K (.ref f) = true)
    (h : wpAny (model prog w) A.in1 (call (.ref f) [.ref x, b]) (NeB2 Q) E s) : wpAny (model prog w) A (call (.builtin "object.__ne__") [.ref x, b]) Q E s :=
  wpAny_call (codeAny_call_builtin PySem.F.cmp_object.ne.plain PySem.F.cmpEntry_ne (check_slot PySem.F.cmpKind_ne PySem.F.cmpSplit_ne (I.type.andThen (looks_mroIn X hm)) (PySem.F.cmpArgs_ne _ _)
    (entry_ne (A := A.in1) hu X I hs hf (wpAny_mono h (fun v s' hv => hv) fun _ _ e => e))))
/-- a != b by a's own __eq__ -/
theorem ne_own {Q : Value → Shared → Prop} {tb : Value} (hu : A.units + 1 < cLine) (X : K.In s.heap) (I : InstAt s.heap x ox C od) (hb : Looks (model prog w) s.heap (typeOf b) tb) (hn : notFirst K C tb = true)
    (hm : mroIn K C (.type "object") = some true) (hne : findIn K (.ref C) "__ne__" = some (some (.builtin "object.__ne__"))) (hs : findIn K (.ref C) "__eq__" = some (some (.ref f))) (hf : isFn K (.ref f) = true)
    (h : wpAny (model prog w) A.in1 (call (.ref f) [.ref x, b]) (NeB2 Q) E s) : wpAny (model prog w) A (richCompare .NotEq (.ref x) b) Q E s := by
  have one : wpAny (model prog w) A (tryCompare (.ref x) "__ne__" b) (fun r s' => ∃ v, r = some v ∧ Q v s') E s := by
    unfold tryCompare
    refine wpAny_bind (ifBound_objNe X I hne (call_objNe hu X I hm hs hf (wpAny_mono h (fun v s' hv => ?_) fun _ _ e => e)))
    obtain ⟨c, rfl, hq⟩ := hv
    exact ⟨c, rfl, wpAny_pure ⟨_, rfl, hq⟩⟩
  unfold richCompare
  simp only [oneThing_ref, cmpInfo_NotEq]
  refine wpAny_holding (wpAny_bind (wpAny_cRoomFor (by omega) ?_))
  refine wpAny_bind (I.type.here (wpAny_bind (hb.here ?_)))
  split
  · rename_i q
    have e : subIn K tb (.ref C) = some false := by
      rcases Bool.or_eq_true_iff.mp hn with e | e
      · rw [beq_iff_eq.mp e] at q; simp at q
      · exact beq_iff_eq.mp e
    refine wpAny_bind ((looks_subIn X e).here ?_)
    simp only [Bool.false_eq_true, if_false]
    refine wpAny_bind (wpAny_mono one (fun r s' z => ?_) fun _ _ e => e)
    obtain ⟨v, rfl, hq⟩ := z
    exact wpAny_pure hq
  · refine wpAny_bind (wpAny_pure ?_)
    simp only [Bool.false_eq_true, if_false]
    refine wpAny_bind (wpAny_mono one (fun r s' z => ?_) fun _ _ e => e)
    obtain ⟨v, rfl, hq⟩ := z
    exact wpAny_pure hq
/-- i != a by a's own __eq__, i a whole number -/
theorem ne_refl {Q : Value → Shared → Prop} {i : Int} {t : Tok} {id : String} {name : String} {g : Int → Int → Sem Fin} (hu : A.units + 1 < cLine) (X : K.In s.heap) (I : InstAt s.heap x ox C od) (hd : ∀ p, ox.data ≠ .prim p)
    (hsl : Slot "int" "__ne__" id) (hen : entryFor table id = some (Builtin.Int.intBinary name g false)) (har : argsOk id ⟨[.int i t, .ref x], []⟩)
    (hm : mroIn K C (.type "object") = some true) (hne : findIn K (.ref C) "__ne__" = some (some (.builtin "object.__ne__"))) (hs : findIn K (.ref C) "__eq__" = some (some (.ref f))) (hf : isFn K (.ref f) = true) (hsub : subIn K (.ref C) (.type "int") = some false)
    (h : wpAny (model prog w) A.in1 (call (.ref f) [.ref x, .int i t]) (NeB2 Q) E s) : wpAny (model prog w) A (richCompare .NotEq (.int i t) (.ref x)) Q E s := by
  have one : wpAny (model prog w) A (tryCompare (.ref x) "__ne__" (.int i t)) (fun r s' => ∃ v, r = some v ∧ Q v s') E s := by
    unfold tryCompare
    refine wpAny_bind (ifBound_objNe X I hne (call_objNe hu X I hm hs hf (wpAny_mono h (fun v s' hv => ?_) fun _ _ e => e)))
    obtain ⟨c, rfl, hq⟩ := hv
    exact ⟨c, rfl, wpAny_pure ⟨_, rfl, hq⟩⟩
  have hx := I.at_
  have two : ∀ {R : Option Value → Shared → Prop}, R none s → wpAny (model prog w) A (tryCompare (.int i t) "__ne__" (.ref x)) R E s := fun {R} hR =>
    wpAny_tryCompare_declines (typeIs_int s i t) hsl (wpAny_call_entry hsl (typeIs_int s i t) hen (int_declines hx hd ⟨_, rfl, rfl, hR⟩) har)
  have L1 : Looks (model prog w) s.heap (typeOf (.ref x)) (.ref C) := I.type
  have L2 : Looks (model prog w) s.heap (typeOf (.int i t)) (.type "int") := Looks.of_pure rfl
  have hne' : (Value.type "int" != Value.ref C) = true := rfl
  have ho : oneThing? .NotEq (.int i t) (.ref x) = none := rfl
  unfold richCompare
  simp only [ho, cmpInfo_NotEq]
  refine wpAny_holding (wpAny_bind (wpAny_cRoomFor (by omega) ?_))
  refine wpAny_bind (L2.here (wpAny_bind (L1.here ?_)))
  simp only [hne', if_true]
  refine wpAny_bind ((looks_subIn X hsub).here ?_)
  simp only [Bool.false_eq_true, if_false]
  refine wpAny_bind (two ?_)
  simp only [Bool.not_false, if_true]
  refine wpAny_bind (wpAny_mono one (fun r s' z => ?_) fun _ _ e => e)
  obtain ⟨v, rfl, hq⟩ := z
  exact wpAny_pure hq
theorem truthy_own {Q : Bool → Shared → Prop} (X : K.In s.heap) (I : InstAt s.heap x ox C od) (hs : findIn K (.ref C) "__bool__" = some (some (.ref f))) (hf : isFn K (.ref f) = true)
    (h : wpAny M A (call (.ref f) [.ref x]) (PySem.W.BoolBack Q) E s) : wpAny M A (truthy (.ref x)) Q E s := by
  unfold truthy
  refine wpAny_bind (m := callSpecial? (.ref x) (Str.ofString "__bool__")) (special_fn X I hs (beq_iff_eq.mp hf) (wpAny_mono h (fun r s' hr => ?_) fun _ _ y => y))
  cases r <;> first | exact hr.elim | skip
  exact wpAny_pure hr
/-- bool(x) by x's own __bool__ -/
theorem bool_own {Q : Value → Shared → Prop} (X : K.In s.heap) (I : InstAt s.heap x ox C od) (hs : findIn K (.ref C) "__bool__" = some (some (.ref f))) (hf : isFn K (.ref f) = true)
    (h : wpAny (model prog w) A.in1.in1 (call (.ref f) [.ref x]) (PySem.W.BoolBack fun c s' => Q (.bool c) s') E s) : wpAny (model prog w) A (call (.type "bool") [.ref x]) Q E s := by
  refine callType_codes (T := "bool") (Bi := Builtin.«object.__init__») (Q₁ := fun r s₁ => ∃ c, r = .bool c ∧ Q r s₁) PySem.F.called_bool (PySem.F.typeCall_bool_1 _) PySem.F.entry_object_init ?_ ?_
  · refine codeAny_of_tree ?_
    show wpAny _ A.in1.in1 (do checkBuiltinCall "bool.__new__" ⟨[.type "bool", .ref x], []⟩; again (.builtin "bool.__new__" ⟨[.type "bool", .ref x], []⟩)) _ _ s
    refine wpAny_bind (wpAny_of_eq (PySem.F.newCall_bool_1 _) (wpAny_pure ⟨plainId_quiet (by decide +kernel) _, codeAny_builtin PySem.F.entry_bool_new ?_⟩))
    rw [Around.under_plainId (by decide +kernel) _]
    have t1 : wpAny (model prog w) A.in1.in1 (truthy (.ref x)) (fun c s' => Q (.bool c) s') E s := truthy_own X I hs hf h
    have f1 := PySem.F.conv_sub_bool
    repeat (any_goals (first | assumption | (with_reducible refine wpAny_mono t1 (fun c s' hq => ?_) (fun _ _ e => e)) | wp_step))
    all_goals first | exact ⟨_, rfl, hq⟩ | skip
  · rintro obj s₁ ⟨c, rfl, hq⟩
    exact ⟨rfl, PySem.F.args_object_init_2 _ _, object_init_meets PySem.F.called_bool.init.lookup PySem.F.called_bool.made (by decide) prog w A.in1 _ s₁ ⟨rfl, rfl, hq⟩⟩
end
end AzX
namespace Az
open PySem PySem.Spec PyProof.Rows L2 AzX
section
variable {X : Cx} {pins : List (Addr × Obj)} {σ : L2.St} {H : Hp} {s : Shared} {C f g : Addr} {k : Nat} {fd : FuncData} {ps : List Str} {sp : Sp} {E : XK} {CX : CXT} {dvs : List V} {ds : List Value}
/-- a def run by a built-in, n built-ins deep -/
theorem run_in {Q : VK} {A : Around} {us : List Value} {vs : List V} (F : FnOk X.prog X.w X.K X.mg X.base CX k f fd ps sp) (hr : Room k A) (hfr : A.frames = X.A.frames) (hb : Binds X.K fd ps []) (hx : Passes CX X E)
    (I : Inv X pins σ H s) (r : Vals vs us) (h : sp vs H Q E) : wpAny (model X.prog X.w) A (call (.ref f) us) (EP X pins σ Q) X.xe s := by
  have hl : us.length = ps.length := by rw [← r.length]; exact F.len _ _ _ _ h
  have e0 := I.env0
  have e1 : Env0 X.prog X.w X.K X.mg X.base A X.stack s H := ⟨hfr.trans e0.frames, e0.mod, e0.bs, e0.bsz, e0.funs, e0.frf, e0.hok, e0.bare⟩
  have hb' := hb s us I.kIn (by rw [List.append_nil]; exact hl)
  rw [List.append_nil] at hb'
  refine wpAny_call (codeAny_mono (F.run A X.stack s H ⟨us, []⟩ us vs Q E hr e1 hb' r h) fun r s' hq => ?_)
  cases r with
  | error e => exact hx pins σ H s e s' I hq
  | ok fl =>
    cases fl with
    | ret u => exact I.after hq
    | next => exact False.elim hq
    | brk => exact False.elim hq
    | cont => exact False.elim hq
def kNot (Q : VK) : VK := fun v H => ∃ c, v = .bl c ∧ Q (.bl (!c)) H
def rNeO (K : PySem.W.Frag) (C : Addr) (sp : Sp) (E : XK) : R2 := fun x y H Q => ∃ a dx fs, x = .ref a ∧ H a = some (.ins C dx fs) ∧ CmpY K C H y ∧ sp [x, y] H (kNot Q) E
theorem ne_back {Q : VK} {v : Value} {s' : Shared} (h : EP X pins σ (kNot Q) v s') : NeB2 (EP X pins σ Q) v s' := by
  obtain ⟨x, H', J, r, c, rfl, q⟩ := h
  cases r
  exact ⟨c, rfl, .bl (!c), H', J, rfl, q⟩
/-- the facts of != by an own __eq__ -/
structure NeC (K : PySem.W.Frag) (C f : Addr) : Prop where
  ob : PySem.W.mroIn K C (.type "object") = some true
  ne : PySem.W.findIn K (.ref C) "__ne__" = some (some (.builtin "object.__ne__"))
  eq : PySem.W.findIn K (.ref C) "__eq__" = some (some (.ref f))
  fn : PySem.W.isFn K (.ref f) = true
  int : PySem.W.subIn K (.ref C) (.type "int") = some false
/-- x != y, x of the class -/
theorem ne_ownV (N : NeC X.K C f) (F : FnOk X.prog X.w X.K X.mg X.base CX k f fd ps sp) (hr : Room (k + 1) X.A) (hb : Binds X.K fd ps []) (hx : Passes CX X E) : OpR X (compareOp .NotEq) (rNeO X.K C sp E) := by
  intro pins s σ H x y v u Q I rx ry h
  obtain ⟨a, dx, fs, rfl, ha, hy, q⟩ := h
  cases (show v = Value.ref a from rx)
  obtain ⟨od, J⟩ := inst_of I ha
  have hu : X.A.units + 1 < cLine := by have := hr.units; omega
  have one : wpAny (model X.prog X.w) X.A.in1 (call (.ref f) [.ref a, u]) (NeB2 (EP X pins σ Q)) X.xe s :=
    wpAny_mono (run_in (A := X.A.in1) (us := [.ref a, u]) (vs := [.ref a, y]) F hr.in1 rfl hb hx I (.cons rfl (.cons ry .nil)) q) (fun _ _ z => ne_back z) fun _ _ z => z
  show wpAny _ _ (richCompare .NotEq (.ref a) u) _ _ _
  rcases hy with ⟨b, dy, gs, rfl, hB⟩ | ⟨T, hT, h3⟩
  · cases (show u = Value.ref b from ry)
    obtain ⟨od2, J2⟩ := inst_of I hB
    exact AzX.ne_own hu I.kIn J J2.type (by unfold PySem.W.notFirst; simp) N.ob N.ne N.eq N.fn one
  · exact AzX.ne_own hu I.kIn J (ty_looks I ry hT) (by unfold PySem.W.notFirst; simp [h3]) N.ob N.ne N.eq N.fn one
def rNeR (C : Addr) (sp : Sp) (E : XK) : R2 := fun x y H Q => ∃ i a dx fs, x = .int i ∧ y = .ref a ∧ H a = some (.ins C dx fs) ∧ sp [y, x] H (kNot Q) E
/-- i != y -/
theorem ne_ownR (N : NeC X.K C f) (F : FnOk X.prog X.w X.K X.mg X.base CX k f fd ps sp) (hr : Room (k + 1) X.A) (hb : Binds X.K fd ps []) (hx : Passes CX X E) : OpR X (compareOp .NotEq) (rNeR C sp E) := by
  intro pins s σ H x y v u Q I rx ry h
  obtain ⟨i, a, dx, fs, rfl, rfl, ha, q⟩ := h
  obtain ⟨t, rfl⟩ := rx
  cases (show u = Value.ref a from ry)
  obtain ⟨od, J⟩ := inst_of I ha
  have hu : X.A.units + 1 < cLine := by have := hr.units; omega
  have one : wpAny (model X.prog X.w) X.A.in1 (call (.ref f) [.ref a, .int i t]) (NeB2 (EP X pins σ Q)) X.xe s :=
    wpAny_mono (run_in (A := X.A.in1) (us := [.ref a, .int i t]) (vs := [.ref a, .int i]) F hr.in1 rfl hb hx I (.cons rfl (.cons ⟨t, rfl⟩ .nil)) q) (fun _ _ z => ne_back z) fun _ _ z => z
  show wpAny _ _ (richCompare .NotEq (.int i t) (.ref a)) _ _ _
  exact AzX.ne_refl hu I.kIn J (fun p z => nomatch z) PySem.F.slot_int_ne PySem.F.entry_int_ne (PySem.F.args_int_ne_2 _ _) N.ob N.ne N.eq N.fn N.int one
def kBl (Q : Bool → Hp → Prop) : VK := fun v H => ∃ c, v = .bl c ∧ Q c H
/-- truth of x by its own __bool__ -/
theorem tru_own (hm : PySem.W.findIn X.K (.ref C) "__bool__" = some (some (.ref f))) (hf : PySem.W.isFn X.K (.ref f) = true) (F : FnOk X.prog X.w X.K X.mg X.base CX k f fd ps sp) (hr : Room k X.A) (hb : Binds X.K fd ps []) (hx : Passes CX X E) :
    TruR X (fun x H Q => ∃ a dx fs, x = .ref a ∧ H a = some (.ins C dx fs) ∧ sp [x] H (kBl Q) E) := by
  intro pins s σ H x v Q I rx h
  obtain ⟨a, dx, fs, rfl, ha, q⟩ := h
  cases (show v = Value.ref a from rx)
  obtain ⟨od, J⟩ := inst_of I ha
  refine AzX.truthy_own I.kIn J hm hf (wpAny_mono (run_in (us := [.ref a]) (vs := [.ref a]) F hr rfl hb hx I (.cons rfl .nil) q) (fun u s' z => ?_) fun _ _ z => z)
  obtain ⟨x, H', J, r, c, rfl, q⟩ := z
  cases r
  exact ⟨H', J, q⟩
def rBoolO (C : Addr) (sp : Sp) (E : XK) : List V → Hp → VK → Prop := fun xs H Q => ∃ a dx fs, xs = [.ref a] ∧ H a = some (.ins C dx fs) ∧ sp [.ref a] H (kBl fun c H' => Q (.bl c) H') E
/-- bool(x) by its own __bool__ -/
theorem call_boolO (hm : PySem.W.findIn X.K (.ref C) "__bool__" = some (some (.ref f))) (hf : PySem.W.isFn X.K (.ref f) = true) (F : FnOk X.prog X.w X.K X.mg X.base CX k f fd ps sp) (hr : Room (k + 2) X.A) (hb : Binds X.K fd ps []) (hx : Passes CX X E) : CallR X (.type "bool") (rBoolO C sp E) := by
  intro pins s σ H xs us Q I r h
  obtain ⟨a, dx, fs, rfl, ha, q⟩ := h
  obtain ⟨u, rfl, ru⟩ := vals1 r
  cases (show u = Value.ref a from ru)
  obtain ⟨od, J⟩ := inst_of I ha
  refine AzX.bool_own I.kIn J hm hf (wpAny_mono (run_in (A := X.A.in1.in1) (us := [.ref a]) (vs := [.ref a]) F hr.in1.in1 rfl hb hx I (.cons rfl .nil) q) (fun u s' z => ?_) fun _ _ z => z)
  obtain ⟨x, H', J, r, c, rfl, q⟩ := z
  cases r
  exact ⟨.bl c, H', J, rfl, q⟩
def kStr (Q : Str → Hp → Prop) : VK := fun v H => ∃ c, v = .str c ∧ Q c H
def rStrO (C : Addr) (sp : Sp) (E : XK) : List V → Hp → VK → Prop := fun xs H Q => ∃ a dx fs, xs = [.ref a] ∧ H a = some (.ins C dx fs) ∧ sp [.ref a] H (kStr fun c H' => Q (.str c) H') E
/-- str(x) by its own __str__ -/
theorem call_strO (hm : PySem.W.findIn X.K (.ref C) "__str__" = some (some (.ref f))) (hf : PySem.W.isFn X.K (.ref f) = true) (F : FnOk X.prog X.w X.K X.mg X.base CX k f fd ps sp) (hr : Room (k + 2) X.A) (hb : Binds X.K fd ps []) (hx : Passes CX X E) : CallR X (.type "str") (rStrO C sp E) := by
  intro pins s σ H xs us Q I r h
  obtain ⟨a, dx, fs, rfl, ha, q⟩ := h
  obtain ⟨u, rfl, ru⟩ := vals1 r
  cases (show u = Value.ref a from ru)
  obtain ⟨od, J⟩ := inst_of I ha
  have hu : X.A.in1.in1.units < cLine := by have := hr.un; show X.A.units + 1 + 1 < _; omega
  refine PySem.W.kso_call hu I.kIn J hm hf (wpAny_mono (run_in (A := X.A.in1.in1) (us := [.ref a]) (vs := [.ref a]) F hr.in1.in1 rfl hb hx I (.cons rfl .nil) q) (fun u s' z => ?_) fun _ _ z => z)
  obtain ⟨x, H', J, r, c, rfl, q⟩ := z
  obtain ⟨t, rfl⟩ := r
  exact ⟨.str c, H', J, ⟨t, rfl⟩, q⟩
end
end Az

/-! A def's promise with its bindings, and the rules over it. -/
namespace Az
open PySem PySem.Spec PyProof.Rows L2 AzX ClX Hz He
/-- the def at f keeps the promise sp; dvs: its defaults -/
structure Dn (P : Program) (w : World) (K : PySem.W.Frag) (mg : Str → Option Value) (base : Heap) (CX : CXT) (k : Nat) (f : Addr) (ps : List Str) (dvs : List V) (sp : Sp) : Prop where
  kp : PySem.W.keepIn K (.ref f) = true
  ex : ∃ fd, FnOk P w K mg base CX k f fd ps sp ∧ ∀ j, j ≤ dvs.length → ∃ ds, Vals (dvs.drop j) ds ∧ Binds K fd ps ds
structure DnG (P : Program) (w : World) (K : PySem.W.Frag) (mg : Str → Option Value) (base : Heap) (CX : CXT) (k : Nat) (f : Addr) (ps : List Str) (dvs : List V) (sp : Sp) : Prop where
  kp : PySem.W.keepIn K (.ref f) = true
  ex : ∃ fd, FnG P w K mg base CX k f fd ps sp ∧ ∀ j, j ≤ dvs.length → ∃ ds, Vals (dvs.drop j) ds ∧ Binds K fd ps ds
section
variable {P : Program} {w : World} {K : PySem.W.Frag} {mg : Str → Option Value} {base : Heap} {CX : CXT} {k : Nat} {f : Addr} {ps : List Str} {dvs : List V} {sp : Sp}
theorem Dn.b0 (D : Dn P w K mg base CX k f ps [] sp) : ∃ fd, FnOk P w K mg base CX k f fd ps sp ∧ Binds K fd ps [] := by
  obtain ⟨fd, G, b⟩ := D.ex
  obtain ⟨ds, v, b⟩ := b 0 (Nat.zero_le _)
  cases v
  exact ⟨fd, G, b⟩
theorem DnG.b0 (D : DnG P w K mg base CX k f ps [] sp) : ∃ fd, FnG P w K mg base CX k f fd ps sp ∧ Binds K fd ps [] := by
  obtain ⟨fd, G, b⟩ := D.ex
  obtain ⟨ds, v, b⟩ := b 0 (Nat.zero_le _)
  cases v
  exact ⟨fd, G, b⟩
theorem Dn.g (D : Dn P w K mg base CX k f ps dvs sp) : DnG P w K mg base CX k f ps dvs sp := by
  obtain ⟨fd, G, b⟩ := D.ex
  exact ⟨D.kp, fd, FnG.of G, b⟩
end
/-- a def without defaults, as Fun -/
theorem fun_of {K : PySem.W.Frag} {d : DefZ} {fd : FuncData} (F : FnP K d fd) (hd : d.dfl = []) : Fun K d.name d.qual d.st (d.at_.ad K) fd := by
  obtain ⟨⟨oc, od, dV, kV, doc, pm, an, cdv, ct, osl, e, lk, hcd, hD, _⟩, kp⟩ := F
  have hz : d.dvs K = [] := by unfold DefZ.dvs; rw [hd]; rfl
  rcases hD with ⟨_, e2⟩ | ⟨e2, _⟩
  · subst e2
    exact ⟨⟨oc, od, kV, doc, pm, an, cdv, ct, osl, e, lk, hcd⟩, kp⟩
  · exact absurd hz e2
section
variable {P : Program} {w : World} {K : PySem.W.Frag} {mg : Str → Option Value} {base : Heap} {CX : CXT} {k : Nat} {ps : List Str} {sp : Sp} {d : DefZ}
theorem dn_mk {fd : FuncData} (F : FnP K d fd) (hd : d.dfl = []) (h : ∀ (kV doc pm : Value) (an : Option Addr) (cdv ct : Value) (us : List Value), us.length = ps.length → bindArgs (PySem.W.fnOf d.name d.qual (defArgs d.st) (defBody d.st) (defScope d.st) .none kV doc pm an cdv ct) ⟨us, []⟩ = pure (ps.zip us))
    (G : FnOk P w K mg base CX k (d.at_.ad K) fd ps sp) : Dn P w K mg base CX k (d.at_.ad K) ps [] sp := by
  have hz : d.dvs K = [] := by unfold DefZ.dvs; rw [hd]; rfl
  have F' : FunD K d.name d.qual (defArgs d.st) (defBody d.st) (defScope d.st) [] [] (d.at_.ad K) fd := by rw [← hz]; exact F
  exact ⟨F.kp, fd, G, fun j _ => ⟨[], by simp [List.drop_nil]; exact .nil, F'.bindsN h⟩⟩
theorem dn_mkG {fd : FuncData} (F : FnP K d fd) (hd : d.dfl = []) (h : ∀ (kV doc pm : Value) (an : Option Addr) (cdv ct : Value) (us : List Value), us.length = ps.length → bindArgs (PySem.W.fnOf d.name d.qual (defArgs d.st) (defBody d.st) (defScope d.st) .none kV doc pm an cdv ct) ⟨us, []⟩ = pure (ps.zip us))
    (G : FnG P w K mg base CX k (d.at_.ad K) fd ps sp) : DnG P w K mg base CX k (d.at_.ad K) ps [] sp := by
  have hz : d.dvs K = [] := by unfold DefZ.dvs; rw [hd]; rfl
  have F' : FunD K d.name d.qual (defArgs d.st) (defBody d.st) (defScope d.st) [] [] (d.at_.ad K) fd := by rw [← hz]; exact F
  exact ⟨F.kp, fd, G, fun j _ => ⟨[], by simp [List.drop_nil]; exact .nil, F'.bindsN h⟩⟩
/-- one default -/
theorem dn_mk1 {fd : FuncData} {v : Dv} {n : Nat} (F : FnP K d fd) (hd : d.dfl = [v]) (hn : ps.length = n + 1)
    (h0 : ∀ (T : Addr) (kV doc pm : Value) (an : Option Addr) (cdv ct : Value) (us its : List Value), us.length = n → its.length = 1 → ∃ k, bindArgs (PySem.W.fnOf d.name d.qual (defArgs d.st) (defBody d.st) (defScope d.st) (.ref T) kV doc pm an cdv ct) ⟨us, []⟩ = seqItems? (.ref T) >>= k ∧ k (some its.toArray) = pure (ps.zip (us ++ its.drop 0)))
    (h1 : ∀ (T : Addr) (kV doc pm : Value) (an : Option Addr) (cdv ct : Value) (us its : List Value), us.length = n + 1 → its.length = 1 → ∃ k, bindArgs (PySem.W.fnOf d.name d.qual (defArgs d.st) (defBody d.st) (defScope d.st) (.ref T) kV doc pm an cdv ct) ⟨us, []⟩ = seqItems? (.ref T) >>= k ∧ k (some its.toArray) = pure (ps.zip (us ++ its.drop 1)))
    (G : FnOk P w K mg base CX k (d.at_.ad K) fd ps sp) : Dn P w K mg base CX k (d.at_.ad K) ps [v.v K] sp := by
  have hz : d.dvs K = [v.v K] := by unfold DefZ.dvs; rw [hd]; rfl
  have F' : FunD K d.name d.qual (defArgs d.st) (defBody d.st) (defScope d.st) [v.v K] [] (d.at_.ad K) fd := by rw [← hz]; exact F
  refine ⟨F.kp, fd, G, fun j hj => ?_⟩
  match j, hj with
  | 0, _ => exact F'.binds1 n 0 (by simp) (by simp; omega) h0
  | 1, _ => exact F'.binds1 (n + 1) 1 (by simp) (by simp; omega) h1
end
section
variable {X : Cx} {CX : CXT} {k : Nat} {f C : Addr} {ps : List Str} {sp : Sp} {dvs dv : List V} {E : XK} {x m : Str} {p pos apos : Pos} {o e : Expr} {es : List Expr} {t : TA} {ta : TE}
theorem pe_callD (D : Dn X.prog X.w X.K X.mg X.base CX k f ps [] sp) (hr : Room k X.A) (hg : Gl X x) (hm : X.mg x = some (.ref f)) (hx : Passes CX X E)
    (ha : PA X (e :: es) t) (hdb : (x == ("__debug__" : Str)) = false := by decide) (he : starEach (e :: es) X.env = (false, eval e X.env) :: starEach es X.env := by rfl) (hpl : (backTo pos (starEach es X.env)).any (·.1) = false := by rfl) :
    PE X (.Call (.Name x p) (e :: es) [] pos) (tCall sp [] E t) := by
  obtain ⟨fd, G, b⟩ := D.b0
  exact pe_call G hr hg hm D.kp b .nil hx ha hdb he hpl
theorem pe_callGD (D : DnG X.prog X.w X.K X.mg X.base CX k f ps [] sp) (hr : Room k X.A) (hgd : X.A.guards = some []) (hg : Gl X x) (hm : X.mg x = some (.ref f)) (hx : Passes CX X E)
    (ha : PA X (e :: es) t) (hdb : (x == ("__debug__" : Str)) = false := by decide) (he : starEach (e :: es) X.env = (false, eval e X.env) :: starEach es X.env := by rfl) (hpl : (backTo pos (starEach es X.env)).any (·.1) = false := by rfl) :
    PE X (.Call (.Name x p) (e :: es) [] pos) (tCall sp [] E t) := by
  obtain ⟨fd, G, b⟩ := D.b0
  exact pe_callG G hr hgd hg hm D.kp b .nil hx ha hdb he hpl
/-- some defaults fill up -/
theorem pe_callDd (D : Dn X.prog X.w X.K X.mg X.base CX k f ps dvs sp) (j : Nat) (hr : Room k X.A) (hg : Gl X x) (hm : X.mg x = some (.ref f)) (hx : Passes CX X E)
    (ha : PA X (e :: es) t) (hj : j ≤ dvs.length := by decide) (hv : dvs.drop j = dv := by rfl) (hdb : (x == ("__debug__" : Str)) = false := by decide) (he : starEach (e :: es) X.env = (false, eval e X.env) :: starEach es X.env := by rfl) (hpl : (backTo pos (starEach es X.env)).any (·.1) = false := by rfl) :
    PE X (.Call (.Name x p) (e :: es) [] pos) (tCall sp dv E t) := by
  obtain ⟨fd, G, b⟩ := D.ex
  obtain ⟨ds, v, b⟩ := b j hj
  rw [hv] at v
  exact pe_call G hr hg hm D.kp b v hx ha hdb he hpl
theorem pe_makeD (M : Mk X.K C f) (D : Dn X.prog X.w X.K X.mg X.base CX k f ps dvs sp) (j : Nat) (hr : Room (k + 1) X.A) (hg : Gl X x) (hm : X.mg x = some (.ref C)) (hx : Passes CX X E)
    (ha : PA X (e :: es) t) (hj : j ≤ dvs.length := by decide) (hv : dvs.drop j = dv := by rfl) (hdb : (x == ("__debug__" : Str)) = false := by decide) (he : starEach (e :: es) X.env = (false, eval e X.env) :: starEach es X.env := by rfl) (hpl : (backTo pos (starEach es X.env)).any (·.1) = false := by rfl) :
    PE X (.Call (.Name x p) (e :: es) [] pos) (tMake C sp dv E t) := by
  obtain ⟨fd, G, b⟩ := D.ex
  obtain ⟨ds, v, b⟩ := b j hj
  rw [hv] at v
  exact pe_make M G hr hg hm b v hx ha hdb he hpl
theorem pe_smethD {q : Addr} {mc : Value} {pl : Sem Bool} (he : PE X o ta) (r : CRead X.K C mc) (c : SMet X.K C mc m q f) (D : Dn X.prog X.w X.K X.mg X.base CX k f ps [] sp) (hr : Room k X.A) (hx : Passes CX X E) (ha : PA X (e :: es) t)
    (hst : starEach (e :: es) X.env = (false, eval e X.env) :: starEach es X.env := by rfl) (hpl : (backTo pos (starEach es X.env)).any (·.1) = false := by rfl)
    (ht : eval (.Call (.Attribute o m apos) (e :: es) [] pos) X.env = (do
      let ov ← eval o X.env
      standAt apos.atName
      let (f, first) ← holding [ov] (getMethod ov m pl)
      callWith pos f first (backTo pos (starEach (e :: es) X.env)) (backToKw pos (keywordEach [] X.env))) := by rfl) :
    PE X (.Call (.Attribute o m apos) (e :: es) [] pos) (tSMeth C sp [] E ta t) := by
  obtain ⟨fd, G, b⟩ := D.b0
  exact pe_smeth he r c G hr b .nil hx ha hst hpl ht
theorem pe_methD {pl : Sem Bool} (he : PE X o ta) (c : Cls X.K C) (hm : Meth X.K C m f) (D : Dn X.prog X.w X.K X.mg X.base CX k f ps [] sp) (hr : Room k X.A) (hx : Passes CX X E) (ha : PA X (e :: es) t)
    (hst : starEach (e :: es) X.env = (false, eval e X.env) :: starEach es X.env := by rfl) (hpl : (backTo pos (starEach es X.env)).any (·.1) = false := by rfl)
    (ht : eval (.Call (.Attribute o m apos) (e :: es) [] pos) X.env = (do
      let ov ← eval o X.env
      standAt apos.atName
      let (f, first) ← holding [ov] (getMethod ov m pl)
      callWith pos f first (backTo pos (starEach (e :: es) X.env)) (backToKw pos (keywordEach [] X.env))) := by rfl) :
    PE X (.Call (.Attribute o m apos) (e :: es) [] pos) (tMeth C m sp [] E ta t) := by
  obtain ⟨fd, G, b⟩ := D.b0
  exact pe_meth he c hm G hr b .nil hx ha hst hpl ht
theorem pe_methD0 {pl : Sem Bool} (he : PE X o ta) (c : Cls X.K C) (hm : Meth X.K C m f) (D : Dn X.prog X.w X.K X.mg X.base CX k f ps [] sp) (hr : Room k X.A) (hx : Passes CX X E)
    (ht : eval (.Call (.Attribute o m apos) [] [] pos) X.env = (do
      let ov ← eval o X.env
      standAt apos.atName
      let (f, first) ← holding [ov] (getMethod ov m pl)
      callWith pos f first (backTo pos (starEach [] X.env)) (backToKw pos (keywordEach [] X.env))) := by rfl) :
    PE X (.Call (.Attribute o m apos) [] [] pos) (tMeth C m sp [] E ta tNil) := by
  obtain ⟨fd, G, b⟩ := D.b0
  exact pe_meth0 he c hm G hr b .nil hx ht
end
section
variable {X : Cx} {CX : CXT} {k : Nat} {f g C : Addr} {ps : List Str} {sp : Sp} {E : XK} {op : Operator} {cop : CmpOp}
theorem op_ownD (oc : OpC X.K C op.info.2 f g) (D : Dn X.prog X.w X.K X.mg X.base CX k f ps [] sp) (hr : Room k X.A) (hx : Passes CX X E) : OpR X (binaryOp op) (rOwn X.K C op.info.2 sp E) := by
  obtain ⟨fd, G, b⟩ := D.b0
  exact op_own oc G hr b hx
/-- the methods of an own class for a comparison -/
structure CmC (K : PySem.W.Frag) (C : Addr) (name : Str) (f : Addr) : Prop where
  m : PySem.W.findIn K (.ref C) name = some (some (.ref f))
  fn : PySem.W.isFn K (.ref f) = true
theorem cmp_ownD (hop : compareOp cop = richCompare cop) (c : CmC X.K C (cmpInfo cop).2.1 f) (D : Dn X.prog X.w X.K X.mg X.base CX k f ps [] sp) (hr : Room k X.A) (hx : Passes CX X E) : OpR X (compareOp cop) (rCmp X.K C sp E) := by
  obtain ⟨fd, G, b⟩ := D.b0
  exact cmpR_own hop c.m c.fn G hr b hx
theorem lt_ownD (c : CmC X.K C "__lt__" f) (D : Dn X.prog X.w X.K X.mg X.base CX k f ps [] sp) (hr : Room k X.A) (hx : Passes CX X E) : OpR X (compareOp .Lt) (rCmp X.K C sp E) := cmp_ownD (cop := .Lt) rfl c D hr hx
theorem le_ownD (c : CmC X.K C "__le__" f) (D : Dn X.prog X.w X.K X.mg X.base CX k f ps [] sp) (hr : Room k X.A) (hx : Passes CX X E) : OpR X (compareOp .LtE) (rCmp X.K C sp E) := cmp_ownD (cop := .LtE) rfl c D hr hx
theorem gt_ownD (c : CmC X.K C "__gt__" f) (D : Dn X.prog X.w X.K X.mg X.base CX k f ps [] sp) (hr : Room k X.A) (hx : Passes CX X E) : OpR X (compareOp .Gt) (rCmp X.K C sp E) := cmp_ownD (cop := .Gt) rfl c D hr hx
theorem ge_ownD (c : CmC X.K C "__ge__" f) (D : Dn X.prog X.w X.K X.mg X.base CX k f ps [] sp) (hr : Room k X.A) (hx : Passes CX X E) : OpR X (compareOp .GtE) (rCmp X.K C sp E) := cmp_ownD (cop := .GtE) rfl c D hr hx
theorem eq_ownD (c : CmC X.K C "__eq__" f) (D : Dn X.prog X.w X.K X.mg X.base CX k f ps [] sp) (hr : Room k X.A) (hx : Passes CX X E) : OpR X (compareOp .Eq) (rCmp X.K C sp E) := cmp_ownD (cop := .Eq) rfl c D hr hx
/-- i < y by y's __gt__ and the like -/
theorem lt_ownRD (c : CmC X.K C "__gt__" f) (hs : PySem.W.subIn X.K (.ref C) (.type "int") = some false) (D : Dn X.prog X.w X.K X.mg X.base CX k f ps [] sp) (hr : Room k X.A) (hx : Passes CX X E) : OpR X (compareOp .Lt) (rOwnR C sp E) := by
  obtain ⟨fd, G, b⟩ := D.b0
  exact cmpR_ownR (op := .Lt) rfl PySem.F.slot_int_lt PySem.F.entry_int_lt (fun _ _ => PySem.F.args_int_lt_2 _ _) c.m c.fn hs G hr b hx
theorem le_ownRD (c : CmC X.K C "__ge__" f) (hs : PySem.W.subIn X.K (.ref C) (.type "int") = some false) (D : Dn X.prog X.w X.K X.mg X.base CX k f ps [] sp) (hr : Room k X.A) (hx : Passes CX X E) : OpR X (compareOp .LtE) (rOwnR C sp E) := by
  obtain ⟨fd, G, b⟩ := D.b0
  exact cmpR_ownR (op := .LtE) rfl PySem.F.slot_int_le PySem.F.entry_int_le (fun _ _ => PySem.F.args_int_le_2 _ _) c.m c.fn hs G hr b hx
theorem gt_ownRD (c : CmC X.K C "__lt__" f) (hs : PySem.W.subIn X.K (.ref C) (.type "int") = some false) (D : Dn X.prog X.w X.K X.mg X.base CX k f ps [] sp) (hr : Room k X.A) (hx : Passes CX X E) : OpR X (compareOp .Gt) (rOwnR C sp E) := by
  obtain ⟨fd, G, b⟩ := D.b0
  exact cmpR_ownR (op := .Gt) rfl PySem.F.slot_int_gt PySem.F.entry_int_gt (fun _ _ => PySem.F.args_int_gt_2 _ _) c.m c.fn hs G hr b hx
theorem ge_ownRD (c : CmC X.K C "__le__" f) (hs : PySem.W.subIn X.K (.ref C) (.type "int") = some false) (D : Dn X.prog X.w X.K X.mg X.base CX k f ps [] sp) (hr : Room k X.A) (hx : Passes CX X E) : OpR X (compareOp .GtE) (rOwnR C sp E) := by
  obtain ⟨fd, G, b⟩ := D.b0
  exact cmpR_ownR (op := .GtE) rfl PySem.F.slot_int_ge PySem.F.entry_int_ge (fun _ _ => PySem.F.args_int_ge_2 _ _) c.m c.fn hs G hr b hx
theorem eq_ownRD (c : CmC X.K C "__eq__" f) (hs : PySem.W.subIn X.K (.ref C) (.type "int") = some false) (D : Dn X.prog X.w X.K X.mg X.base CX k f ps [] sp) (hr : Room k X.A) (hx : Passes CX X E) : OpR X (compareOp .Eq) (rOwnR C sp E) := by
  obtain ⟨fd, G, b⟩ := D.b0
  exact cmpR_ownR (op := .Eq) rfl PySem.F.slot_int_eq PySem.F.entry_int_eq (fun _ _ => PySem.F.args_int_eq_2 _ _) c.m c.fn hs G hr b hx
theorem ne_ownD (N : NeC X.K C f) (D : Dn X.prog X.w X.K X.mg X.base CX k f ps [] sp) (hr : Room (k + 1) X.A) (hx : Passes CX X E) : OpR X (compareOp .NotEq) (rNeO X.K C sp E) := by
  obtain ⟨fd, G, b⟩ := D.b0
  exact ne_ownV N G hr b hx
theorem ne_ownRD (N : NeC X.K C f) (D : Dn X.prog X.w X.K X.mg X.base CX k f ps [] sp) (hr : Room (k + 1) X.A) (hx : Passes CX X E) : OpR X (compareOp .NotEq) (rNeR C sp E) := by
  obtain ⟨fd, G, b⟩ := D.b0
  exact ne_ownR N G hr b hx
theorem un_negD (c : CmC X.K C "__neg__" f) (D : Dn X.prog X.w X.K X.mg X.base CX k f ps [] sp) (hr : Room k X.A) (hx : Passes CX X E) : UnR X (unaryOp .USub) (rOwnU C sp E) := by
  obtain ⟨fd, G, b⟩ := D.b0
  exact un_negO c.m c.fn G hr b hx
theorem call_boolD (c : CmC X.K C "__bool__" f) (D : Dn X.prog X.w X.K X.mg X.base CX k f ps [] sp) (hr : Room (k + 2) X.A) (hx : Passes CX X E) : CallR X (.type "bool") (rBoolO C sp E) := by
  obtain ⟨fd, G, b⟩ := D.b0
  exact call_boolO c.m c.fn G hr b hx
theorem call_strD (c : CmC X.K C "__str__" f) (D : Dn X.prog X.w X.K X.mg X.base CX k f ps [] sp) (hr : Room (k + 2) X.A) (hx : Passes CX X E) : CallR X (.type "str") (rStrO C sp E) := by
  obtain ⟨fd, G, b⟩ := D.b0
  exact call_strO c.m c.fn G hr b hx
def rTruO (C : Addr) (sp : Sp) (E : XK) : V → Hp → (Bool → Hp → Prop) → Prop := fun x H Q => ∃ a dx fs, x = .ref a ∧ H a = some (.ins C dx fs) ∧ sp [x] H (kBl Q) E
theorem tru_ownD (c : CmC X.K C "__bool__" f) (D : Dn X.prog X.w X.K X.mg X.base CX k f ps [] sp) (hr : Room k X.A) (hx : Passes CX X E) : TruR X (rTruO C sp E) := by
  obtain ⟨fd, G, b⟩ := D.b0
  exact tru_own c.m c.fn G hr b hx
/-- a test by truth -/
theorem pt_tru {a : Expr} {ta : TE} {r : V → Hp → (Bool → Hp → Prop) → Prop} (tr : TruR X r) (ha : PE X a ta) (he : ∀ whole, isTrue a X.env whole = (do let v ← whole; standAt a.pos; holding [v] (truthy v))) : PT X a (fun σ H Q => ta σ H fun x H' => r x H' Q) :=
  ⟨fun pins s σ H Q I h => isTrue_plain (thn (ha.run pins s σ H _ I h) fun v s1 ⟨x, H1, I1, r1, q1⟩ => tr pins s1 σ H1 x v Q I1 r1 q1) (he _)⟩
end
end Az

namespace AzX
open PySem PySem.W PySem.Calls PyProof.Rows
def arg1 (x : Str) (p : Pos) : Arg := { arg := x, annotation := none, pos := p }
abbrev iA (l : List Arg) : Arguments := { posonlyargs := [], args := l, vararg := none, kwonlyargs := [], kw_defaults := [], kwarg := none, defaults := [] }
abbrev iS (l : List (Str × NameKind)) : Scope := { kind := .function, names := l, isGenerator := false, isCoroutine := false, more := [] }
abbrev st1 (f : Str) (q1 q2 q3 q4 : Pos) : Stmt := .Assign [.Attribute (.Name "self" q1) f q2] (.Name f q3) q4
/-- what __init__ leaves of a fresh exception at x -/
structure InitEnd (h h' : Heap) (x C dx t1 : Addr) (m : Str → Option Value) : Prop where
  keep : ∀ b o, b ≠ x → h.get? b = some o → h'.get? b = some o
  obj : h'.get? x = some { cls := .ref C, dict := some dx, data := .fields #[.ref t1, .none, .none, .none, .bool false, .none] }
  dbig : h.objs.size ≤ dx
  dne : dx ≠ x
  ns : h'.Ns1 dx m
/-- how the call super().__init__(args) is read where it stands -/
structure SupAt (scope : Scope) (fI : Addr) (p0 p1 p2 p3 p4 : Pos) (args : List PySem.Expr) : Prop where
  ev : ∀ (qual : Str) (L cda cc : Addr), ∃ pl : Sem Bool, eval (.Call (.Attribute (.Call (.Name "super" p0) [] [] p1) "__init__" p2) args [] p3) (ksEnv qual scope L fI (.ref cda) cc) = (do
      let ov ← attributeBase (.Call (.Name "super" p0) [] [] p1) "__init__" (ksEnv qual scope L fI (.ref cda) cc) (eval (.Call (.Name "super" p0) [] [] p1) (ksEnv qual scope L fI (.ref cda) cc))
      standAt p2.atName
      let (f, first) ← holding [ov] (getMethod ov "__init__" pl)
      callWith p3 f first (backTo p3 (starEach args (ksEnv qual scope L fI (.ref cda) cc))) [])
  sw : ∀ (qual : Str) (L cda cc : Addr), swapsWith (.Call (.Attribute (.Call (.Name "super" p0) [] [] p1) "__init__" p2) args [] p3) none p4.line (ksEnv qual scope L fI (.ref cda) cc) = pure false
section
variable {prog : Program} {w : World} {A : Around} {E : Value → Shared → Prop} {R : Result → Shared → Prop} {s : Shared} {K : Frag} {mg : Str → Option Value} {base : Heap} {C fI : Addr}
theorem ld_loc {M : Model} {env : Env} {m : Str → Option Value} {x : Str} {pos : Pos} {v : Value} {Q : Value → Shared → Prop} (hk : env.scope.kind = .function) (hl : env.kindOf x = some .local) (hn : s.heap.Ns env.locals m) (hv : m x = some v) (h : Q v s)
    (hd : (x == ("__debug__" : Str)) = false) : wpAny M A (eval (.Name x pos) env) Q E s := wpAny_Name (wpAny_loadName_local hk hl hn hv h) hd
theorem ns_keep {h h' : Heap} {L x : Addr} {m : Str → Option Value} (hn : h.Ns L m) (ne : L ≠ x) (k : ∀ b o, b ≠ x → h.get? b = some o → h'.get? b = some o) : h'.Ns L m := by
  obtain ⟨o, es, ep, ho, r⟩ := hn
  exact ⟨o, es, ep, k _ _ ne ho, r⟩
theorem clsIn_of {K : Frag} {C : Addr} {nm q : Str} {N : Addr} {bs bm : List Value} {sn : List Str} {sub : List Value} {ab : Bool} {col : Option Bool} {dd : Option Addr} {k0 k1 k2 k3 k5 : Option Value} {newId : String} (hC : K.lookup C = some (excClassObj nm q C N bs bm true sn sub ab col dd k0 k1 k2 k3 k5 newId)) :
    clsIn K C = some { name := nm, bases := bs, mro := .ref C :: bm, ns := N, qualname := q, hasDict := true, slotNames := sn, subclasses := sub, abstract := ab, collection := col, hasDel := false } := by unfold clsIn; rw [hC] <;> rfl
theorem Ex.in_heap {o : Obj} {a : Addr} (M : L2.Mod K mg base) (kb : ∀ b o, base.get? b = some o → s.heap.get? b = some o) (h : K.lookup a = some o) : s.heap.get? a = some o := kb _ _ (M.kin _ _ h)
/-- __init__(self, f): super().__init__(f); self.f = f -/
theorem init1 {f : Str} {pa pb p0 p1 p2 p3 p4 pn q1 q2 q3 q4 : Pos} {x t0 : Addr} {v : Value} {ar : Args}
    (T : ExK prog K mg C fI (iA [arg1 "self" pa, arg1 f pb]) [sup1 p0 p1 p2 p3 p4 [.Name f pn], st1 f q1 q2 q3 q4] (iS [("self", .local), (f, .local), ("__class__", .free), ("super", .globalImplicit)]))
    (hf : (f == ("self" : Str)) = false ∧ ((("self" : Str) == f) = false) ∧ (("__class__" : Str) == f) = false ∧ (("super" : Str) == f) = false ∧ (f == ("__debug__" : Str)) = false) (hno : findIn K (.ref C) f = some none)
    (SA : SupAt (iS [("self", .local), (f, .local), ("__class__", .free), ("super", .globalImplicit)]) fI p0 p1 p2 p3 p4 [.Name f pn]) (SW : ∀ (qual : Str) (L cda cc : Addr), swapsWith (.Name f q3) (some (.Attribute (.Name "self" q1) f q2)) q4.line (ksEnv qual (iS [("self", .local), (f, .local), ("__class__", .free), ("super", .globalImplicit)]) L fI (.ref cda) cc) = pure false)
    (M : L2.Mod K mg base) (kb : ∀ b o, base.get? b = some o → s.heap.get? b = some o) (hlim : s.heap.NoLimit) (hx : s.heap.get? x = some (PX.excO C t0)) (hnx : base.get? x = none) (hroom : A.depth < recursionLimit)
    (hb : ∀ fd : FuncData, (∃ qual kV doc pm an cd ct cc, fd = ksFn "__init__" qual (iA [arg1 "self" pa, arg1 f pb]) [sup1 p0 p1 p2 p3 p4 [.Name f pn], st1 f q1 q2 q3 q4] (iS [("self", .local), (f, .local), ("__class__", .free), ("super", .globalImplicit)]) .none kV doc pm an cd ct cc) → BindsTo s fd ar [("self", .ref x), (f, v)])
    (hq : ∀ h' tk dx t1, InitEnd s.heap h' x C dx t1 (fun y => if y = f then some v else none) → R (.ok (.ret .none)) { s with heap := h', toks := tk }) :
    codeAny (model prog w) A (.call (.ref fI) ar) R s := by
  obtain ⟨oc, od, osl, qual, kV, doc, pm, an, cda, ct, cc, ccl, cdd, vs, ccs, file, tf, cl, cld, csl, ho, hcd, hcda, hvs, hfile, hcell⟩ := T.fn
  obtain ⟨nm, q, N, bs, bm, sn, sub, ab, col, dd, k0, k1, k2, k3, k5, hC, hbm⟩ := T.cls
  have X : K.In s.heap := M.kin.keeps kb
  have lkf : List.lookup f [(("self" : Str), NameKind.local), (f, .local), ("__class__", .free), ("super", .globalImplicit)] = some .local := by
    simp [List.lookup, hf.1]
  have lkc : List.lookup ("__class__" : Str) [(("self" : Str), NameKind.local), (f, .local), ("__class__", .free), ("super", .globalImplicit)] = some .free := by
    have e : (("__class__" : Str) == ("self" : Str)) = false := by decide +kernel
    simp only [List.lookup, hf.2.2.1, e]
    rfl
  have lks : List.lookup ("super" : Str) [(("self" : Str), NameKind.local), (f, .local), ("__class__", .free), ("super", .globalImplicit)] = some .globalImplicit := by
    have e : (("super" : Str) == ("self" : Str)) = false := by decide +kernel
    have e2 : (("super" : Str) == ("__class__" : Str)) = false := by decide +kernel
    simp only [List.lookup, hf.2.2.2.1, e, e2]
    rfl
  refine ks_codeAny_call_defAt (fd := ksFn "__init__" qual _ _ _ .none kV doc pm an (.ref cda) ct cc) (binds := [("self", .ref x), (f, v)]) hroom (X _ _ ho) rfl hlim (codeRec_of X hcd) rfl (hb _ ⟨_, _, _, _, _, _, _, _, rfl⟩) ?_ ?_ (fun h1 hns kp => ?_)
  · intro y hy
    simp at hy
    rcases hy with rfl | rfl | rfl | rfl <;> simp
  · intro y hy
    simp at hy
    rcases hy with rfl | rfl
    · rfl
    · exact lkf
  have kb1 : ∀ b o, base.get? b = some o → h1.get? b = some o := fun b o e => kp b o (kb b o e)
  have X1 : K.In h1 := M.kin.keeps kb1
  have hx1 := kp _ _ hx
  have neL : s.heap.objs.size ≠ x := Nat.ne_of_gt (Heap.lt_size hx)
  have mself : (fun y => List.lookup y [(("self" : Str), Value.ref x), (f, v)].reverse) ("self" : Str) = some (.ref x) := by
    show List.lookup ("self" : Str) [(f, v), (("self" : Str), Value.ref x)] = some (.ref x)
    simp only [List.lookup, hf.2.1]
    rfl
  have mf : (fun y => List.lookup y [(("self" : Str), Value.ref x), (f, v)].reverse) f = some v := by
    show List.lookup f [(f, v), (("self" : Str), Value.ref x)] = some v
    simp [List.lookup]
  refine ks_wpAt_execs_cons ?_
  obtain ⟨pl, he⟩ := SA.ev qual s.heap.objs.size cda cc
  refine sup_run (pl := pl) (s := { s with heap := h1, toks := s.toks + _ }) (t0 := t0) (ar := arg1 "self" pa) (us := [v]) (qual := qual) (cda := cda) (cc := cc) M kb1 hx1 lks lkc rfl rfl (X1 _ _ ho) rfl rfl (X1 _ _ hcda) rfl hvs hfile ⟨_, X1 _ _ hcell, rfl⟩ T hns mself (by rw [sizeLine_eq]; show 1 ≤ _; decide) ?_ rfl ?_ he (SA.sw qual s.heap.objs.size cda cc) ?_
  · intro s1 Q1 k hQ
    have hns1 := hns.keeps k
    exact Calls.spliced_cons (ld_loc rfl lkf hns1 mf (Calls.spliced_nil hQ) hf.2.2.2.2)
  · intro f1 s1 Q1 h
    exact evalArgs_plain h
  · intro h2 t1 tk k2' hx2
    have kb2 : ∀ b o, base.get? b = some o → h2.get? b = some o := fun b o e => k2' b o (fun z => by rw [z, hnx] at e; cases e) (kb1 b o e)
    have X2 : K.In h2 := M.kin.keeps kb2
    have hns2 := ns_keep hns neL k2'
    refine wpAt_of_wpAny ?_
    refine wpAny_execs_cons (plainObj_wpAny_Assign_Attribute ?_ (SW qual s.heap.objs.size cda cc))
    refine ld_loc rfl lkf hns2 mf (ld_loc rfl rfl hns2 mself ?_ (by decide)) hf.2.2.2.2
    refine set_plain X2 (ox := PX.excO C t1) (od := none) ⟨hx2, rfl, rfl, trivial⟩ T.sa ?_
    refine PX.exc_osa X2 hx2 (clsIn_of hC) (show PX.refsVE (.ref C :: bm) = true from hbm) rfl hno (fun h3 tk3 dx k3' dn dne hx3 hn3 => ?_)
    show wpAny _ _ (execs _ _) _ _ _
    refine wpAny_execs_nil (hq h3 tk3 dx t1 ⟨fun b o hb e => k3' b o hb (k2' b o hb (kp b o e)), hx3, ?_, dne, hn3⟩)
    have z1 : s.heap.objs.size < h2.objs.size := hns2.lt
    exact Nat.le_of_lt (Nat.lt_of_lt_of_le z1 dn)
end
end AzX

namespace AzX
open PySem PySem.W PySem.Calls PyProof.Rows
section
variable {prog : Program} {w : World} {A : Around} {E : Value → Shared → Prop} {R : Result → Shared → Prop} {s : Shared} {K : Frag} {mg : Str → Option Value} {base : Heap} {C fI : Addr}
/-- __init__(self, line, word): super().__init__(line, word); self.line = line; self.word = word -/
theorem init_line_word {pa pb pc p0 p1 p2 p3 p4 pn pq q1 q2 q3 q4 r1 r2 r3 r4 : Pos} {x t0 : Addr} {v u : Value} {ar : Args}
    (T : ExK prog K mg C fI (iA [arg1 "self" pa, arg1 "line" pb, arg1 "word" pc]) [sup1 p0 p1 p2 p3 p4 [.Name "line" pn, .Name "word" pq], st1 "line" q1 q2 q3 q4, st1 "word" r1 r2 r3 r4] (iS [(("self" : Str), NameKind.local), (("line" : Str), .local), (("word" : Str), .local), (("__class__" : Str), .free), (("super" : Str), .globalImplicit)]))
    (hno : findIn K (.ref C) "line" = some none) (hno2 : findIn K (.ref C) "word" = some none)
    (SA : SupAt (iS [(("self" : Str), NameKind.local), (("line" : Str), .local), (("word" : Str), .local), (("__class__" : Str), .free), (("super" : Str), .globalImplicit)]) fI p0 p1 p2 p3 p4 [.Name "line" pn, .Name "word" pq])
    (M : L2.Mod K mg base) (kb : ∀ b o, base.get? b = some o → s.heap.get? b = some o) (hlim : s.heap.NoLimit) (hx : s.heap.get? x = some (PX.excO C t0)) (hnx : base.get? x = none) (hroom : A.depth < recursionLimit)
    (hb : ∀ fd : FuncData, (∃ qual kV doc pm an cd ct cc, fd = ksFn "__init__" qual (iA [arg1 "self" pa, arg1 "line" pb, arg1 "word" pc]) [sup1 p0 p1 p2 p3 p4 [.Name "line" pn, .Name "word" pq], st1 "line" q1 q2 q3 q4, st1 "word" r1 r2 r3 r4] (iS [(("self" : Str), NameKind.local), (("line" : Str), .local), (("word" : Str), .local), (("__class__" : Str), .free), (("super" : Str), .globalImplicit)]) .none kV doc pm an cd ct cc) → BindsTo s fd ar [("self", .ref x), ("line", v), ("word", u)])
    (hq : ∀ h' tk dx t1, InitEnd s.heap h' x C dx t1 (fun y => if y = ("word" : Str) then some u else if y = ("line" : Str) then some v else none) → R (.ok (.ret .none)) { s with heap := h', toks := tk }) :
    codeAny (model prog w) A (.call (.ref fI) ar) R s := by
  obtain ⟨oc, od, osl, qual, kV, doc, pm, an, cda, ct, cc, ccl, cdd, vs, ccs, file, tf, cl, cld, csl, ho, hcd, hcda, hvs, hfile, hcell⟩ := T.fn
  obtain ⟨nm, q, N, bs, bm, sn, sub, ab, col, dd, k0, k1, k2, k3, k5, hC, hbm⟩ := T.cls
  have X : K.In s.heap := M.kin.keeps kb
  refine ks_codeAny_call_defAt (fd := ksFn "__init__" qual _ _ _ .none kV doc pm an (.ref cda) ct cc) (binds := [("self", .ref x), ("line", v), ("word", u)]) hroom (X _ _ ho) rfl hlim (codeRec_of X hcd) rfl (hb _ ⟨_, _, _, _, _, _, _, _, rfl⟩) ?_ ?_ (fun h1 hns kp => ?_)
  · show ∀ y ∈ [(("self" : Str), NameKind.local), (("line" : Str), .local), (("word" : Str), .local), (("__class__" : Str), .free), (("super" : Str), .globalImplicit)], y.2 ≠ .cell
    decide
  · intro y hy
    simp at hy
    rcases hy with rfl | rfl | rfl <;> rfl
  have kb1 : ∀ b o, base.get? b = some o → h1.get? b = some o := fun b o e => kp b o (kb b o e)
  have X1 : K.In h1 := M.kin.keeps kb1
  have hx1 := kp _ _ hx
  have neL : s.heap.objs.size ≠ x := Nat.ne_of_gt (Heap.lt_size hx)
  have mself : (fun y => List.lookup y [(("self" : Str), Value.ref x), (("line" : Str), v), (("word" : Str), u)].reverse) ("self" : Str) = some (.ref x) := rfl
  have mf : (fun y => List.lookup y [(("self" : Str), Value.ref x), (("line" : Str), v), (("word" : Str), u)].reverse) ("line" : Str) = some v := rfl
  have mg' : (fun y => List.lookup y [(("self" : Str), Value.ref x), (("line" : Str), v), (("word" : Str), u)].reverse) ("word" : Str) = some u := rfl
  refine ks_wpAt_execs_cons ?_
  obtain ⟨pl, he⟩ := SA.ev qual s.heap.objs.size cda cc
  refine sup_run (pl := pl) (s := { s with heap := h1, toks := s.toks + _ }) (t0 := t0) (ar := arg1 "self" pa) (us := [v, u]) (qual := qual) (cda := cda) (cc := cc) M kb1 hx1 rfl rfl rfl rfl (X1 _ _ ho) rfl rfl (X1 _ _ hcda) rfl hvs hfile ⟨_, X1 _ _ hcell, rfl⟩ T hns mself (by rw [sizeLine_eq]; show 2 ≤ _; decide) ?_ rfl ?_ he (SA.sw qual s.heap.objs.size cda cc) ?_
  · intro s1 Q1 k hQ
    have hns1 := hns.keeps k
    exact Calls.spliced_cons (ld_loc rfl rfl hns1 mf (Calls.spliced_cons (ld_loc rfl rfl hns1 mg' (Calls.spliced_nil hQ) (by decide))) (by decide))
  · intro f1 s1 Q1 h
    exact evalArgs_plain h
  · intro h2 t1 tk k2' hx2
    have kb2 : ∀ b o, base.get? b = some o → h2.get? b = some o := fun b o e => k2' b o (fun z => by rw [z, hnx] at e; cases e) (kb1 b o e)
    have X2 : K.In h2 := M.kin.keeps kb2
    have hns2 := ns_keep hns neL k2'
    refine wpAt_of_wpAny ?_
    refine wpAny_execs_cons (plainObj_wpAny_Assign_Attribute ?_)
    refine ld_loc rfl rfl hns2 mf (ld_loc rfl rfl hns2 mself ?_ (by decide)) (by decide)
    refine set_plain X2 (ox := PX.excO C t1) (od := none) ⟨hx2, rfl, rfl, trivial⟩ T.sa ?_
    refine PX.exc_osa X2 hx2 (clsIn_of hC) (show PX.refsVE (.ref C :: bm) = true from hbm) rfl hno (fun h3 tk3 dx k3' dn dne hx3 hn3 => ?_)
    show wpAny _ _ (execs _ _) _ _ _
    have z1 : s.heap.objs.size < h2.objs.size := hns2.lt
    have kb3 : ∀ b o, base.get? b = some o → h3.get? b = some o := fun b o e => k3' b o (fun z => by rw [z, hnx] at e; cases e) (kb2 b o e)
    have X3 : K.In h3 := M.kin.keeps kb3
    have hns3 := ns_keep hns2 neL k3'
    obtain ⟨oD, hoD⟩ : ∃ oD, h3.get? dx = some oD := by
      obtain ⟨o, _, _, e, _⟩ := hn3
      exact ⟨o, e⟩
    refine wpAny_execs_cons (plainObj_wpAny_Assign_Attribute ?_)
    refine ld_loc rfl rfl hns3 mg' (ld_loc rfl rfl hns3 mself ?_ (by decide)) (by decide)
    refine set_plain X3 (od := some oD) ⟨hx3, rfl, rfl, hoD⟩ T.sa ?_
    refine PX.osa_old X3 hx3 hn3 (Within.cons _ _ Within.nil) (by decide) (clsIn_of hC) (show PX.refsVE (.ref C :: bm) = true from hbm) rfl hno2 (fun h4 tk4 k4' hn4 => ?_)
    show wpAny _ _ (execs _ _) _ _ _
    refine wpAny_execs_nil (hq h4 tk4 dx t1 ⟨fun b o hb e => k4' b o ?_ (k3' b o hb (k2' b o hb (kp b o e))), k4' _ _ (Ne.symm dne) hx3, ?_, dne, hn4⟩)
    · intro z
      have a1 := Heap.lt_size e
      rw [z] at a1
      exact absurd (Nat.lt_of_lt_of_le (Nat.lt_trans a1 z1) dn) (Nat.lt_irrefl _)
    · exact Nat.le_of_lt (Nat.lt_of_lt_of_le z1 dn)
/-- __init__(self, what, most): super().__init__(what, most); self.what = what; self.most = most -/
theorem init_what_most {pa pb pc p0 p1 p2 p3 p4 pn pq q1 q2 q3 q4 r1 r2 r3 r4 : Pos} {x t0 : Addr} {v u : Value} {ar : Args}
    (T : ExK prog K mg C fI (iA [arg1 "self" pa, arg1 "what" pb, arg1 "most" pc]) [sup1 p0 p1 p2 p3 p4 [.Name "what" pn, .Name "most" pq], st1 "what" q1 q2 q3 q4, st1 "most" r1 r2 r3 r4] (iS [(("self" : Str), NameKind.local), (("what" : Str), .local), (("most" : Str), .local), (("__class__" : Str), .free), (("super" : Str), .globalImplicit)]))
    (hno : findIn K (.ref C) "what" = some none) (hno2 : findIn K (.ref C) "most" = some none)
    (SA : SupAt (iS [(("self" : Str), NameKind.local), (("what" : Str), .local), (("most" : Str), .local), (("__class__" : Str), .free), (("super" : Str), .globalImplicit)]) fI p0 p1 p2 p3 p4 [.Name "what" pn, .Name "most" pq])
    (M : L2.Mod K mg base) (kb : ∀ b o, base.get? b = some o → s.heap.get? b = some o) (hlim : s.heap.NoLimit) (hx : s.heap.get? x = some (PX.excO C t0)) (hnx : base.get? x = none) (hroom : A.depth < recursionLimit)
    (hb : ∀ fd : FuncData, (∃ qual kV doc pm an cd ct cc, fd = ksFn "__init__" qual (iA [arg1 "self" pa, arg1 "what" pb, arg1 "most" pc]) [sup1 p0 p1 p2 p3 p4 [.Name "what" pn, .Name "most" pq], st1 "what" q1 q2 q3 q4, st1 "most" r1 r2 r3 r4] (iS [(("self" : Str), NameKind.local), (("what" : Str), .local), (("most" : Str), .local), (("__class__" : Str), .free), (("super" : Str), .globalImplicit)]) .none kV doc pm an cd ct cc) → BindsTo s fd ar [("self", .ref x), ("what", v), ("most", u)])
    (hq : ∀ h' tk dx t1, InitEnd s.heap h' x C dx t1 (fun y => if y = ("most" : Str) then some u else if y = ("what" : Str) then some v else none) → R (.ok (.ret .none)) { s with heap := h', toks := tk }) :
    codeAny (model prog w) A (.call (.ref fI) ar) R s := by
  obtain ⟨oc, od, osl, qual, kV, doc, pm, an, cda, ct, cc, ccl, cdd, vs, ccs, file, tf, cl, cld, csl, ho, hcd, hcda, hvs, hfile, hcell⟩ := T.fn
  obtain ⟨nm, q, N, bs, bm, sn, sub, ab, col, dd, k0, k1, k2, k3, k5, hC, hbm⟩ := T.cls
  have X : K.In s.heap := M.kin.keeps kb
  refine ks_codeAny_call_defAt (fd := ksFn "__init__" qual _ _ _ .none kV doc pm an (.ref cda) ct cc) (binds := [("self", .ref x), ("what", v), ("most", u)]) hroom (X _ _ ho) rfl hlim (codeRec_of X hcd) rfl (hb _ ⟨_, _, _, _, _, _, _, _, rfl⟩) ?_ ?_ (fun h1 hns kp => ?_)
  · show ∀ y ∈ [(("self" : Str), NameKind.local), (("what" : Str), .local), (("most" : Str), .local), (("__class__" : Str), .free), (("super" : Str), .globalImplicit)], y.2 ≠ .cell
    decide
  · intro y hy
    simp at hy
    rcases hy with rfl | rfl | rfl <;> rfl
  have kb1 : ∀ b o, base.get? b = some o → h1.get? b = some o := fun b o e => kp b o (kb b o e)
  have X1 : K.In h1 := M.kin.keeps kb1
  have hx1 := kp _ _ hx
  have neL : s.heap.objs.size ≠ x := Nat.ne_of_gt (Heap.lt_size hx)
  have mself : (fun y => List.lookup y [(("self" : Str), Value.ref x), (("what" : Str), v), (("most" : Str), u)].reverse) ("self" : Str) = some (.ref x) := rfl
  have mf : (fun y => List.lookup y [(("self" : Str), Value.ref x), (("what" : Str), v), (("most" : Str), u)].reverse) ("what" : Str) = some v := rfl
  have mg' : (fun y => List.lookup y [(("self" : Str), Value.ref x), (("what" : Str), v), (("most" : Str), u)].reverse) ("most" : Str) = some u := rfl
  refine ks_wpAt_execs_cons ?_
  obtain ⟨pl, he⟩ := SA.ev qual s.heap.objs.size cda cc
  refine sup_run (pl := pl) (s := { s with heap := h1, toks := s.toks + _ }) (t0 := t0) (ar := arg1 "self" pa) (us := [v, u]) (qual := qual) (cda := cda) (cc := cc) M kb1 hx1 rfl rfl rfl rfl (X1 _ _ ho) rfl rfl (X1 _ _ hcda) rfl hvs hfile ⟨_, X1 _ _ hcell, rfl⟩ T hns mself (by rw [sizeLine_eq]; show 2 ≤ _; decide) ?_ rfl ?_ he (SA.sw qual s.heap.objs.size cda cc) ?_
  · intro s1 Q1 k hQ
    have hns1 := hns.keeps k
    exact Calls.spliced_cons (ld_loc rfl rfl hns1 mf (Calls.spliced_cons (ld_loc rfl rfl hns1 mg' (Calls.spliced_nil hQ) (by decide))) (by decide))
  · intro f1 s1 Q1 h
    exact evalArgs_plain h
  · intro h2 t1 tk k2' hx2
    have kb2 : ∀ b o, base.get? b = some o → h2.get? b = some o := fun b o e => k2' b o (fun z => by rw [z, hnx] at e; cases e) (kb1 b o e)
    have X2 : K.In h2 := M.kin.keeps kb2
    have hns2 := ns_keep hns neL k2'
    refine wpAt_of_wpAny ?_
    refine wpAny_execs_cons (plainObj_wpAny_Assign_Attribute ?_)
    refine ld_loc rfl rfl hns2 mf (ld_loc rfl rfl hns2 mself ?_ (by decide)) (by decide)
    refine set_plain X2 (ox := PX.excO C t1) (od := none) ⟨hx2, rfl, rfl, trivial⟩ T.sa ?_
    refine PX.exc_osa X2 hx2 (clsIn_of hC) (show PX.refsVE (.ref C :: bm) = true from hbm) rfl hno (fun h3 tk3 dx k3' dn dne hx3 hn3 => ?_)
    show wpAny _ _ (execs _ _) _ _ _
    have z1 : s.heap.objs.size < h2.objs.size := hns2.lt
    have kb3 : ∀ b o, base.get? b = some o → h3.get? b = some o := fun b o e => k3' b o (fun z => by rw [z, hnx] at e; cases e) (kb2 b o e)
    have X3 : K.In h3 := M.kin.keeps kb3
    have hns3 := ns_keep hns2 neL k3'
    obtain ⟨oD, hoD⟩ : ∃ oD, h3.get? dx = some oD := by
      obtain ⟨o, _, _, e, _⟩ := hn3
      exact ⟨o, e⟩
    refine wpAny_execs_cons (plainObj_wpAny_Assign_Attribute ?_)
    refine ld_loc rfl rfl hns3 mg' (ld_loc rfl rfl hns3 mself ?_ (by decide)) (by decide)
    refine set_plain X3 (od := some oD) ⟨hx3, rfl, rfl, hoD⟩ T.sa ?_
    refine PX.osa_old X3 hx3 hn3 (Within.cons _ _ Within.nil) (by decide) (clsIn_of hC) (show PX.refsVE (.ref C :: bm) = true from hbm) rfl hno2 (fun h4 tk4 k4' hn4 => ?_)
    show wpAny _ _ (execs _ _) _ _ _
    refine wpAny_execs_nil (hq h4 tk4 dx t1 ⟨fun b o hb e => k4' b o ?_ (k3' b o hb (k2' b o hb (kp b o e))), k4' _ _ (Ne.symm dne) hx3, ?_, dne, hn4⟩)
    · intro z
      have a1 := Heap.lt_size e
      rw [z] at a1
      exact absurd (Nat.lt_of_lt_of_le (Nat.lt_trans a1 z1) dn) (Nat.lt_irrefl _)
    · exact Nat.le_of_lt (Nat.lt_of_lt_of_le z1 dn)
end
end AzX

namespace AzX
open PySem PySem.W PySem.Calls PyProof.Rows PySem.PX
section
variable {prog : Program} {w : World} {M : Model} {A : Around} {E : Value → Shared → Prop} {R : Result → Shared → Prop} {h : Heap} {g : Array GenState} {d : Drawn} {t : Nat} {os : OsState}
variable {nm q : Str} {C N : Addr} {bs bm bmB : List Value} {hdct : Bool} {sn : List Str} {sub : List Value} {ab : Bool} {col : Option Bool} {dd : Option Addr} {k0 k1 k2 k3 k5 : Option Value} {B newId initId : String} {f : Str} {v : Value} {kw : List (Str × Value)}
theorem check_new_kw (F : ExcBaseFacts B newId initId bmB) (hT : ∀ X : String, bm.contains (.type X) = bmB.contains (.type X)) {rest : List Value} {Q : Unit → Shared → Prop}
    (hC : h.get? C = some (excClassObj nm q C N bs bm hdct sn sub ab col dd k0 k1 k2 k3 k5 newId)) (hq : Q () ⟨h, g, d, t, os⟩) : wpAny M A (checkBuiltinCall newId ⟨.ref C :: rest, kw⟩) Q E ⟨h, g, d, t, os⟩ := by
  have hcont : (Value.ref C :: bm).contains (.type B) = true := by rw [List.contains_cons, hT, F.hasB, Bool.or_true]
  have hstar := F.noStar
  simp only [checkBuiltinCall, F.newKind, F.newSplit, F.newRow]
  repeat (first | refine wpAny_loadPart_at hC ?_ | (refine wpAny_isSubtype_exc hC ?_; rw [hcont]) | refine wpAny_staticBase_exc hC ?_ | refine wpAny_madeBy_exc hC ?_ | simp only [bne_self_eq_false, Bool.false_eq_true, if_false] | wp_step)
  exact hq
theorem new_kw (F : ExcBaseFacts B newId initId bmB) (hT : ∀ X : String, bm.contains (.type X) = bmB.contains (.type X)) {rest : List Value}
    (hC : h.get? C = some (excClassObj nm q C N bs bm hdct sn sub ab col dd k0 k1 k2 k3 k5 newId))
    (hq : R (.ok (.ret (.ref (h.objs.size + 1)))) ⟨(h.push { cls := .type "tuple", data := .seq rest.toArray }).push
      { cls := .ref C, data := .fields #[.ref h.objs.size, .none, .none, .none, .bool false, .none] }, g, d, t, os⟩) (hrest : rest.length ≤ sizeLine) :
    codeAny (model prog w) A (.builtin newId ⟨.ref C :: rest, kw⟩) R ⟨h, g, d, t, os⟩ := by
  have hends := F.ends
  have hcB : (Value.ref C :: bm).contains (.type B) = true := by rw [List.contains_cons, hT, F.hasB, Bool.or_true]
  have hcA : (Value.ref C :: bm).contains (.type "AttributeError") = false := by rw [List.contains_cons, hT, F.noAttr]; rfl
  have hcN : (Value.ref C :: bm).contains (.type "NameError") = false := by rw [List.contains_cons, hT, F.noName]; rfl
  refine codeAny_builtinAt F.entry ?_
  unfold Builtin.«BaseException.__new__»
  refine _root_.PySem.wpAt_bind ?_
  show _root_.PySem.wpAt _ _ _ (stack >>= _) _ _ _
  refine _root_.PySem.wpAt_bind (_root_.PySem.wpAt_stack fun p below => _root_.PySem.wpAt_of_wpAny ?_)
  wp_walk
  refine _root_.PySem.wpAt_of_wpAny ?_
  rw [F.owner]
  repeat (first | with_reducible refine wpAny_madeHere_exc F.canon hC ?_ | with_reducible refine wpAny_loadPart_at hC ?_ | (with_reducible refine wpAny_isSubtype_exc hC ?_; first | rw [hcB] | rw [hcA] | rw [hcN]) | wp_step)
  show R _ _
  rw [Heap.size_push]
  exact hq
theorem type_call_kw (F : ExcBaseFacts B newId initId bmB) (hT : ∀ X : String, bm.contains (.type X) = bmB.contains (.type X)) {rest : List Value} {fI : Addr} {Q : Fin → Shared → Prop}
    (hC : h.get? C = some (excClassObj nm q C N bs bm hdct sn sub ab col dd k0 k1 k2 k3 k5 newId))
    (hi : W.Looks (model prog w) h (typeLookup (.ref C) "__init__") (some (.ref fI))) (hb : ∀ self, W.Looks (model prog w) h (bindSpecial (.ref fI) self) (.ref fI, [self])) (hrest : rest.length ≤ sizeLine)
    (hq : codeAny (model prog w) A (.call (.ref fI) ⟨.ref (h.objs.size + 1) :: rest, kw⟩)
      (fun r s' => match r with | .ok (.ret v) => v = .none ∧ Q (.done (.ret (.ref (h.objs.size + 1)))) s' | .ok _ => False | .error e => E e s')
      ⟨(h.push (W.kdv_tup rest)).push (excO C h.objs.size), g, d, t, os⟩) :
    wpAny (model prog w) A (Builtin.«type.__call__» ⟨.ref C :: rest, kw⟩) Q E ⟨h, g, d, t, os⟩ := by
  repeat (first | with_reducible refine wpAny_loadPart_at hC ?_ | with_reducible refine wpAny_madeBy_exc hC ?_ | wp_step)
  refine codeAny_call_builtin_code (Code.quiet_builtin _ F.quiet) (check_new_kw F hT hC ?_)
  refine new_kw F hT hC ?_ hrest
  show wpAny _ _ _ _ _ _
  have k : ∀ b o, h.get? b = some o → ((h.push (W.kdv_tup rest)).push (excO C h.objs.size)).get? b = some o := fun b o e => Heap.get?_push_of_some _ (Heap.get?_push_of_some _ e)
  have hC₁ := k _ _ hC
  have hget : ((h.push (W.kdv_tup rest)).push (excO C h.objs.size)).get? (h.objs.size + 1) = some (excO C h.objs.size) := by heap_get
  have hcC : (Value.ref C :: bm).contains (.ref C) = true := by simp
  have i1 := hi.keeps k
  have b1 := (hb (.ref (h.objs.size + 1))).keeps k
  unfold isInstance
  repeat (first | with_reducible refine wpAny_loadPart_at hget ?_ | (with_reducible refine wpAny_isSubtype_exc hC₁ ?_; rw [hcC]) | wp_step)
  show wpAny _ _ (typeLookup (.ref C) _) _ _ _
  refine i1.at ?_
  refine wpAny_holding (wpAny_bind (b1.at ?_))
  refine wpAny_bind (wpAny_call (codeAny_mono hq fun r s' z => ?_))
  rcases r with e | (v | _ | _ | _) <;> first | exact z | exact z.elim | skip
  obtain ⟨rfl, z⟩ := z
  first
    | exact wpAny_pure (wpAny_pure z)
    | (wp_walk; exact z)
theorem call_kw (F : ExcBaseFacts B newId initId bmB) (hT : ∀ X : String, bm.contains (.type X) = bmB.contains (.type X)) {rest : List Value} {fI : Addr}
    (hC : h.get? C = some (excClassObj nm q C N bs bm hdct sn sub ab col dd k0 k1 k2 k3 k5 newId))
    (hi : W.Looks (model prog w) h (typeLookup (.ref C) "__init__") (some (.ref fI))) (hb : ∀ self, W.Looks (model prog w) h (bindSpecial (.ref fI) self) (.ref fI, [self])) (hrest : rest.length ≤ sizeLine)
    (hq : codeAny (model prog w) (A.under (.builtin "type.__call__" ⟨.ref C :: rest, kw⟩)) (.call (.ref fI) ⟨.ref (h.objs.size + 1) :: rest, kw⟩) (W.InitBack (h.objs.size + 1) R)
      ⟨(h.push (W.kdv_tup rest)).push (excO C h.objs.size), g, d, t, os⟩) :
    codeAny (model prog w) A (.call (.ref C) ⟨rest, kw⟩) R ⟨h, g, d, t, os⟩ := by
  have f1 := tc_lookup
  have f2 := tc_bind (.ref C)
  have hTy : (⟨h, g, d, t, os⟩ : Shared).TypeIs (.ref C) "type" := ⟨_, hC, rfl⟩
  refine codeAny_of_tree ?_
  show wpAny _ _ (callAny (.ref C) _) _ _ _
  repeat (any_goals (first | assumption | with_reducible refine wpAny_loadPart_at hC ?_ | wp_step))
  refine ⟨rfl, ?_⟩
  refine codeAny_call_builtin_at (Code.quiet_builtin _ (by decide +kernel)) entry_typeCall (wpAny_check_type_call_sub hC (type_call_kw F hT hC hi hb hrest ?_))
  refine codeAny_mono hq fun r s' z => ?_
  rcases r with e | (v | _ | _ | _) <;> exact z
end
end AzX

namespace AzX
open PySem PySem.W PySem.Calls PyProof.Rows
/-- a made exception -/
structure OwnMade (h h' : Heap) (e C d : Addr) (m : Str → Option Value) : Prop where
  keep : ∀ b o, h.get? b = some o → h'.get? b = some o
  new : h.objs.size ≤ e
  obj : ∃ t1, h'.get? e = some { cls := .ref C, dict := some d, data := .fields #[.ref t1, .none, .none, .none, .bool false, .none] }
  dbig : h.objs.size ≤ d
  dne : d ≠ e
  ns : h'.Ns1 d m
/-- C(vs), by place: what comes of it (m: its fields) -/
def Makes (P : Program) (w : World) (K : Frag) (mg : Str → Option Value) (base : Heap) (C : Addr) (ar : Args) (m : Str → Option Value) : Prop :=
  ∀ (A : Around) (s : Shared) (R : Result → Shared → Prop), L2.Mod K mg base → (∀ b o, base.get? b = some o → s.heap.get? b = some o) → base.objs.size ≤ s.heap.objs.size → s.heap.NoLimit → A.depth + 1 < recursionLimit →
    (∀ h' tk e d, OwnMade s.heap h' e C d m → R (.ok (.ret (.ref e))) { s with heap := h', toks := tk }) → codeAny (model P w) A (.call (.ref C) ar) R s
section
variable {prog : Program} {w : World} {K : Frag} {mg : Str → Option Value} {base : Heap} {C fI : Addr} {params : Arguments} {body : List Stmt} {scope : Scope}
/-- what __init__ must do with the new object -/
def Inits (P : Program) (w : World) (K : Frag) (mg : Str → Option Value) (base : Heap) (C fI : Addr) (us : List Value) (kw : List (Str × Value)) (m : Str → Option Value) : Prop :=
  ∀ (A : Around) (s : Shared) (R : Result → Shared → Prop) (x t0 : Addr), L2.Mod K mg base → (∀ b o, base.get? b = some o → s.heap.get? b = some o) → s.heap.NoLimit → s.heap.get? x = some (PX.excO C t0) → base.get? x = none → A.depth < recursionLimit →
    (∀ h' tk dx t1, InitEnd s.heap h' x C dx t1 m → R (.ok (.ret .none)) { s with heap := h', toks := tk }) → codeAny (model P w) A (.call (.ref fI) ⟨.ref x :: us, kw⟩) R s
theorem makes_of (T : ExK prog K mg C fI params body scope) {us : List Value} {kw : List (Str × Value)} {m : Str → Option Value} (hz : us.length ≤ sizeLine) (I : Inits prog w K mg base C fI us kw m) : Makes prog w K mg base C ⟨us, kw⟩ m := by
  intro A s R M kb hbs hlim hroom hq
  obtain ⟨nm, q, N, bs, bm, sn, sub, ab, col, dd, k0, k1, k2, k3, k5, hC, hbm⟩ := T.cls
  have X : K.In s.heap := M.kin.keeps kb
  obtain ⟨hp, g, dr, tk, os⟩ := s
  have k : ∀ b o, hp.get? b = some o → ((hp.push (kdv_tup us)).push (PX.excO C hp.objs.size)).get? b = some o := fun b o e => Heap.get?_push_of_some _ (Heap.get?_push_of_some _ e)
  have hget : ((hp.push (kdv_tup us)).push (PX.excO C hp.objs.size)).get? (hp.objs.size + 1) = some (PX.excO C hp.objs.size) := by heap_get
  have hnx : base.get? (hp.objs.size + 1) = none := Heap.get?_none_of_le (Nat.le_trans hbs (Nat.le_succ _))
  refine call_kw F.excBase_ValueError (fun X => PX.refsVE_contains X bm hbm) (X _ _ hC) (looks_findIn X T.iC) (fun self => bind_fn X self T.tC) hz ?_
  refine I _ ⟨(hp.push (kdv_tup us)).push (PX.excO C hp.objs.size), g, dr, tk, os⟩ _ _ _ M (fun b o e => k b o (kb b o e)) (hlim.keeps k) hget hnx ?_ fun h' tk' dx t1 IE => ?_
  · show A.depth + 1 < recursionLimit
    exact hroom
  · have old : ∀ b o, hp.get? b = some o → h'.get? b = some o := fun b o e => IE.keep b o (Nat.ne_of_lt (Nat.lt_succ_of_lt (Heap.lt_size e))) (k b o e)
    have z : hp.objs.size + 1 + 1 ≤ dx := by
      have dn := IE.dbig
      first
        | (simpa only [Heap.size_push] using dn)
        | exact dn
        | (have q := dn; rw [Heap.size_push, Heap.size_push] at q; exact q)
    exact ⟨rfl, hq h' tk' (hp.objs.size + 1) dx ⟨old, Nat.le_succ _, ⟨t1, IE.obj⟩, Nat.le_trans (Nat.le_trans (Nat.le_succ _) (Nat.le_succ _)) z, IE.dne, IE.ns⟩⟩
end
end AzX

namespace AzX
open PySem PySem.W PySem.Calls PyProof.Rows
/-- what an __init__ that stores nothing leaves -/
structure InitEnd0 (h h' : Heap) (x C t1 : Addr) : Prop where
  keep : ∀ b o, b ≠ x → h.get? b = some o → h'.get? b = some o
  obj : h'.get? x = some (PX.excO C t1)
structure OwnMade0 (h h' : Heap) (e C : Addr) : Prop where
  keep : ∀ b o, h.get? b = some o → h'.get? b = some o
  new : h.objs.size ≤ e
  obj : ∃ t1, h'.get? e = some (PX.excO C t1)
def Makes0 (P : Program) (w : World) (K : Frag) (mg : Str → Option Value) (base : Heap) (C : Addr) (ar : Args) : Prop :=
  ∀ (A : Around) (s : Shared) (R : Result → Shared → Prop), L2.Mod K mg base → (∀ b o, base.get? b = some o → s.heap.get? b = some o) → base.objs.size ≤ s.heap.objs.size → s.heap.NoLimit → A.depth + 1 < recursionLimit →
    (∀ h' tk e, OwnMade0 s.heap h' e C → R (.ok (.ret (.ref e))) { s with heap := h', toks := tk }) → codeAny (model P w) A (.call (.ref C) ar) R s
section
variable {prog : Program} {w : World} {A : Around} {E : Value → Shared → Prop} {R : Result → Shared → Prop} {s : Shared} {K : Frag} {mg : Str → Option Value} {base : Heap} {C fI : Addr}
theorem evalArgs_nilS {M : Model} {f : Value} {Q : Args → Shared → Prop} (h : wpAny M A (spliced []) (fun vs s' => Q ⟨vs, []⟩ s') E s) : wpAny M A (evalArgs f true [] []) Q E s := by
  unfold evalArgs
  show wpAny M A (spliced [] >>= _) Q E s
  refine wpAny_bind (wpAny_mono h (fun vs s' h' => ?_) fun _ _ x => x)
  refine wpAny_bind (wpAny_pure ?_)
  refine wpAny_holding ?_
  exact wpAny_bind (wpAny_pure (wpAny_bind (wpAny_pure (wpAny_pure h'))))
/-- __init__(self): super().__init__() -/
theorem init0 {pa p0 p1 p2 p3 p4 : Pos} {x t0 : Addr} {ar : Args}
    (T : ExK prog K mg C fI (iA [arg1 "self" pa]) [sup1 p0 p1 p2 p3 p4 []] (iS [("self", .local), ("__class__", .free), ("super", .globalImplicit)]))
    (SA : SupAt (iS [("self", .local), ("__class__", .free), ("super", .globalImplicit)]) fI p0 p1 p2 p3 p4 [])
    (M : L2.Mod K mg base) (kb : ∀ b o, base.get? b = some o → s.heap.get? b = some o) (hlim : s.heap.NoLimit) (hx : s.heap.get? x = some (PX.excO C t0)) (hroom : A.depth < recursionLimit)
    (hb : ∀ fd : FuncData, (∃ qual kV doc pm an cd ct cc, fd = ksFn "__init__" qual (iA [arg1 "self" pa]) [sup1 p0 p1 p2 p3 p4 []] (iS [("self", .local), ("__class__", .free), ("super", .globalImplicit)]) .none kV doc pm an cd ct cc) → BindsTo s fd ar [("self", .ref x)])
    (hq : ∀ h' tk t1, InitEnd0 s.heap h' x C t1 → R (.ok (.ret .none)) { s with heap := h', toks := tk }) :
    codeAny (model prog w) A (.call (.ref fI) ar) R s := by
  obtain ⟨oc, od, osl, qual, kV, doc, pm, an, cda, ct, cc, ccl, cdd, vs, ccs, file, tf, cl, cld, csl, ho, hcd, hcda, hvs, hfile, hcell⟩ := T.fn
  have X : K.In s.heap := M.kin.keeps kb
  have lkc : List.lookup ("__class__" : Str) [(("self" : Str), NameKind.local), ("__class__", .free), ("super", .globalImplicit)] = some .free := by decide +kernel
  have lks : List.lookup ("super" : Str) [(("self" : Str), NameKind.local), ("__class__", .free), ("super", .globalImplicit)] = some .globalImplicit := by decide +kernel
  refine ks_codeAny_call_defAt (fd := ksFn "__init__" qual _ _ _ .none kV doc pm an (.ref cda) ct cc) (binds := [("self", .ref x)]) hroom (X _ _ ho) rfl hlim (codeRec_of X hcd) rfl (hb _ ⟨_, _, _, _, _, _, _, _, rfl⟩) ?_ ?_ (fun h1 hns kp => ?_)
  · intro y hy
    simp at hy
    rcases hy with rfl | rfl | rfl <;> simp
  · intro y hy
    simp at hy
    rcases hy with rfl
    rfl
  have kb1 : ∀ b o, base.get? b = some o → h1.get? b = some o := fun b o e => kp b o (kb b o e)
  have X1 : K.In h1 := M.kin.keeps kb1
  have hx1 := kp _ _ hx
  have mself : (fun y => List.lookup y [(("self" : Str), Value.ref x)].reverse) ("self" : Str) = some (.ref x) := by
    show List.lookup ("self" : Str) [(("self" : Str), Value.ref x)] = some (.ref x)
    rfl
  refine ks_wpAt_execs_cons ?_
  obtain ⟨pl, he⟩ := SA.ev qual s.heap.objs.size cda cc
  refine sup_run (pl := pl) (s := { s with heap := h1, toks := s.toks + _ }) (t0 := t0) (ar := arg1 "self" pa) (us := []) (qual := qual) (cda := cda) (cc := cc) M kb1 hx1 lks lkc rfl rfl (X1 _ _ ho) rfl rfl (X1 _ _ hcda) rfl hvs hfile ⟨_, X1 _ _ hcell, rfl⟩ T hns mself (by rw [sizeLine_eq]; show 0 ≤ _; decide) ?_ rfl ?_ he (SA.sw qual s.heap.objs.size cda cc) ?_
  · intro s1 Q1 k hQ
    exact Calls.spliced_nil hQ
  · intro f1 s1 Q1 h
    exact evalArgs_nilS h
  · intro h2 t1 tk k2' hx2
    refine wpAt_of_wpAny ?_
    show wpAny _ _ (execs _ _) _ _ _
    exact wpAny_execs_nil (hq h2 tk t1 ⟨fun b o hb e => k2' b o hb (kp b o e), hx2⟩)
end
section
variable {prog : Program} {w : World} {K : Frag} {mg : Str → Option Value} {base : Heap} {C fI : Addr} {params : Arguments} {body : List Stmt} {scope : Scope}
def Inits0 (P : Program) (w : World) (K : Frag) (mg : Str → Option Value) (base : Heap) (C fI : Addr) (us : List Value) (kw : List (Str × Value)) : Prop :=
  ∀ (A : Around) (s : Shared) (R : Result → Shared → Prop) (x t0 : Addr), L2.Mod K mg base → (∀ b o, base.get? b = some o → s.heap.get? b = some o) → s.heap.NoLimit → s.heap.get? x = some (PX.excO C t0) → base.get? x = none → A.depth < recursionLimit →
    (∀ h' tk t1, InitEnd0 s.heap h' x C t1 → R (.ok (.ret .none)) { s with heap := h', toks := tk }) → codeAny (model P w) A (.call (.ref fI) ⟨.ref x :: us, kw⟩) R s
theorem makes_of0 (T : ExK prog K mg C fI params body scope) {us : List Value} {kw : List (Str × Value)} (hz : us.length ≤ sizeLine) (I : Inits0 prog w K mg base C fI us kw) : Makes0 prog w K mg base C ⟨us, kw⟩ := by
  intro A s R M kb hbs hlim hroom hq
  obtain ⟨nm, q, N, bs, bm, sn, sub, ab, col, dd, k0, k1, k2, k3, k5, hC, hbm⟩ := T.cls
  have X : K.In s.heap := M.kin.keeps kb
  obtain ⟨hp, g, dr, tk, os⟩ := s
  have k : ∀ b o, hp.get? b = some o → ((hp.push (kdv_tup us)).push (PX.excO C hp.objs.size)).get? b = some o := fun b o e => Heap.get?_push_of_some _ (Heap.get?_push_of_some _ e)
  have hget : ((hp.push (kdv_tup us)).push (PX.excO C hp.objs.size)).get? (hp.objs.size + 1) = some (PX.excO C hp.objs.size) := by heap_get
  have hnx : base.get? (hp.objs.size + 1) = none := Heap.get?_none_of_le (Nat.le_trans hbs (Nat.le_succ _))
  refine call_kw F.excBase_ValueError (fun X => PX.refsVE_contains X bm hbm) (X _ _ hC) (looks_findIn X T.iC) (fun self => bind_fn X self T.tC) hz ?_
  refine I _ ⟨(hp.push (kdv_tup us)).push (PX.excO C hp.objs.size), g, dr, tk, os⟩ _ _ _ M (fun b o e => k b o (kb b o e)) (hlim.keeps k) hget hnx ?_ fun h' tk' t1 IE => ?_
  · show A.depth + 1 < recursionLimit
    exact hroom
  · have old : ∀ b o, hp.get? b = some o → h'.get? b = some o := fun b o e => IE.keep b o (Nat.ne_of_lt (Nat.lt_succ_of_lt (Heap.lt_size e))) (k b o e)
    exact ⟨rfl, hq h' tk' (hp.objs.size + 1) ⟨old, Nat.le_succ _, t1, IE.obj⟩⟩
end
end AzX

/-! Own exceptions as values: made, their fields read, isinstance of them. -/
namespace Az
open PySem PySem.Spec PyProof.Rows L2 AzX
/-- at e: an exception of the class cls, its own dict d -/
def ExG (cls : Value) (d : Option Addr) (e : Addr) : HO := .ext fun h => ∃ (oe : Obj) (fv : Array Value), h.get? e = some oe ∧ oe.cls = cls ∧ oe.dict = d ∧ oe.data = .fields fv
abbrev ExO (C d e : Addr) : HO := ExG (.ref C) (some d) e
/-- .. that stores nothing -/
abbrev ExN (C e : Addr) : HO := ExG (.ref C) none e
theorem exG_ok {P : Program} {w : World} {H : Hp} {h : Heap} {cls : Value} {d : Option Addr} {e : Addr} {oe : Obj} {fv : Array Value} (he : h.get? e = some oe) (hc : oe.cls = cls) (hd : oe.dict = d) (hf : oe.data = .fields fv) : ObjOk P w H h e (ExG cls d e) :=
  ⟨⟨oe, fv, he, hc, hd, hf⟩, ⟨_, he⟩, fun _ _ ⟨oe, fv, a, b, c, d⟩ st => ⟨oe, fv, st _ a, b, c, d⟩⟩
theorem exG_at {P : Program} {w : World} {H : Hp} {h : Heap} {cls : Value} {d : Option Addr} {e : Addr} (x : HOk P w H h) (he : H e = some (ExG cls d e)) : ∃ (oe : Obj) (fv : Array Value), h.get? e = some oe ∧ oe.cls = cls ∧ oe.dict = d ∧ oe.data = .fields fv := (x e _ he).1
/-- the fields by their values -/
def mOf (fs : List Str) (us : List Value) : Str → Option Value := fun y => (fs.zip us).lookup y
/-- at a: an exception of the class at D -/
inductive IsX (H : Hp) (a D : Addr) : Prop
  | dict {d : Addr} {fs : List (Str × V)} (h : H a = some (ExO D d a)) (hd : H d = some (.xd fs)) : IsX H a D
  | bare (h : H a = some (ExN D a)) : IsX H a D
theorem IsX.mono {H H' : Hp} {a D : Addr} (x : IsX H a D) (s : Same H H') : IsX H' a D := by
  cases x with
  | dict h hd => exact .dict (s _ _ h) (s _ _ hd)
  | bare h => exact .bare (s _ _ h)
theorem IsX.new {H : Hp} {a D p : Addr} {o : HO} (hp : H p = none) (x : IsX H a D) : IsX (upd H p o) a D := x.mono (same_new (Same.refl H) hp)
theorem rel_zip : ∀ {fs : List Str} {xs : List V} {us : List Value}, Vals xs us → ∀ y, RelO ((fs.zip xs).lookup y) ((fs.zip us).lookup y)
  | [], _, _, _, _ => trivial
  | _ :: _, _, _, .nil, _ => trivial
  | f :: fs, x :: xs, u :: us, .cons r t, y => by
    show RelO (List.lookup y ((f, x) :: fs.zip xs)) (List.lookup y ((f, u) :: fs.zip us))
    by_cases e : (y == f) = true
    · simp only [List.lookup, e]
      exact r
    · simp only [List.lookup, Bool.not_eq_true _ ▸ e]
      exact rel_zip t y
/-- a new exception as a value -/
def kEx (C : Addr) (fvs : List (Str × V)) (H : Hp) (Q : VK) : Prop := ∀ e d, H e = none → H d = none → d ≠ e → Q (.ref e) (upd (upd H d (.xd fvs)) e (ExO C d e))
section
variable {X : Cx} {pins : List (Addr × Obj)} {σ : L2.St} {H : Hp} {s : Shared}
theorem run_mk {C : Addr} {fs : List Str} {xs : List V} {us : List Value} {ar : Args} {k : Nat} {Q : VK} (I : Inv X pins σ H s) (hr : Room k X.A) (mk : Makes X.prog X.w X.K X.mg X.base C ar (mOf fs us)) (r : Vals xs us) (h : kEx C (fs.zip xs) H Q) :
    wpAny (model X.prog X.w) X.A (call (.ref C) ar.pos ar.kw) (EP X pins σ Q) X.xe s := by
  have sz : X.base.objs.size ≤ s.heap.objs.size := Nat.le_trans I.ok.bsz I.sz
  have hlim := I.nolimit
  have kb := I.bk
  obtain ⟨hp, g, dr, tk, os⟩ := s
  refine wpAny_call (mk X.A _ _ I.mod kb sz hlim (by have := hr.dp; omega) fun h' tk' e d M => ?_)
  show EP X pins σ Q (.ref e) ⟨h', g, dr, tk', os⟩
  obtain ⟨t1, hoe⟩ := M.obj
  have hns := M.ns
  have nd : H d = none := I.hok.fresh M.dbig
  have ne : H e = none := I.hok.fresh M.new
  -- the dict is laid first, in the heap without e
  obtain ⟨G', g1, g2⟩ := restrict h' fun b => decide (b ≠ e)
  have gk : ∀ b, b ≠ e → G'.get? b = h'.get? b := fun b hb => g1 b (decide_eq_true hb)
  have ge : G'.get? e = none := g2 e (by simp)
  have old : ∀ b o, hp.get? b = some o → G'.get? b = some o := fun b o q => (gk b (Nat.ne_of_lt (Nat.lt_of_lt_of_le (Heap.lt_size q) M.new))).trans (M.keep b o q)
  have ob : ObjOk X.prog X.w (upd H d (.xd (fs.zip xs))) G' d (.xd (fs.zip xs)) := ⟨_, hns.at (fun o q => (gk d M.dne).trans q), fun f => rel_zip r f⟩
  have J : Inv X pins σ (upd H d (.xd (fs.zip xs))) ⟨G', g, dr, tk', os⟩ := I.laid (t' := tk') old M.dbig ob
  have k2 : ∀ b o, G'.get? b = some o → h'.get? b = some o := fun b o q => by
    by_cases hb : b = e
    · rw [hb, ge] at q; cases q
    · exact (gk b hb).symm.trans q
  have J2 := L2.Inv.laidN (o := ExO C d e) (t' := tk') J k2 ge (by rw [upd_ne (Ne.symm M.dne)]; exact ne) (exG_ok hoe rfl rfl rfl)
  exact ⟨.ref e, _, J2, rfl, h e d ne nd M.dne⟩
end
section
variable {X : Cx} {C : Addr} {fs : List Str} {k : Nat} {x : Str} {p pos : Pos} {e : Expr} {es : List Expr} {kws : List Keyword} {t tk : TA}
def rEx (C : Addr) (fs : List Str) : List V → Hp → VK → Prop := fun xs H Q => xs.length = fs.length ∧ kEx C (fs.zip xs) H Q
/-- C(e, ..), an exception as a value -/
theorem pe_ex (mk : ∀ us : List Value, us.length = fs.length → Makes X.prog X.w X.K X.mg X.base C ⟨us, []⟩ (mOf fs us)) (hr : Room k X.A) (hg : Gl X x) (hm : X.mg x = some (.ref C)) (hk : PySem.W.keepIn X.K (.ref C) = true) (ha : PA X (e :: es) t)
    (hdb : (x == ("__debug__" : Str)) = false := by decide) (he : starEach (e :: es) X.env = (false, eval e X.env) :: starEach es X.env := by rfl) (hpl : (backTo pos (starEach es X.env)).any (·.1) = false := by rfl) :
    PE X (.Call (.Name x p) (e :: es) [] pos) (tCB (rEx C fs) t) := by
  refine ⟨fun pins s σ H Q I h => ?_⟩
  refine wpAny_Call_Name_kw (ld_glob I hg hm ?_ hdb)
  refine PySem.W.callWith_K (h₀ := X.base) I.ok.mod.kin hk (thn (ha.run pos pins s σ H _ I h) fun us s1 ⟨vs, H1, I1, r1, hl, q1⟩ => ?_) he hpl
  exact ⟨I1.kIn, run_mk (ar := ⟨us, []⟩) I1 hr (mk us (by rw [← r1.length]; exact hl)) r1 q1⟩
/-- C(), nothing stored -/
def rEx0 (C : Addr) : List V → Hp → VK → Prop := fun _ H Q => ∀ e, H e = none → Q (.ref e) (upd H e (ExN C e))
theorem pe_ex0 (mk : Makes0 X.prog X.w X.K X.mg X.base C ⟨[], []⟩) (hr : Room k X.A) (hg : Gl X x) (hm : X.mg x = some (.ref C)) (hk : PySem.W.keepIn X.K (.ref C) = true)
    (hdb : (x == ("__debug__" : Str)) = false := by decide) : PE X (.Call (.Name x p) [] [] pos) (tCB (rEx0 C) tNil) := by
  refine ⟨fun pins s σ H Q I h => ?_⟩
  refine wpAny_Call_Name_kw (ld_glob I hg hm ?_ hdb)
  refine PySem.W.callWith_K0 I.kIn hk ?_
  have sz : X.base.objs.size ≤ s.heap.objs.size := Nat.le_trans I.ok.bsz I.sz
  have hlim := I.nolimit
  have kb := I.bk
  obtain ⟨hp, g, dr, tk, os⟩ := s
  refine wpAny_call (mk X.A _ _ I.mod kb sz hlim (by have := hr.dp; omega) fun h' tk' e M => ?_)
  show EP X pins σ Q (.ref e) ⟨h', g, dr, tk', os⟩
  obtain ⟨t1, hoe⟩ := M.obj
  have ne : H e = none := I.hok.fresh M.new
  exact ⟨.ref e, _, I.laid (t' := tk') M.keep M.new (exG_ok hoe rfl rfl rfl), rfl, h e ne⟩
/-- C(k = v, ..) -/
theorem pe_exK {ks : List Str} (mk : ∀ us : List Value, us.length = ks.length → Makes X.prog X.w X.K X.mg X.base C ⟨[], ks.zip us⟩ (mOf ks us)) (hr : Room k X.A) (hg : Gl X x) (hm : X.mg x = some (.ref C)) (hk : PySem.W.keepIn X.K (.ref C) = true) (hkw : PK X kws tk)
    (hall : (backToKw pos (keywordEach kws X.env)).all (·.1.isSome) = true := by rfl) (hks : (backToKw pos (keywordEach kws X.env)).filterMap (·.1) = ks := by rfl) (hdb : (x == ("__debug__" : Str)) = false := by decide)
    (hpl : ((backTo pos (starEach [] X.env)).any (·.1) || (backToKw pos (keywordEach kws X.env)).any (·.1.isNone)) = false := by rfl) :
    PE X (.Call (.Name x p) [] kws pos) (tCB (rEx C ks) tk) := by
  refine ⟨fun pins s σ H Q I h => ?_⟩
  refine wpAny_Call_Name_kw (ld_glob I hg hm ?_ hdb)
  refine PySem.W.callWith_KW0 (h₀ := X.base) I.ok.mod.kin hk hall ?_ hpl
  refine thn (hkw.run pos pins s σ H _ I h) fun ws s2 ⟨zs, H2, I2, rz, l1, q2⟩ => ⟨I2.kIn, ?_⟩
  rw [hks]
  exact run_mk (ar := ⟨[], ks.zip ws⟩) I2 hr (mk ws (by rw [← rz.length]; exact l1)) rz q2
/-- e.f of an exception -/
def tXat (K : PySem.W.Frag) (te : TE) (f : Str) : TE := fun σ H Q => te σ H fun x H1 => ∃ (a C d : Addr) (fs : List (Str × V)) (v : V), x = .ref a ∧ H1 a = some (ExO C d a) ∧ XfC K C ∧ PySem.W.findIn K (.ref C) f = some none ∧ H1 d = some (.xd fs) ∧ fs.lookup f = some v ∧ Q v H1
theorem pe_xat {f : Str} {te : TE} (he : PE X e te) (hb : attributeBase e f X.env (eval e X.env) = eval e X.env := by rfl) : PE X (.Attribute e f pos) (tXat X.K te f) := by
  refine ⟨fun pins s σ H Q I h => ?_⟩
  refine attr_of hb (thn (he.run pins s σ H _ I h) fun u s1 hh => ?_)
  obtain ⟨x, H1, I1, rx, a, C, d, fs, v, ex, ha, T, hno, hd, l, q⟩ := hh
  subst ex
  obtain rfl : u = Value.ref a := rx
  obtain ⟨oe, fv, hae, hcl, hdi, hda⟩ := exG_at I1.hok ha
  obtain ⟨mA, hns, hr⟩ := (show ObjOk X.prog X.w H1 s1.heap d (.xd fs) from I1.hok d _ hd)
  obtain ⟨od, ho, hl⟩ := lookIn_ns hns
  obtain ⟨u, hu, ru⟩ := RelO.some_of (v := v) (o := mA f) (by rw [← l]; exact hr f)
  have J : PySem.W.InstAt s1.heap a oe C (some od) := ⟨hae, hcl, by unfold PySem.W.notCls; rw [hda] <;> rfl, by rw [hdi]; exact ho⟩
  exact HandSPX.exc_get I1.kIn J T.ga T.gg T.exC (PySem.W.findObj_own T.hdC hno rfl (by rw [hl, hu])) (handed_of ru) ⟨v, H1, I1.tok _, ru, q⟩
end
end Az
namespace AzX
open PySem PySem.W PySem.Spec PySem.Calls PyProof.Rows
section
variable {prog : Program} {w : World} {A : Around} {E : Value → Shared → Prop} {s : Shared} {K : Frag} {x D : Addr} {ox : Obj} {od : Option Obj}
theorem kin_classX {Q : Option Value → Shared → Prop} (hga : findIn K (.ref D) "__getattribute__" = some (some (.builtin "BaseException.__getattribute__"))) (hgt : findIn K (.ref D) "__getattr__" = some none) (hsub : subIn K (.ref D) (.type "BaseException") = some true)
    (hdct : hasDictIn K D = true) (ha : findIn K (.ref D) "__class__" = some (some (.builtin "object.__class__")))
    (hn : specialIn K (.builtin "object.__class__") "__get__" = some (some (.builtin "getset_descriptor.__get__"))) (htk : takesIn K (.builtin "object.__class__") = some true) (hm : mroIn K D (.type "object") = some true)
    (X : K.In s.heap) (I : InstAt s.heap x ox D od) (h : Q (some (.ref D)) { s with toks := s.toks + 1 }) : wpAny (model prog w) A (getAttr? (.ref x) "__class__") Q E s := by
  have hf : findObj K D od "__class__" = some (.bind (.builtin "getset_descriptor.__get__") (.builtin "object.__class__")) := by
    cases od with
    | none => exact findObj_dataN (by obtain ⟨cd, hc, _⟩ := any_some hdct; rw [hc]; rfl) ha hn htk
    | some od => exact findObj_data (by obtain ⟨cd, hc, _⟩ := any_some hdct; rw [hc]; rfl) ha hn htk
  obtain ⟨hp, g, d, t, os⟩ := s
  have L0 := I.type (M := model prog w)
  have L1 := looks_findIn (M := model prog w) X hga
  have L2 := looks_findIn (M := model prog w) X hgt
  have L3 := looks_find (M := model prog w) X I hf
  have sub : Looks (model prog w) hp (isInstance (.ref x) (.type "BaseException")) true := L0.andThen (looks_subIn X hsub)
  have hx0 : (false && onTheHeap (Value.builtin "BaseException.__getattribute__")) = false := rfl
  have hx2 : (Value.builtin "BaseException.__getattribute__" == Value.builtin "object.__getattribute__") = false := by decide +kernel
  have hx1 : (onTheHeap (Value.ref D) && Value.builtin "BaseException.__getattribute__" == Value.builtin "object.__getattribute__") = false := by rw [hx2]; rfl
  unfold getAttr? getAttrBy? getAttrBy
  refine wpAny_bind (wpAny_mkText (wpAny_bind (wpAny_attempt (wpAny_holding (wpAny_bind (L0.at (wpAny_bind (L1.at ?_))))))))
  show wpAny _ _ (if (onTheHeap (Value.ref D) && Value.builtin "BaseException.__getattribute__" == Value.builtin "object.__getattribute__") = true then _ else _) _ _ _
  rw [hx1, if_neg Bool.false_ne_true]
  unfold getAttrByItsOwn hookBefore
  refine wpAny_bind ?_
  rw [if_pos (show onTheHeap (Value.ref D) = true from rfl)]
  refine L2.at ?_
  refine wpAny_bind (wpAny_attempt (wpAny_holding ?_))
  unfold callGetattribute
  rw [hx0, if_neg Bool.false_ne_true]
  unfold boundAndCalled
  rw [PySem.F.excAttr_ValueError.ga.bind (.ref x)]
  refine wpAny_bind (wpAny_pure ?_)
  show wpAny _ _ (call (.builtin "BaseException.__getattribute__") [.ref x, .str "__class__" t]) _ _ _
  refine wpAny_call (codeAny_call_builtin PySem.F.excAttr_ValueError.ga.plain PySem.F.entry_bexc_ga ?_)
  refine @check_slot (model prog w) _ _ ⟨hp, g, d, t + 1, os⟩ "BaseException.__getattribute__" "BaseException" "__getattribute__" (.ref x) [.str "__class__" t] [] _ (by decide +kernel) (by decide +kernel) sub (PySem.F.args_bexc_ga (.ref x) (.str "__class__" t)) ?_
  unfold Builtin.«object.__getattribute__»
  refine wpAny_bind (wpAny_of_eq (a := ((Value.ref x : Value), [Value.str "__class__" t])) (by first | rfl | (simp only [slotArgs]; rfl)) ?_)
  refine wpAny_bind (wpAny_pure (wpAny_bind (L0.at (wpAny_bind (L3.at ?_)))))
  show wpAny _ _ (holding [Value.builtin "object.__class__"] (call (.builtin "getset_descriptor.__get__") [.builtin "object.__class__", .ref x, .ref D]) >>= ret) _ _ _
  refine wpAny_bind (wpAny_holding (wpAny_call (class_get (s := ⟨hp, g, d, t + 1, os⟩) (ox := ox) (od := od) X I hm ?_)))
  refine wpAny_pure ?_
  show wpAny _ _ (handedOut (.ref D)) _ _ _
  rw [handedOut_of (v := .ref D) rfl]
  first
    | exact wpAny_pure (wpAny_pure h)
    | exact wpAny_pure h
    | exact wpAny_pure (wpAny_bind (wpAny_pure (wpAny_pure h)))
theorem kitx_excD (hga : findIn K (.ref D) "__getattribute__" = some (some (.builtin "BaseException.__getattribute__"))) (hgt : findIn K (.ref D) "__getattr__" = some none) (hsub : subIn K (.ref D) (.type "BaseException") = some true) (hdct : hasDictIn K D = true) (ha : findIn K (.ref D) "__class__" = some (some (.builtin "object.__class__")))
    (hn : specialIn K (.builtin "object.__class__") "__get__" = some (some (.builtin "getset_descriptor.__get__"))) (htk : takesIn K (.builtin "object.__class__") = some true) (hm : mroIn K D (.type "object") = some true) :
    KitX K (.ref x) (.ref D) (fun h => InstAt h x ox D od) where
  ty := fun _ _ _ I => I.type
  it := fun _ _ X _ => by
    obtain ⟨cdD, hcD, _⟩ := any_some hdct
    unfold clsIn at hcD
    split at hcD
    · rename_i c' d' cd' sl' ho
      intro A' Q' E' s' k q
      unfold isType loadHead
      exact wpAny_bind (wpAny_loadPart (k _ _ (X _ _ ho)) (wpAny_pure q))
    · cases hcD
  ne := fun h tp dd its n sl X htp => by
    obtain ⟨cdD, hcD, _⟩ := any_some hdct
    refine Bool.eq_false_iff.mpr fun q => ?_
    have e : D = tp := Value.ref.inj (beq_iff_eq.mp q)
    subst e
    unfold clsIn at hcD
    split at hcD
    · rename_i c' d' cd' sl' ho
      have z := (X _ _ ho).symm.trans htp
      cases z
    · cases hcD
  ca := fun X I k => kin_classX hga hgt hsub hdct ha hn htk hm X I k
end
end AzX
namespace Az
open PySem PySem.Spec PyProof.Rows L2 AzX
/-- isinstance(e, c) of an exception -/
def rIsX (K : PySem.W.Frag) : List V → Hp → VK → Prop := fun xs H Q => ∃ (a D : Addr) (c : V) (cv : Value) (b : Bool), xs = [.ref a, c] ∧ IsX H a D ∧ ExcC K D ∧ ClsV c cv ∧ PySem.W.kitOne K (.ref D) cv = some b ∧ Q (.bl b) H
def rIsXT (K : PySem.W.Frag) : List V → Hp → VK → Prop := fun xs H Q => ∃ (a D tp : Addr) (cs : List V) (us : List Value) (b : Bool), xs = [.ref a, .ref tp] ∧ IsX H a D ∧ ExcC K D ∧ H tp = some (.tup cs) ∧ Paired ClsV cs us ∧ PySem.W.kitAny K (.ref D) us = some b ∧ Q (.bl b) H
section
variable {X : Cx} {pins : List (Addr × Obj)} {σ : L2.St} {H : Hp} {s : Shared}
theorem inst_ex {a D : Addr} (I : Inv X pins σ H s) (x : IsX H a D) : ∃ ox od, PySem.W.InstAt s.heap a ox D od := by
  cases x with
  | @dict d fs ha hd =>
    obtain ⟨oe, fv, hae, hcl, hdi, hda⟩ := exG_at I.hok ha
    obtain ⟨mA, hns, hr⟩ := (show ObjOk X.prog X.w H s.heap d (.xd fs) from I.hok d _ hd)
    obtain ⟨od, ho, hl⟩ := lookIn_ns hns
    exact ⟨_, some od, hae, hcl, by unfold PySem.W.notCls; rw [hda] <;> rfl, by rw [hdi]; exact ho⟩
  | bare ha =>
    obtain ⟨oe, fv, hae, hcl, hdi, hda⟩ := exG_at I.hok ha
    exact ⟨_, none, hae, hcl, by unfold PySem.W.notCls; rw [hda] <;> rfl, by rw [hdi]; trivial⟩
theorem call_isX : CallR X (.builtin "isinstance") (rIsX X.K) := by
  intro pins s σ H xs us Q I r h
  obtain ⟨a, D, c, cv, b, rfl, ha, T, k, e, q⟩ := h
  obtain ⟨u1, u2, rfl, r1, r2⟩ := vals2 r
  have e2 := k.eq r2
  subst e2
  cases (show u1 = Value.ref a from r1)
  obtain ⟨ox, od, J⟩ := inst_ex I ha
  exact PySem.W.kia_one (kitx_excD T.hg T.hk T.hs T.hd T.ha T.hn T.ht T.hm) I.kIn J e (fun z => nomatch z) fun tk => ⟨.bl b, H, I.tok tk, rfl, q⟩
theorem call_isXT : CallR X (.builtin "isinstance") (rIsXT X.K) := by
  intro pins s σ H xs us Q I r h
  obtain ⟨a, D, tp, cs, ws, b, rfl, ha, T, hT, k, e, q⟩ := h
  obtain ⟨u1, u2, rfl, r1, r2⟩ := vals2 r
  cases (show u1 = Value.ref a from r1)
  cases (show u2 = Value.ref tp from r2)
  obtain ⟨ox, od, J⟩ := inst_ex I ha
  obtain ⟨_, its, rv, o, h1, h2, n, h3⟩ := (show ObjOk X.prog X.w H s.heap tp (.tup cs) from I.hok tp _ hT)
  have e3 := ClsV.all k rv
  subst e3
  obtain ⟨oc, od', dt, sl⟩ := o
  simp only at h2 h3
  subst h2 h3
  exact PySem.W.kia_tup (kitx_excD T.hg T.hk T.hs T.hd T.ha T.hn T.ht T.hm) I.kIn J h1 e (fun z => nomatch z) fun tk => ⟨.bl b, H, I.tok tk, rfl, q⟩
end
end Az

/-! raise C(e, ..) of an own error. -/
namespace Az
open PySem PySem.Spec PyProof.Rows L2 AzX
section
variable {X : Cx} {C : Addr} {fs : List Str} {k : Nat} {x : Str} {p pos pos2 : Pos} {e : Expr} {es : List Expr} {t : TA} {W : WX}
/-- C(e, ..), to be raised -/
def tMkEx (C : Addr) (fs : List Str) (t : TA) : L2.St → Hp → XK → Prop := fun σ H Q => t σ H fun vs H1 => vs.length = fs.length ∧ ∀ d, H1 d = none → Q (.ref C) (some d) (upd H1 d (.xd (fs.zip vs)))
theorem pmk_ex (mk : ∀ us : List Value, us.length = fs.length → Makes X.prog X.w X.K X.mg X.base C ⟨us, []⟩ (mOf fs us)) (rs : Raises X (.ref C)) (hr : Room k X.A) (hg : Gl X x) (hm : X.mg x = some (.ref C)) (hk : PySem.W.keepIn X.K (.ref C) = true) (ha : PA X (e :: es) t)
    (hdb : (x == ("__debug__" : Str)) = false := by decide) (he : starEach (e :: es) X.env = (false, eval e X.env) :: starEach es X.env := by rfl) (hpl : (backTo pos (starEach es X.env)).any (·.1) = false := by rfl) :
    PMk X (.Call (.Name x p) (e :: es) [] pos) (tMkEx C fs t) := by
  intro pins s σ H Q I h
  refine wpAny_Call_Name_kw (ld_glob I hg hm ?_ hdb)
  refine PySem.W.callWith_K (h₀ := X.base) I.ok.mod.kin hk (thn (ha.run pos pins s σ H _ I h) fun us s1 ⟨vs, H1, I1, r1, hl, q1⟩ => ?_) he hpl
  refine ⟨I1.kIn, ?_⟩
  have sz : X.base.objs.size ≤ s1.heap.objs.size := Nat.le_trans I1.ok.bsz I1.sz
  have hlim := I1.nolimit
  have kb := I1.bk
  obtain ⟨hp, g, dr, tk, os⟩ := s1
  refine wpAny_call (mk us (by rw [← r1.length]; exact hl) X.A _ _ I1.mod kb sz hlim (by have := hr.dp; omega) fun h' tk' e d M => ?_)
  show MkP X pins σ Q (.ref e) ⟨h', g, dr, tk', os⟩
  obtain ⟨t1, hoe⟩ := M.obj
  have hns := M.ns
  obtain ⟨G', g1, g2⟩ := restrict h' fun b => decide (b ≠ e)
  have gk : ∀ b, b ≠ e → G'.get? b = h'.get? b := fun b hb => g1 b (decide_eq_true hb)
  have ge : G'.get? e = none := g2 e (by simp)
  have old : ∀ b o, hp.get? b = some o → G'.get? b = some o := fun b o q => (gk b (Nat.ne_of_lt (Nat.lt_of_lt_of_le (Heap.lt_size q) M.new))).trans (M.keep b o q)
  have ob : ObjOk X.prog X.w (upd H1 d (.xd (fs.zip vs))) G' d (.xd (fs.zip vs)) := ⟨_, hns.at (fun o q => (gk d M.dne).trans q), fun f => rel_zip r1 f⟩
  have J : Inv X pins σ (upd H1 d (.xd (fs.zip vs))) ⟨G', g, dr, tk', os⟩ := I1.laid (t' := tk') old M.dbig ob
  refine ⟨e, _, _, ⟨G', g, dr, tk', os⟩, _, .ref C, some d, rfl, J, fun b o q => ?_, ge, hoe, ⟨rfl, rfl⟩, rfl, rfl, ?_, rfl, I1.bare, rs, q1 d (I1.hok.fresh M.dbig)⟩
  · by_cases hb : b = e
    · have q' : G'.get? b = some o := q
      rw [hb, ge] at q'; cases q'
    · exact (gk b hb).symm.trans q
  · rw [upd_ne (Ne.symm M.dne)]
    exact I1.hok.fresh M.new
def tRaiseEx (C : Addr) (fs : List Str) (W : WX) (t : TA) : TS := fun _ σ H => tMkEx C fs t σ H fun cls d H' => W cls d σ H'
theorem ps_raiseEx (hc : X.calm = true) (tk : Takes X W) (mk : ∀ us : List Value, us.length = fs.length → Makes X.prog X.w X.K X.mg X.base C ⟨us, []⟩ (mOf fs us)) (rs : Raises X (.ref C)) (hr : Room k X.A) (hg : Gl X x) (hm : X.mg x = some (.ref C)) (hk : PySem.W.keepIn X.K (.ref C) = true) (ha : PA X (e :: es) t)
    (hdb : (x == ("__debug__" : Str)) = false := by decide) (he : starEach (e :: es) X.env = (false, eval e X.env) :: starEach es X.env := by rfl) (hpl : (backTo pos (starEach es X.env)).any (·.1) = false := by rfl) :
    PS X (.Raise (some (.Call (.Name x p) (e :: es) [] pos)) none pos2) (tRaiseEx C fs W t) := ps_raise hc tk (pmk_ex mk rs hr hg hm hk ha hdb he hpl)
end
end Az

/-! Ratios in lowest terms, in plain Lean. -/
namespace Az
/-- what over and under are divided by -/
def shd (o u : Int) : Int := if 0 < u then (Int.gcd o u : Int) else -(Int.gcd o u : Int)
def rO (o u : Int) : Int := o.fdiv (shd o u)
def rU (o u : Int) : Int := u.fdiv (shd o u)
theorem gcd_pos_of {o u : Int} (hu : u ≠ 0) : 0 < Int.gcd o u := by
  rcases Nat.eq_zero_or_pos (Int.gcd o u) with h | h
  · have := Int.gcd_eq_zero_iff.mp h
    exact absurd this.2 hu
  · exact h
theorem shd_ne {o u : Int} (hu : u ≠ 0) : shd o u ≠ 0 := by
  have h := gcd_pos_of (o := o) hu
  unfold shd
  split <;> omega
theorem shd_dvd_o (o u : Int) : shd o u ∣ o := by
  unfold shd
  split
  · exact Int.gcd_dvd_left ..
  · exact Int.neg_dvd.mpr (Int.gcd_dvd_left ..)
theorem shd_dvd_u (o u : Int) : shd o u ∣ u := by
  unfold shd
  split
  · exact Int.gcd_dvd_right ..
  · exact Int.neg_dvd.mpr (Int.gcd_dvd_right ..)
theorem rO_mul {o u : Int} (hu : u ≠ 0) : rO o u * shd o u = o := by
  obtain ⟨c, h⟩ := shd_dvd_o o u
  have e : rO o u = c := by
    unfold rO
    conv => lhs; arg 1; rw [h]
    rw [Int.mul_comm]
    exact Int.mul_fdiv_cancel _ (shd_ne hu)
  rw [e, Int.mul_comm]
  exact h.symm
theorem rU_mul {o u : Int} (hu : u ≠ 0) : rU o u * shd o u = u := by
  obtain ⟨c, h⟩ := shd_dvd_u o u
  have e : rU o u = c := by
    unfold rU
    conv => lhs; arg 1; rw [h]
    rw [Int.mul_comm]
    exact Int.mul_fdiv_cancel _ (shd_ne hu)
  rw [e, Int.mul_comm]
  exact h.symm
theorem rU_pos {o u : Int} (hu : u ≠ 0) : 0 < rU o u := by
  have h := rU_mul (o := o) hu
  have g := gcd_pos_of (o := o) hu
  by_cases hp : 0 < u
  · have e : shd o u = (Int.gcd o u : Int) := by unfold shd; rw [if_pos hp]
    rw [e] at h
    rcases Int.lt_trichotomy (rU o u) 0 with z | z | z
    · have := Int.mul_neg_of_neg_of_pos z (show (0 : Int) < Int.gcd o u by omega)
      omega
    · rw [z, Int.zero_mul] at h; omega
    · exact z
  · have e : shd o u = -(Int.gcd o u : Int) := by unfold shd; rw [if_neg hp]
    rw [e] at h
    rcases Int.lt_trichotomy (rU o u) 0 with z | z | z
    · have := Int.mul_pos_of_neg_of_neg z (show -(Int.gcd o u : Int) < 0 by omega)
      omega
    · rw [z, Int.zero_mul] at h; omega
    · exact z
theorem r_cross {o u : Int} (hu : u ≠ 0) : rO o u * u = o * rU o u := by
  have h1 := rO_mul (o := o) hu
  have h2 := rU_mul (o := o) hu
  calc rO o u * u = rO o u * (rU o u * shd o u) := by rw [h2]
    _ = (rO o u * shd o u) * rU o u := by rw [Int.mul_comm (rU o u), Int.mul_assoc]
    _ = o * rU o u := by rw [h1]
theorem natAbs_le_of_mul {a b c : Int} (hb : b ≠ 0) (h : a * b = c) : a.natAbs ≤ c.natAbs := by
  rw [← h, Int.natAbs_mul]
  exact Nat.le_mul_of_pos_right _ (Int.natAbs_pos.mpr hb)
theorem rO_le {o u : Int} (hu : u ≠ 0) : (rO o u).natAbs ≤ o.natAbs := natAbs_le_of_mul (shd_ne hu) (rO_mul hu)
theorem rU_le {o u : Int} (hu : u ≠ 0) : (rU o u).natAbs ≤ u.natAbs := natAbs_le_of_mul (shd_ne hu) (rU_mul hu)
theorem r_cop {o u : Int} (hu : u ≠ 0) : Int.gcd (rO o u) (rU o u) = 1 := by
  have h1 := rO_mul (o := o) hu
  have h2 := rU_mul (o := o) hu
  have g := gcd_pos_of (o := o) hu
  have e : Int.gcd (rO o u * shd o u) (rU o u * shd o u) = Int.gcd (rO o u) (rU o u) * (shd o u).natAbs := Int.gcd_mul_right ..
  rw [h1, h2] at e
  have s : (shd o u).natAbs = Int.gcd o u := by unfold shd; split <;> simp
  rw [s] at e
  have : Int.gcd (rO o u) (rU o u) * Int.gcd o u = 1 * Int.gcd o u := by rw [← e, Nat.one_mul]
  exact Nat.eq_of_mul_eq_mul_right g this
theorem dvd_cop {a b c : Int} (h : Int.gcd b a = 1) (d : a ∣ b * c) : a ∣ c := by
  have d' : a.natAbs ∣ b.natAbs * c.natAbs := by rw [← Int.natAbs_mul]; exact Int.natAbs_dvd_natAbs.mpr d
  have k : Nat.Coprime a.natAbs b.natAbs := by
    show Nat.gcd a.natAbs b.natAbs = 1
    rw [Nat.gcd_comm]
    exact h
  exact Int.natAbs_dvd_natAbs.mp (Nat.Coprime.dvd_of_dvd_mul_left k d')
/-- lowest terms are one -/
theorem low_one {p q p' q' : Int} (hq : 0 < q) (hq' : 0 < q') (h : Int.gcd p q = 1) (h' : Int.gcd p' q' = 1) (e : p * q' = p' * q) : p = p' ∧ q = q' := by
  have d1 : q ∣ q' := by
    have z : q ∣ p * q' := ⟨p', by rw [e, Int.mul_comm]⟩
    exact dvd_cop h z
  have d2 : q' ∣ q := by
    have z : q' ∣ p' * q := ⟨p, by rw [← e, Int.mul_comm]⟩
    exact dvd_cop h' z
  have eq : q = q' := Int.dvd_antisymm (Int.le_of_lt hq) (Int.le_of_lt hq') d1 d2
  subst eq
  exact ⟨Int.eq_of_mul_eq_mul_right (by omega) e, rfl⟩
end Az

/-! The promises of the functions of ratios. -/
namespace Az
open PySem PySem.Spec PyProof.Rows L2 AzX
/-- at a: the ratio p / q in lowest terms -/
structure RatAt (R : Addr) (H : Hp) (a : Addr) (p q : Int) : Prop where
  at_ : ∃ dx, H a = some (.ins R dx [("over", .int p), ("under", .int q)])
  pos : 0 < q
  cop : Int.gcd p q = 1
theorem RatAt.mono {R : Addr} {H H' : Hp} {a : Addr} {p q : Int} (x : RatAt R H a p q) (s : Same H H') : RatAt R H' a p q := by
  obtain ⟨⟨dx, h⟩, b, c⟩ := x
  exact ⟨⟨dx, s _ _ h⟩, b, c⟩
theorem same_at {H H1 : Hp} {p : Addr} {o : HO} (s : Same H H1) (h : H p = none) : Same H (upd H1 p o) := fun b o' e => get_put (ne_of_none e h) (s b o' e)
def oddTys : List String := ["bool", "NoneType", "str", "tuple", "list", "dict"]
/-- what the functions of ratios meet: a whole number, a ratio, or something odd -/
inductive NV (R : Addr) (H : Hp) : V → Option (Int × Int) → Prop
  | int (i : Int) : NV R H (.int i) (some (i, 1))
  | rat {a : Addr} {p q : Int} (h : RatAt R H a p q) : NV R H (.ref a) (some (p, q))
  | odd {v : V} {t : String} (h : tyV H v = some t) (m : t ∈ oddTys) : NV R H v none
theorem tyV_same {H H' : Hp} (s : Same H H') {v : V} {t : String} (h : tyV H v = some t) : tyV H' v = some t := by
  cases v with
  | ref a =>
    cases e : H a with
    | none => simp [tyV, e] at h
    | some o =>
      have e' := s _ _ e
      simp only [tyV, e] at h
      simp only [tyV, e']
      exact h
  | _ => exact h
theorem NV.mono {R : Addr} {H H' : Hp} {v : V} {n : Option (Int × Int)} (x : NV R H v n) (s : Same H H') : NV R H' v n := by
  cases x with
  | int i => exact .int i
  | rat h => exact .rat (h.mono s)
  | odd h m => exact .odd (tyV_same s h) m
/-- what the top says of ratios -/
structure RT (K : PySem.W.Frag) (R : Addr) : Prop where
  cls : Cls K R
  noO : NoAttr K R "over"
  noU : NoAttr K R "under"
  ha : PySem.W.findIn K (.ref R) "__class__" = some (some (.builtin "object.__class__"))
  hn : PySem.W.specialIn K (.builtin "object.__class__") "__get__" = some (some (.builtin "getset_descriptor.__get__"))
  ht : PySem.W.takesIn K (.builtin "object.__class__") = some true
  hm : PySem.W.mroIn K R (.type "object") = some true
  kRR : PySem.W.kitOne K (.ref R) (.ref R) = some true
  kRI : PySem.W.kitOne K (.ref R) (.type "int") = some false
  kTR : ∀ t, t ∈ "int" :: oddTys → PySem.W.kitOne K (.type t) (.ref R) = some false
  sub : ∀ t, t ∈ "int" :: oddTys → PySem.W.subIn K (.type t) (.ref R) = some false
  noInt : PySem.W.subIn K (.ref R) (.type "int") = some false
/-- what the top says of an own error -/
structure ErrT (P : Program) (w : World) (K : PySem.W.Frag) (mg : Str → Option Value) (C : Addr) (fs : List Str) : Prop where
  mks : ∀ (base : Heap) (us : List Value), us.length = fs.length → Makes P w K mg base C ⟨us, []⟩ (mOf fs us)
  r1 : PySem.W.subIn K (.ref C) (.type "BaseException") = some true
  r2 : PySem.W.typeIn K (.ref C) = some (.type "type")
  kp : PySem.W.keepIn K (.ref C) = true
section
variable {P : Program} {w : World} {K : PySem.W.Frag} {mg : Str → Option Value} {R CB : Addr} {H : Hp} {Q : VK} {v : V}
theorem tyX_of {t : String} (h : tyV H v = some t) : TyX K H v (.type t) := by
  cases v with
  | non => cases h; exact .base .non
  | bl b => cases h; exact .base (.bl b)
  | int i => cases h; exact .base (.int i)
  | str x => cases h; exact .base (.str x)
  | byt b => cases h
  | flt b => cases h
  | ty n => cases h
  | ref a =>
    cases e : H a with
    | none => simp [tyV, e] at h
    | some o =>
      cases o <;> simp [tyV, e] at h
      · subst h; exact .base (.lst e)
      · subst h; exact .base (.tup e)
      · subst h; exact .base (.dK e)
theorem RT.ty (T : RT K R) {a : Addr} {p q : Int} (x : RatAt R H a p q) : TyX K H (.ref a) (.ref R) := by
  obtain ⟨⟨dx, h⟩, _, _⟩ := x
  exact .base (.ins h T.cls T.ha T.hn T.ht T.hm)
/-- isinstance(v, Ratio) -/
theorem i_isR {n : Option (Int × Int)} (T : RT K R) (x : NV R H v n) (b : Bool) (hb : (∃ a p q, v = .ref a ∧ n = some (p, q) ∧ RatAt R H a p q) ∧ b = true ∨ (∀ a p q, v = .ref a → ¬ RatAt R H a p q) ∧ b = false) (k : Q (.bl b) H) : rIsi K [v, .ref R] H Q := by
  cases x with
  | int i =>
    rcases hb with ⟨⟨a, p, q, z, _⟩, _⟩ | ⟨_, rfl⟩
    · cases z
    · exact ⟨_, _, .type "int", .ref R, _, rfl, .own _, .base (.int i), T.kTR "int" (by simp), k⟩
  | rat h =>
    rcases hb with ⟨_, rfl⟩ | ⟨z, _⟩
    · exact ⟨_, _, .ref R, .ref R, _, rfl, .own _, T.ty h, T.kRR, k⟩
    · exact (z _ _ _ rfl h).elim
  | odd h m =>
    rcases hb with ⟨⟨a, p, q, rfl, e, _⟩, _⟩ | ⟨_, rfl⟩
    · cases e
    · exact ⟨_, _, _, .ref R, _, rfl, .own _, tyX_of h, T.kTR _ (List.mem_cons_of_mem _ m), k⟩
end
/-- // of whole numbers of any sign, the divisor not too great -/
theorem op_fdivNW {X : Cx} : OpR X (binaryOp .FloorDiv) (rI (fun _ j => j ≠ 0 ∧ j.natAbs.log2 < 9000) fun i j => .int (i.fdiv j)) := opI fun i j _ _ _ _ _ hc q => floordiv_int hc.1 q (.inl (PyProof.noPylong_of_log2 hc.2))
/-- is_integer(v) -/
def isI : V → Bool
  | .int _ => true
  | _ => false
theorem odd_notI {H : Hp} {v : V} {t : String} (h : tyV H v = some t) (m : t ∈ oddTys) : isI v = false := by
  cases v with
  | int i => cases h; exact absurd m (by decide)
  | _ => rfl
def spIsI (R : Addr) : Sp := fun vs H Q _ => ∃ v n, vs = [v] ∧ NV R H v n ∧ Q (.bl (isI v)) H
def spNum (R : Addr) : Sp := fun vs H Q _ => ∃ v n, vs = [v] ∧ NV R H v n ∧ Q (.bl n.isSome) H
/-- the value that Ratio(v, u) refuses -/
def Bad (v u b : V) : Prop := (isI v = false ∧ b = v) ∨ (isI v = true ∧ isI u = false ∧ b = u) ∨ (isI v = true ∧ u = .int 0 ∧ b = u)
/-- what is told of a refused value -/
def Told (CB : Addr) (H : Hp) (E : XK) (b : V) : Prop := ∀ (d : Addr) (H' : Hp), Same H H' → H' d = some (.xd [("value", b)]) → E (.ref CB) (some d) H'
theorem i_raise1 {CB : Addr} {σ : L2.St} {H : Hp} {E : XK} {D : Ends} {v : V} {n : Nat} (hv : σ[n]? = some (some v)) (k : Told CB H E v) : tRaiseEx CB ["value"] (fun cls d _ H => E cls d H) (tCons (tVar n) tNil) D σ H :=
  ⟨v, hv, rfl, fun d hd => k d _ (same_new (Same.refl _) hd) upd_same⟩
theorem log_lt {d : Int} (h : d.natAbs < 2 ^ 8000) : d.natAbs.log2 < 9000 := Nat.lt_of_lt_of_le (PySem.Flt.log2_lt_of (by decide) h) (by decide)
theorem shd_small {o d : Int} (hd : d ≠ 0) (h : d.natAbs < 2 ^ 8000) : (shd o d).natAbs < 2 ^ 8000 := by
  have z : (shd o d).natAbs ∣ d.natAbs := Int.natAbs_dvd_natAbs.mpr (shd_dvd_u o d)
  exact Nat.lt_of_le_of_lt (Nat.le_of_dvd (Int.natAbs_pos.mpr hd) z) h
/-- Ratio.__init__ -/
def spIni (R CB : Addr) : Sp := fun vs H Q E => ∃ (x dx : Addr) (v u : V) (n n2 : Option (Int × Int)), vs = [.ref x, v, u] ∧ H x = some (.ins R dx []) ∧ NV R H v n ∧ NV R H u n2 ∧
  ((∃ o d : Int, v = .int o ∧ u = .int d ∧ d ≠ 0 ∧ d.natAbs < 2 ^ 8000 ∧ Q .non (upd H x (.ins R dx [("over", .int (rO o d)), ("under", .int (rU o d))]))) ∨ ∃ b, Bad v u b ∧ Told CB H E b)
def spDivi : Sp := fun vs H Q _ => ∃ a b : Int, vs = [.int a, .int b] ∧ Q (.int (Int.gcd a b)) H
theorem rO_one (i : Int) : rO i 1 = i := by
  have h := rO_mul (o := i) (u := 1) (by decide)
  have s : shd i 1 = 1 := by unfold shd; simp
  rw [s, Int.mul_one] at h
  exact h
theorem rU_one (i : Int) : rU i 1 = 1 := by
  have h := rU_mul (o := i) (u := 1) (by decide)
  have s : shd i 1 = 1 := by unfold shd; simp
  rw [s, Int.mul_one] at h
  exact h
/-- a new ratio -/
theorem new_rat {R CB : Addr} {H : Hp} {E : XK} {Q : VK} {o d : Int} (hd : d ≠ 0) (hb : d.natAbs < 2 ^ 8000) (k : ∀ a H', Same H H' → RatAt R H' a (rO o d) (rU o d) → Q (.ref a) H') : ∀ x dx, H x = none → H dx = none → dx ≠ x →
    spIni R CB [.ref x, .int o, .int d] (upd (upd H dx (.own x)) x (.ins R dx [])) (fun v H2 => v = .non ∧ Q (.ref x) H2) E := fun x dx h1 h2 h3 =>
  ⟨x, dx, _, _, _, _, rfl, upd_same, .int o, .int d, .inl ⟨o, d, rfl, rfl, hd, hb, rfl, k x _ (same_at (same_at (same_new (Same.refl H) h2) h1) h1) ⟨⟨dx, upd_same⟩, rU_pos hd, r_cop hd⟩⟩⟩
/-- Ratio.of -/
def spOf (R CB : Addr) : Sp := fun vs H Q E => ∃ (v : V) (n : Option (Int × Int)), vs = [v] ∧ NV R H v n ∧ match n with
  | none => Told CB H E v
  | some (p, q) => ∀ a H', Same H H' → RatAt R H' a p q → Q (.ref a) H'
def Smal (x : Int) : Prop := x.natAbs < 2 ^ 3900
theorem Smal.mul {i j : Int} (h1 : Smal i) (h2 : Smal j) : CMulW i j := wide_mul (a := 3900) (b := 3900) h1 h2 (by decide) (by decide) (by decide)
theorem Smal.lt {i j : Int} (h1 : Smal i) (h2 : Smal j) : (i * j).natAbs < 2 ^ 8000 := Nat.lt_of_lt_of_le (wide_lt h1 h2) (Nat.pow_le_pow_right (by decide) (by decide))
section
variable {P : Program} {w : World} {K : PySem.W.Frag} {mg : Str → Option Value} {R CB : Addr} {H : Hp} {Q : VK} {σ : L2.St} {n : Nat} {a : Addr} {p q : Int}
theorem i_over (T : RT K R) (x : RatAt R H a p q) (hs : σ[n]? = some (some (.ref a))) (k : Q (.int p) H) : tFld K (tVar n) "over" σ H Q := by
  obtain ⟨dx, h⟩ := x.at_
  exact ⟨_, hs, a, R, dx, _, _, rfl, h, T.cls, T.noO, rfl, k⟩
theorem i_under (T : RT K R) (x : RatAt R H a p q) (hs : σ[n]? = some (some (.ref a))) (k : Q (.int q) H) : tFld K (tVar n) "under" σ H Q := by
  obtain ⟨dx, h⟩ := x.at_
  exact ⟨_, hs, a, R, dx, _, _, rfl, h, T.cls, T.noU, rfl, k⟩
end
/-- a method of two that makes g1 / g2 -/
def spBin (R CB : Addr) (g1 g2 : Int → Int → Int → Int → Int) : Sp := fun vs H Q E => ∃ (a : Addr) (p q : Int) (v : V) (n : Option (Int × Int)), vs = [.ref a, v] ∧ RatAt R H a p q ∧ NV R H v n ∧ match n with
  | none => Told CB H E v
  | some (p', q') => Smal p ∧ Smal q ∧ Smal p' ∧ Smal q' ∧ ∀ r H', Same H H' → RatAt R H' r (rO (g1 p q p' q') (g2 p q p' q')) (rU (g1 p q p' q') (g2 p q p' q')) → Q (.ref r) H'
theorem NV.posd {R : Addr} {H : Hp} {v : V} {p q : Int} (x : NV R H v (some (p, q))) : 0 < q := by
  cases x with
  | int i => decide
  | rat h => exact h.pos
theorem i_mk {C : Addr} {sp : Sp} {dvs : List V} {E : XK} {t : TA} {σ : L2.St} {H : Hp} {Q : VK} (k : t σ H fun vs H1 => ∀ x dx, H1 x = none → H1 dx = none → dx ≠ x → sp (.ref x :: (vs ++ dvs)) (upd (upd H1 dx (.own x)) x (.ins C dx [])) (fun v H2 => v = .non ∧ Q (.ref x) H2) E) : tMake C sp dvs E t σ H Q := k
theorem i_mul {H : Hp} {Q : VK} {i j : Int} (h1 : Smal i) (h2 : Smal j) (k : Q (.int (i * j)) H) : rI CMulW (fun i j => V.int (i * j)) (.int i) (.int j) H Q := i_I (h1.mul h2) k
/-- -x -/
def spNeg (R : Addr) : Sp := fun vs H Q _ => ∃ (a : Addr) (p q : Int), vs = [.ref a] ∧ RatAt R H a p q ∧ Smal q ∧ ∀ r H', Same H H' → RatAt R H' r (-p) q → Q (.ref r) H'
/-- lowest terms stay as they are -/
theorem r_low {p q : Int} (hq : 0 < q) (h : Int.gcd p q = 1) : rO p q = p ∧ rU p q = q := by
  have hn : q ≠ 0 := Int.ne_of_gt hq
  exact low_one (rU_pos hn) hq (r_cop hn) h (r_cross hn)
theorem gcd_neg1 {p q : Int} (h : Int.gcd p q = 1) : Int.gcd (-p) q = 1 := by
  rw [Int.neg_gcd]
  exact h
/-- x.divided(y) -/
def spDvd (R CB : Addr) : Sp := fun vs H Q E => ∃ (a : Addr) (p q : Int) (v : V) (n : Option (Int × Int)), vs = [.ref a, v] ∧ RatAt R H a p q ∧ NV R H v n ∧ match n with
  | none => Told CB H E v
  | some (p', q') => if p' = 0 then Told CB H E v else Smal p ∧ Smal q ∧ Smal p' ∧ Smal q' ∧ ∀ r H', Same H H' → RatAt R H' r (rO (p * q') (q * p')) (rU (p * q') (q * p')) → Q (.ref r) H'
theorem Told.mono {CB : Addr} {H H' : Hp} {E : XK} {b : V} (t : Told CB H E b) (s : Same H H') : Told CB H' E b := fun d H2 s2 h => t d H2 (s.trans s2) h
/-- the other types, met by an operator -/
def OpTs (K : PySem.W.Frag) (R : Addr) (nm : String) : Prop := ∀ t, t ∈ "int" :: oddTys → OpT K R nm t
theorem opY_of {K : PySem.W.Frag} {R : Addr} {nm : String} {H : Hp} {v : V} {n : Option (Int × Int)} (O : OpTs K R nm) (x : NV R H v n) : OpY K R nm H v := by
  cases x with
  | int i => exact .inr ⟨"int", rfl, O _ (by simp)⟩
  | rat h =>
    obtain ⟨dx, hx⟩ := h.at_
    exact .inl ⟨_, dx, _, rfl, hx⟩
  | odd h m => exact .inr ⟨_, h, O _ (List.mem_cons_of_mem _ m)⟩
/-- x op y, x a ratio -/
theorem i_own {K : PySem.W.Frag} {R : Addr} {nm : String} {H : Hp} {v : V} {n : Option (Int × Int)} {sp : Sp} {E : XK} {Q : VK} {a : Addr} {p q : Int} (O : OpTs K R nm) (ra : RatAt R H a p q) (x : NV R H v n) (k : sp [.ref a, v] H Q E) : rOwn K R nm sp E (.ref a) v H Q := by
  obtain ⟨dx, h⟩ := ra.at_
  exact ⟨a, dx, _, rfl, h, opY_of O x, k⟩
end Az
namespace Az
open PySem PySem.Spec PyProof.Rows L2 AzX
/-- a comparison of two numbers -/
def spCmp (R CB : Addr) (g : Int → Int → Int → Int → Bool) : Sp := fun vs H Q E => ∃ (a : Addr) (p q : Int) (v : V) (n : Option (Int × Int)), vs = [.ref a, v] ∧ RatAt R H a p q ∧ NV R H v n ∧ match n with
  | none => Told CB H E v
  | some (p', q') => Smal p ∧ Smal q ∧ Smal p' ∧ Smal q' ∧ ∀ H', Same H H' → Q (.bl (g p q p' q')) H'
/-- == -/
def spEq (R : Addr) : Sp := fun vs H Q _ => ∃ (a : Addr) (p q : Int) (v : V) (n : Option (Int × Int)), vs = [.ref a, v] ∧ RatAt R H a p q ∧ NV R H v n ∧ match n with
  | none => ∀ H', Same H H' → Q (.bl false) H'
  | some (p', q') => ∀ H', Same H H' → Q (.bl (decide (p = p' ∧ q = q'))) H'
def spSame (R : Addr) : Sp := fun vs H Q _ => ∃ (a b : Addr) (p q p' q' : Int), vs = [.ref a, .ref b] ∧ RatAt R H a p q ∧ RatAt R H b p' q' ∧ Q (.bl (decide (p = p' ∧ q = q'))) H
/-- a method of one that hands back g -/
def spOne (R : Addr) (C : Int → Int → Prop) (g : Int → Int → V) : Sp := fun vs H Q _ => ∃ (a : Addr) (p q : Int), vs = [.ref a] ∧ RatAt R H a p q ∧ C p q ∧ Q (g p q) H
def ratTxt (p q : Int) : Str := if q = 1 then (toString p : Str) else Str.empty ++ (toString p : Str) ++ ("/" : Str) ++ (toString q : Str)
theorem cmpY_of {K : PySem.W.Frag} {R : Addr} {H : Hp} {v : V} {n : Option (Int × Int)} (T : RT K R) (x : NV R H v n) : CmpY K R H v := by
  cases x with
  | int i => exact .inr ⟨"int", rfl, T.sub _ (by simp)⟩
  | rat h =>
    obtain ⟨dx, hx⟩ := h.at_
    exact .inl ⟨_, dx, _, rfl, hx⟩
  | odd h m => exact .inr ⟨_, h, T.sub _ (List.mem_cons_of_mem _ m)⟩
theorem i_cmp {K : PySem.W.Frag} {R : Addr} {H : Hp} {v : V} {n : Option (Int × Int)} {sp : Sp} {E : XK} {Q : VK} {a : Addr} {p q : Int} (T : RT K R) (ra : RatAt R H a p q) (x : NV R H v n) (k : sp [.ref a, v] H Q E) : rCmp K R sp E (.ref a) v H Q := by
  obtain ⟨dx, h⟩ := ra.at_
  exact ⟨a, dx, _, rfl, h, cmpY_of T x, k⟩
theorem i_neO {K : PySem.W.Frag} {R : Addr} {H : Hp} {v : V} {n : Option (Int × Int)} {sp : Sp} {E : XK} {Q : VK} {a : Addr} {p q : Int} (T : RT K R) (ra : RatAt R H a p q) (x : NV R H v n) (k : sp [.ref a, v] H (kNot Q) E) : rNeO K R sp E (.ref a) v H Q := by
  obtain ⟨dx, h⟩ := ra.at_
  exact ⟨a, dx, _, rfl, h, cmpY_of T x, k⟩
theorem i_ownR {R : Addr} {H : Hp} {i : Int} {sp : Sp} {E : XK} {Q : VK} {a : Addr} {p q : Int} (ra : RatAt R H a p q) (k : sp [.ref a, .int i] H Q E) : rOwnR R sp E (.int i) (.ref a) H Q := by
  obtain ⟨dx, h⟩ := ra.at_
  exact ⟨i, a, dx, _, rfl, rfl, h, k⟩
theorem i_neR {R : Addr} {H : Hp} {i : Int} {sp : Sp} {E : XK} {Q : VK} {a : Addr} {p q : Int} (ra : RatAt R H a p q) (k : sp [.ref a, .int i] H (kNot Q) E) : rNeR R sp E (.int i) (.ref a) H Q := by
  obtain ⟨dx, h⟩ := ra.at_
  exact ⟨i, a, dx, _, rfl, rfl, h, k⟩
theorem i_ownU {R : Addr} {H : Hp} {sp : Sp} {E : XK} {Q : VK} {a : Addr} {p q : Int} (ra : RatAt R H a p q) (k : sp [.ref a] H Q E) : rOwnU R sp E (.ref a) H Q := by
  obtain ⟨dx, h⟩ := ra.at_
  exact ⟨a, dx, _, rfl, h, k⟩
theorem i_boolO {R : Addr} {H : Hp} {sp : Sp} {E : XK} {Q : VK} {a : Addr} {p q : Int} (ra : RatAt R H a p q) (k : sp [.ref a] H (kBl fun c H' => Q (.bl c) H') E) : rBoolO R sp E [.ref a] H Q := by
  obtain ⟨dx, h⟩ := ra.at_
  exact ⟨a, dx, _, rfl, h, k⟩
theorem i_strO {R : Addr} {H : Hp} {sp : Sp} {E : XK} {Q : VK} {a : Addr} {p q : Int} (ra : RatAt R H a p q) (k : sp [.ref a] H (kStr fun c H' => Q (.str c) H') E) : rStrO R sp E [.ref a] H Q := by
  obtain ⟨dx, h⟩ := ra.at_
  exact ⟨a, dx, _, rfl, h, k⟩
theorem i_truO {R : Addr} {H : Hp} {sp : Sp} {E : XK} {Q : Bool → Hp → Prop} {a : Addr} {p q : Int} (ra : RatAt R H a p q) (k : sp [.ref a] H (kBl Q) E) : rTruO R sp E (.ref a) H Q := by
  obtain ⟨dx, h⟩ := ra.at_
  exact ⟨a, dx, _, rfl, h, k⟩
/-- o.m(..), o a ratio -/
theorem i_meth {C : Addr} {m : Str} {sp : Sp} {dvs : List V} {E : XK} {ta : TE} {t : TA} {σ : L2.St} {H : Hp} {Q : VK} (k : ta σ H fun x H1 => ∃ a dx fs, x = .ref a ∧ H1 a = some (.ins C dx fs) ∧ fs.lookup m = none ∧ t σ H1 fun vs H2 => sp (x :: (vs ++ dvs)) H2 Q E) : tMeth C m sp dvs E ta t σ H Q := k
theorem i_atR {R b : Addr} {H : Hp} {m : Str} {p q : Int} {k : Prop} (ra : RatAt R H b p q) (h : k) (h1 : (m == "over") = false := by decide) (h2 : (m == "under") = false := by decide) : ∃ a dx fs, V.ref b = .ref a ∧ H a = some (.ins R dx fs) ∧ fs.lookup m = none ∧ k := by
  obtain ⟨dx, e⟩ := ra.at_
  exact ⟨b, dx, _, rfl, e, by simp [List.lookup, h1, h2], h⟩
theorem i_smeth {C : Addr} {sp : Sp} {dvs : List V} {E : XK} {ta : TE} {t : TA} {σ : L2.St} {H : Hp} {Q : VK} (k : ta σ H fun x H1 => x = .ref C ∧ t σ H1 fun vs H2 => sp (vs ++ dvs) H2 Q E) : tSMeth C sp dvs E ta t σ H Q := k
theorem i_fmtI {te : TE} {σ : L2.St} {H : Hp} {Q : VK} (k : te σ H fun x H1 => ∃ i : Int, x = .int i ∧ i.natAbs.log2 < 1920 ∧ Q (.str (toString i)) H1) (mono : ∀ {Q Q' : VK} {H : Hp}, (∀ x H, Q x H → Q' x H) → te σ H Q → te σ H Q') : tFmt te σ H Q := mono (fun _ _ z => .inr z) k
def Bt (x : Int) : Prop := x.natAbs.log2 < 1920
theorem txt_len {x : Int} (h : Bt x) : ((toString x : String) : Str).length ≤ 1921 := PyProof.Rows.int_text_len_1921 h
end Az

/-! try: .. except X as n: suite, where the caught exception lives on as a value. -/
namespace Az
open PySem PySem.Spec PyProof.Rows L2 AzX
abbrev kSuite (X : Cx) (a : Addr) (pn : List (Addr × Obj)) : Cx := { X with A := X.A.mark (some (.ref a)), calm := false, pn := pn, xe := fun _ _ => False }
/-- what the clause wishes of an exception of the body: slot i is n's; it stands at a from now on -/
def wKeep (K : PySem.W.Frag) (c : Value) (i : Nat) (ts : Addr → TS) (Wout : WX) (D : Ends) : WX := fun cls d σ H =>
  ∃ b, PySem.W.exmOne K cls c = some b ∧ (b = true → ∀ a, H a = none → ts a { nx := fun σ' H' => D.nx (σ'.set i none) H', rt := D.rt, bk := fun σ' H' => D.bk (σ'.set i none) H', ct := fun σ' H' => D.ct (σ'.set i none) H' } (σ.set i (some (.ref a))) (upd H a (ExG cls d a))) ∧
    (b = false → Wout cls d σ H)
section
variable {X : Cx} {pins : List (Addr × Obj)} {σ : L2.St} {H : Hp} {s : Shared}
theorem suite0 (I : Inv X pins σ H s) (a : Addr) : Inv (kSuite X a (X.pn ++ pins)) [] σ H s :=
  ⟨I.ok.suite _ _, I.os, I.bare, I.base, I.loc, I.cell, I.free, I.freeC, fun p hp => I.pin p (by rw [List.append_nil] at hp; exact hp), I.hok, I.len⟩
theorem unsuite0 {a : Addr} {pn' : List (Addr × Obj)} (I : Inv (kSuite X a (X.pn ++ pins)) pn' σ H s) (ok : X.Ok) : Inv X pins σ H s :=
  ⟨ok, I.os, I.bare, I.base, I.loc, I.cell, I.free, I.freeC, fun p hp => I.pin p (List.mem_append_left _ hp), I.hok, I.len⟩
end
section
variable {X : Cx} {x n : Str} {c : Value} {i : Nat} {body suite : List Stmt} {b₀ : Stmt} {np pos pos' : Pos} {tb : WX → TS} {ts : Addr → TS} {Wout : WX}
theorem ps_try_keep (hs : X.stack = X.env :: X.outer) (hf : X.env.frame = some X.env.locals) (hN : X.N.Nodup) (hi : X.N[i]? = some n) (hln : X.env.kindOf n = some .local) (hc : Names X x c) (tk : Takes X Wout)
    (hb : ∀ (W : WX) (pn : List (Addr × Obj)) (xe : Value → Shared → Prop), Takes (X.tr pn xe) W → PassesOwn (model X.prog X.w) X.A X.env xe → PSs (X.tr pn xe) body (tb W))
    (hsu : ∀ (a : Addr) (pn : List (Addr × Obj)), PSs (kSuite X a pn) (b₀ :: suite) (ts a)) :
    PS X (.Try body [.ExceptHandler (some (.Name x np)) (some n) (b₀ :: suite) pos'] [] [] pos) (fun D σ H => tb (wKeep X.K c i ts Wout D) D σ H) := by
  refine ⟨fun pins s σ H D I h => ?_⟩
  have ok := I.ok
  have hfr : X.A.frames = some (X.env :: X.outer) := by rw [ok.frames, hs]
  have hloc : Loc X.env.scope n := .inl hln
  refine wpAny_Try_except ?_
  refine wpAny_mono ((hb (wKeep X.K c i ts Wout D) (X.pn ++ pins) (fun e s₁ => wpAny (model X.prog X.w) X.A (noteFrame e X.env) (fun _ s₂ => wpAny (model X.prog X.w) X.A (setFlight e none) (fun _ s₃ =>
    wpAny (model X.prog X.w) X.A (handleBy e X.env [.ExceptHandler (some (.Name x np)) (some n) (b₀ :: suite) pos']) (SP X pins D) X.xe s₃) X.xe s₂) X.xe s₁) (fun u s' xx => ?_) PassesOwn.looking).run [] s σ H D (I.toTry _) h) (fun f s1 hsp => ?_) (fun e s1 he => he)
  · obtain ⟨a, B, sI, pins', σ', H', cls, d, rfl, J', nb, up, sky, na, os, ag, b, hb1, hyes, hno⟩ := xx
    have J : Inv X pins σ' H' sI := J'.ofTry ok
    have sky' : Sky B (X.env :: X.outer) a (Zc cls d) X.env.locals s'.heap := by rw [← hs]; exact sky
    show wpAny (model X.prog X.w) X.A (noteFrame (.ref a) X.env) _ _ _
    refine Sky.land Zc.steady hfr hf sky' fun h3 fl3 up3 => ?_
    have J3 : Inv X pins σ' H' { s' with heap := h3 } := J.landed nb fl3.1 (up.trans up3) os ag
    obtain ⟨oe3, vs3, he3, hz3, hd3⟩ := fl3.there
    have notFr : ∀ {h : Heap} {o : Obj} {vs : Array Value}, h.FunFrames B (X.env :: X.outer) → h.get? a = some o → o.data = .fields vs → a ∉ frs (X.env :: X.outer) := fun {h o vs} ff e dd hm => by
      obtain ⟨_, o', e', hnf⟩ := ff.mem hm
      rw [e] at e'; cases e'
      exact hnf _ dd
    have nfr := notFr fl3.2.2.1 he3 hd3
    have nL : a ≠ X.env.locals := fun z => nfr (List.mem_filterMap.mpr ⟨X.env, List.mem_cons_self, by rw [hf, z]⟩)
    have nF : a ∉ X.fs := fun hm => by
      obtain ⟨e, he, q⟩ := List.mem_filterMap.mp hm
      exact nfr (List.mem_filterMap.mpr ⟨e, List.mem_cons_of_mem _ he, q⟩)
    have S3 := J3.suite he3 hd3 na nL nF
    refine wpAny_handleBy_cons (codeAny_handlers_test ?_) (by intro q; cases q)
    have LT : PySem.W.Looks (model X.prog X.w) h3 (typeOf (.ref a)) cls := fun A Q E s k q => wpAny_typeOf_ref (k _ _ he3) (by rw [hz3.1]; exact q)
    have LM := PySem.W.exm_one (M := model X.prog X.w) (J3.kIn) LT hb1
    have test : ∀ {Q : Value → Shared → Prop} {E : Value → Shared → Prop}, Q c { s' with heap := h3 } → wpAny (model X.prog X.w) (X.A.mark (some (.ref a))) (eval (.Name x np) X.env) Q E { s' with heap := h3 } := fun {Q E} q => by
      obtain ⟨hg, hdbg, hm | ⟨hm, hv, hnn⟩⟩ := hc
      · exact ld_glob (X := X.suite a ((a, oe3) :: (X.pn ++ pins))) S3 hg hm q hdbg
      · exact ld_blt (X := X.suite a ((a, oe3) :: (X.pn ++ pins))) S3 hg hm hv q hnn hdbg
    refine test (LM.here ?_)
    cases b with
    | true =>
      refine codeAny_handlers_suite_as ?_
      refine HandSPX.lands_againZ fl3 fun h4 fl4 up4 => ?_
      obtain ⟨oe4, vs4, he4, hz4, hd4⟩ := fl4.there
      have hBa : B.get? a = none := fl4.2.1
      have hIa : sI.heap.get? a = none := by
        cases q : sI.heap.get? a with
        | none => rfl
        | some o =>
          have z := nb a o q (by rw [hs]; exact nfr)
          rw [hBa] at z; cases z
      -- the heap without it
      obtain ⟨G', g1, g2⟩ := restrict h4 fun b => decide (b ≠ a)
      have gk : ∀ b, b ≠ a → G'.get? b = h4.get? b := fun b hb => g1 b (decide_eq_true hb)
      have ge : G'.get? a = none := g2 a (by simp)
      have st : B.StaysIn G' := fun b o q => by
        have hb : b ≠ a := fun z => by rw [z, hBa] at q; cases q
        rw [gk b hb]
        exact fl4.1 b o q
      have upG : sI.heap.UpToSlots G' := fun b o q hd => by
        have hb : b ≠ a := fun z => by rw [z, hIa] at q; cases q
        obtain ⟨sl, z⟩ := ((up.trans up3).trans up4) b o q hd
        exact ⟨sl, by rw [gk b hb]; exact z⟩
      have JG : Inv X pins σ' H' { s' with heap := G' } := J.landed nb st upG os ag
      have k2 : ∀ b o, G'.get? b = some o → h4.get? b = some o := fun b o q => by
        by_cases hb : b = a
        · rw [hb, ge] at q; cases q
        · exact (gk b hb).symm.trans q
      have J4 : Inv X pins σ' (upd H' a (ExG cls d a)) { s' with heap := h4 } := L2.Inv.laidN (s := { s' with heap := G' }) (h' := h4) (o := ExG cls d a) (t' := s'.toks) JG k2 ge na (exG_ok he4 hz4.1 hz4.2 hd4)
      have S4 := suite0 J4 a
      refine store_ok (X := kSuite X a (X.pn ++ pins)) (v := .ref a) S4 hN hi hloc rfl (fun s5 S5 => ?_) (.inr hln)
      refine wpAny_mono ((hsu a (X.pn ++ pins)).run [] s5 _ _ _ S5 (hyes rfl a na)) (fun f s6 hsp => ?_) (fun _ _ z => False.elim z)
      have end_ : ∀ {σ6 : L2.St} {H6 : Hp} {Q : Shared → Prop}, Inv (kSuite X a (X.pn ++ pins)) [] σ6 H6 s6 → (∀ s7, Inv X pins (σ6.set i none) H6 s7 → Q s7) →
          wpAny (model X.prog X.w) X.A (do bindName X.env n .none; unbindBehindTheSuite X.env n pos') (fun _ s7 => Q s7) X.xe s6 := fun {σ6 H6 Q} S6 hq => gone_ok (unsuite0 S6 ok) hN hi hln hq
      cases f with
      | next =>
        obtain ⟨σ6, H6, S6, q6⟩ := hsp
        exact end_ S6 fun s7 J7 => ⟨_, _, J7, q6⟩
      | brk =>
        obtain ⟨σ6, H6, S6, q6⟩ := hsp
        exact end_ S6 fun s7 J7 => ⟨_, _, J7, q6⟩
      | cont =>
        obtain ⟨σ6, H6, S6, q6⟩ := hsp
        exact end_ S6 fun s7 J7 => ⟨_, _, J7, q6⟩
      | ret u =>
        obtain ⟨v6, σ6, H6, S6, r6, q6⟩ := hsp
        exact end_ S6 fun s7 J7 => ⟨_, _, _, J7, r6, q6⟩
    | false =>
      show wpAny _ X.A (handleBy (.ref a) X.env []) _ _ _
      refine wpAny_handleBy_nil ?_
      obtain ⟨k1, k2, k3, oe, vs, T, oT, ts', he, hz, hd, h1, hr⟩ := id fl3
      unfold PySem.passOn
      refine wpAny_bind (wpAny_field he hd h1 ?_)
      rw [if_neg (show ¬ ((Value.ref T == Value.none) = true) from by simp)]
      have fin : wpAny (model X.prog X.w) X.A (setFlight (.ref a) X.env.frame) (fun _ s4 => wpAny (model X.prog X.w) X.A (throw (.ref a) : Sem Flow) (SP X pins D) X.xe s4) X.xe { s' with heap := h3 } := by
        rw [hf]
        refine HandSPX.setFlight_upZ fl3 fun h4 hh4 up4 => wpAny_throw (tk _ _ ?_)
        exact ⟨a, B, sI, pins, σ', H', cls, d, rfl, J, nb, (up.trans up3).trans up4, .inr (.inr (by rw [hs]; exact hh4)), na, os, ag, hno rfl⟩
      first
        | exact wpAny_bind (wpAny_pure (wpAny_bind fin))
        | exact wpAny_bind fin
  · cases f with
    | next =>
      obtain ⟨σ', H', J', q⟩ := hsp
      exact wpAny_execs_nil ⟨σ', H', J'.ofTry ok, q⟩
    | brk =>
      obtain ⟨σ', H', J', q⟩ := hsp
      exact ⟨σ', H', J'.ofTry ok, q⟩
    | cont =>
      obtain ⟨σ', H', J', q⟩ := hsp
      exact ⟨σ', H', J'.ofTry ok, q⟩
    | ret u =>
      obtain ⟨v, σ', H', J', r, q⟩ := hsp
      exact ⟨v, σ', H', J'.ofTry ok, r, q⟩
end
end Az

/-! repr of data: None, bools, ints, texts, lists and tuples of such, dicts of plain values. -/
namespace Az
open PySem PySem.Spec PyProof.Rows L2
/-- a plain value as data -/
def atomD : V → Option PyData
  | .non => some .none
  | .bl b => some (.bool b)
  | .int i => some (.int i)
  | .str x => some (.str x)
  | _ => none
def keyD : Key → PyData
  | .inl i => .int i
  | .inr x => .str x
/-- data that repr shows -/
inductive Dt (K : PySem.W.Frag) (H : Hp) : V → PyData → Prop
  | of {v : V} {d : PyData} (h : Dp K H v d) (n : d.hasDict = false) : Dt K H v d
  | dct {a : Addr} {kvs : List (Key × V)} {ds : List PyData} (h : H a = some (.dK kvs)) (e : kvs.map (fun kv => atomD kv.2) = ds.map some) : Dt K H (.ref a) (.dict ((kvs.map fun kv => keyD kv.1).zip ds))
theorem atom_reads {h : Heap} {v : V} {u : Value} {d : PyData} (r : RelV v u) (e : atomD v = some d) : Reads h u d [] := by
  cases v with
  | non => cases e; cases r; exact .none
  | bl b => cases e; cases r; exact .bool b
  | int i => cases e; obtain ⟨t, rfl⟩ := r; exact .int i t
  | str x => cases e; obtain ⟨t, rfl⟩ := r; exact .str x t
  | byt b => cases e
  | flt b => cases e
  | ref a => cases e
  | ty n => cases e
theorem key_reads {h : Heap} {k : Key} {u : Value} (e : keyIs k u = true) : Reads h u (keyD k) [] := by
  rcases keyIs_shape e with ⟨i, t, rfl, rfl⟩ | ⟨x, t, rfl, rfl⟩
  · exact .int i t
  · exact .str x t
theorem pairs_reads {P : Program} {w : World} {h : Heap} : ∀ {es : List DictEntry} {vs : List (Key × Value)} {kvs : List (Key × V)} {ds : List PyData}, Pairs (mixKind P w) es vs → KV kvs vs → kvs.map (fun kv => atomD kv.2) = ds.map some →
    ReadsAll h (es.map (·.key)) (((kvs.map fun kv => keyD kv.1).zip ds).map (·.1)) [] ∧ ReadsAll h (es.map (·.val)) (((kvs.map fun kv => keyD kv.1).zip ds).map (·.2)) []
  | _, _, _, [], .nil, .nil, _ => ⟨.nil, .nil⟩
  | _, _, _, _ :: _, .nil, .nil, e => by cases e
  | _, _, _ :: _, [], .cons _ _ _, .cons _ _, e => by cases e
  | e0 :: es, kv :: vs, kv' :: kvs, d :: ds, .cons h1 h2 h3, .cons r rr, e => by
    have e1 : atomD kv'.2 = some d := (List.cons.inj e).1
    have e2 : kvs.map (fun kv => atomD kv.2) = ds.map some := (List.cons.inj e).2
    obtain ⟨a, b⟩ := pairs_reads (h := h) h3 rr e2
    have r1 : Reads h e0.key (keyD kv'.1) [] := key_reads (by rw [r.1]; exact h1)
    have r2 : Reads h e0.val d [] := atom_reads (v := kv'.2) (by rw [h2]; exact r.2) e1
    exact ⟨.cons r1 a, .cons r2 b⟩
section
variable {X : Cx} {pins : List (Addr × Obj)} {σ : L2.St} {H : Hp} {s : Shared}
theorem dt_reads (I : Inv X pins σ H s) {v : V} {u : Value} {d : PyData} (h : Dt X.K H v d) (r : RelV v u) : ∃ as, Reads s.heap u d as ∧ (d.hasDict = true → sysModules ∉ as) := by
  cases h with
  | of h n =>
    obtain ⟨as, q⟩ := Dp.reads I d v u h r
    exact ⟨as, q, PyData.noDict_hsm n⟩
  | @dct a kvs ds h e =>
    cases (show u = Value.ref a from r)
    obtain ⟨_, ns, vs, rv, o, es, ep, ho, hx, hd, _, hp, _⟩ := (show ObjOk X.prog X.w H s.heap a (.dK kvs) from I.hok a _ h)
    obtain ⟨q1, q2⟩ := pairs_reads (h := s.heap) hp rv e
    refine ⟨_, .dict ho hx.1 hd q1 q2, fun _ z => ?_⟩
    simp at z
    rw [z] at ns
    simp at ns
/-- repr(x) -/
def rRep (K : PySem.W.Frag) : List V → Hp → VK → Prop := fun xs H Q => ∃ (x : V) (d : PyData), xs = [x] ∧ Dt K H x d ∧ d.showable = true ∧ d.depth ≤ 20 ∧ d.shown.length ≤ sizeLine ∧ Q (.str d.shown) H
theorem c_rep {k : Nat} (hr : Room k X.A) (hg : X.A.guards = some []) : CallR X (.builtin "repr") (rRep X.K) := by
  intro pins s σ H xs us Q I r h
  obtain ⟨x, d, rfl, hd, hs, hdp, hz, q⟩ := h
  obtain ⟨u, rfl, ru⟩ := vals1 r
  obtain ⟨as, hR, hsm⟩ := dt_reads I hd ru
  have fin : ∀ (tk : Nat) (t : Tok), EP X pins σ Q (.str d.shown t) { s with toks := tk } := fun tk t => ⟨.str d.shown, H, I.tok tk, ⟨t, rfl⟩, q⟩
  cases x with
  | ref a =>
    cases (show u = Value.ref a from ru)
    have hu := hr.units
    refine repr_of_reads' hR hs hsm hg (by omega) (fun _ _ e => e) (fun h' u tk hk => ?_) hz
    exact ⟨.str d.shown, H, I.kept (t' := tk) hk, ⟨u, rfl⟩, q⟩
  | non =>
    cases ru
    cases hd with
    | of h n => cases h; exact PySem.P.repr_of_none (fin _ _)
  | bl b =>
    cases ru
    cases hd with
    | of h n => cases h; exact PySem.P.repr_of_bool (fin _ _)
  | int i =>
    obtain ⟨t, rfl⟩ := ru
    cases hd with
    | of h n => cases h; exact PySem.P.repr_of_int (of_decide_eq_true hs) (fin _ _)
  | str z =>
    obtain ⟨t, rfl⟩ := ru
    cases hd with
    | of h n => cases h; exact PySem.P.repr_of_str (fin _ _) hz
  | byt b => cases hd with | of h n => cases h
  | flt b => cases hd with | of h n => cases h
  | ty n => cases hd with | of h n => cases h
end
end Az

/-! heard: what a lambda hands back, in a list, or the value of its error. -/
namespace Az
open PySem PySem.Spec PyProof.Rows L2 AzX LamX
/-- a wish that is asked of states of the right length alone -/
theorem takes_len {X : Cx} {W : WX} (t : Takes X W) : Takes X (fun c d σ H => σ.length = X.N.length → W c d σ H) := fun u s' ⟨a, B, sI, pins, σ, H, cls, d, e, I, nb, up, sky, na, os, ag, w⟩ =>
  t u s' ⟨a, B, sI, pins, σ, H, cls, d, e, I, nb, up, sky, na, os, ag, w I.len⟩
/-- the facts of an error C that is caught as one of CS -/
structure CatchT (K : PySem.W.Frag) (CS C : Addr) : Prop where
  exm : PySem.W.exmOne K (.ref C) (.ref CS) = some true
  exc : ExcC K C
  xf : XfC K C
/-- data, as it stands in every later heap -/
def DtS (K : PySem.W.Frag) (H : Hp) (v : V) (d : PyData) : Prop := (∀ H', ExtN H H' → Dt K H' v d) ∧ d.showable = true ∧ d.depth ≤ 20 ∧ d.shown.length ≤ sizeLine
theorem DtS.ext {K : PySem.W.Frag} {H H' : Hp} {v : V} {d : PyData} (x : DtS K H v d) (s : ExtN H H') : DtS K H' v d := ⟨fun H2 s2 => x.1 H2 (s.trans s2), x.2⟩
theorem DtS.mono {K : PySem.W.Frag} {H H' : Hp} {v : V} {d : PyData} (x : DtS K H v d) (s : Same H H') : DtS K H' v d := x.ext (.of s)
theorem i_rep {K : PySem.W.Frag} {H : Hp} {Q : VK} {v : V} {d : PyData} (x : DtS K H v d) (k : Q (.str d.shown) H) : rRep K [v] H Q := ⟨v, d, rfl, x.1 H (ExtN.refl H), x.2.1, x.2.2.1, x.2.2.2, k⟩
theorem RatAt.extN {R : Addr} {H H' : Hp} {a : Addr} {p q : Int} (x : RatAt R H a p q) (s : ExtN H H') : RatAt R H' a p q := by
  obtain ⟨⟨dx, h⟩, b, c⟩ := x
  exact ⟨⟨dx, s _ _ h fun _ z => by cases z⟩, b, c⟩
/-- something odd: its type, stable -/
def OddS (H : Hp) (v : V) : Prop := ∀ H', ExtN H H' → ∃ t, tyV H' v = some t ∧ t ∈ oddTys
theorem OddS.ext {H H' : Hp} {v : V} (x : OddS H v) (s : ExtN H H') : OddS H' v := fun H2 s2 => x H2 (s.trans s2)
theorem OddS.nv {R : Addr} {H : Hp} {v : V} (x : OddS H v) : NV R H v none := by
  obtain ⟨t, h, m⟩ := x H (ExtN.refl H)
  exact .odd h m
end Az

/-! Facts of the top as Bools, and the law's end over them. -/
namespace Hz
open PySem PySem.Spec PyProof.Rows L2 He Az AzX
/-- C.m is a staticmethod -/
def smB (K : PySem.W.Frag) (C m : Str) : Bool := (match PySem.W.findCls K (.ref (ga K C)) (.type "type") m with
  | some (.get g a o t) => decide (g = .builtin "staticmethod.__get__") && (decide (a = .ref (ma K (ga K C) m)) && (decide (o = .none) && decide (t = .ref (ga K C))))
  | _ => false) && ((match PySem.W.recIn K (ma K (ga K C) m) "staticmethod" with
  | some (.ref g :: _) => g == sAd K C m
  | _ => false) && PySem.W.keepIn K (.ref (sAd K C m)))
theorem smB_ok {K : PySem.W.Frag} {C m : Str} (h : smB K C m = true) : SMet K (ga K C) (.type "type") m (ma K (ga K C) m) (sAd K C m) := by
  obtain ⟨h1, h⟩ := ba h
  obtain ⟨h2, h3⟩ := ba h
  refine ⟨?_, ?_, h3⟩
  · split at h1
    · rename_i g a o t e
      obtain ⟨a1, h1⟩ := ba h1
      obtain ⟨a2, h1⟩ := ba h1
      obtain ⟨a3, a4⟩ := ba h1
      rw [e, of_decide_eq_true a1, of_decide_eq_true a2, of_decide_eq_true a3, of_decide_eq_true a4]
    · cases h1
  · split at h2
    · rename_i g r e
      exact ⟨r, by rw [e, beq_iff_eq.mp h2]⟩
    · cases h2
def crB (K : PySem.W.Frag) (C : Str) : Bool := PySem.W.readsIn K (ga K C) (.type "type") && decide (PySem.W.specialIn K (.ref (ga K C)) "__getattribute__" = some (some (.builtin "type.__getattribute__")))
theorem crB_ok {K : PySem.W.Frag} {C : Str} (h : crB K C = true) : ClX.CRead K (ga K C) (.type "type") := by
  obtain ⟨h1, h2⟩ := ba h
  exact ⟨h1, of_decide_eq_true h2⟩
def rtB (K : PySem.W.Frag) (x : Str) : Bool := (Fa.cls x).ok K && ((Fa.noat x "over").ok K && ((Fa.noat x "under").ok K && (decide (PySem.W.findIn K (.ref (ga K x)) "__class__" = some (some (.builtin "object.__class__"))) &&
  (decide (PySem.W.specialIn K (.builtin "object.__class__") "__get__" = some (some (.builtin "getset_descriptor.__get__"))) && (decide (PySem.W.takesIn K (.builtin "object.__class__") = some true) && (decide (PySem.W.mroIn K (ga K x) (.type "object") = some true) &&
  (decide (PySem.W.kitOne K (.ref (ga K x)) (.ref (ga K x)) = some true) && (decide (PySem.W.kitOne K (.ref (ga K x)) (.type "int") = some false) && ((("int" :: oddTys).all fun t => decide (PySem.W.kitOne K (.type t) (.ref (ga K x)) = some false)) &&
  ((("int" :: oddTys).all fun t => decide (PySem.W.subIn K (.type t) (.ref (ga K x)) = some false)) && decide (PySem.W.subIn K (.ref (ga K x)) (.type "int") = some false)))))))))))
theorem rtB_ok {K : PySem.W.Frag} {x : Str} (h : rtB K x = true) : RT K (ga K x) := by
  obtain ⟨h1, h⟩ := ba h
  obtain ⟨h2, h⟩ := ba h
  obtain ⟨h3, h⟩ := ba h
  obtain ⟨h4, h⟩ := ba h
  obtain ⟨h5, h⟩ := ba h
  obtain ⟨h6, h⟩ := ba h
  obtain ⟨h7, h⟩ := ba h
  obtain ⟨h8, h⟩ := ba h
  obtain ⟨h9, h⟩ := ba h
  obtain ⟨h10, h⟩ := ba h
  obtain ⟨h11, h12⟩ := ba h
  exact ⟨cls_ok h1, noat_ok h2, noat_ok h3, of_decide_eq_true h4, of_decide_eq_true h5, of_decide_eq_true h6, of_decide_eq_true h7, of_decide_eq_true h8, of_decide_eq_true h9, fun t ht => of_decide_eq_true (List.all_eq_true.mp h10 t ht), fun t ht => of_decide_eq_true (List.all_eq_true.mp h11 t ht), of_decide_eq_true h12⟩
def neB (K : PySem.W.Frag) (x : Str) : Bool := decide (PySem.W.mroIn K (ga K x) (.type "object") = some true) && (decide (PySem.W.findIn K (.ref (ga K x)) "__ne__" = some (some (.builtin "object.__ne__"))) && ((Fa.meth x "__eq__").ok K && decide (PySem.W.subIn K (.ref (ga K x)) (.type "int") = some false)))
theorem neB_ok {K : PySem.W.Frag} {x : Str} (h : neB K x = true) : NeC K (ga K x) (ma K (ga K x) "__eq__") := by
  obtain ⟨h1, h⟩ := ba h
  obtain ⟨h2, h⟩ := ba h
  obtain ⟨h3, h4⟩ := ba h
  have m := meth_ok h3
  exact ⟨of_decide_eq_true h1, of_decide_eq_true h2, m.at_, m.fn, of_decide_eq_true h4⟩
theorem cm_of {K : PySem.W.Frag} {x m : Str} (h : (Fa.meth x m).ok K = true) : CmC K (ga K x) m (ma K (ga K x) m) := ⟨(meth_ok h).at_, (meth_ok h).fn⟩
/-- an own error, raised and caught -/
def catB (K : PySem.W.Frag) (S x : Str) : Bool := decide (PySem.W.exmOne K (.ref (ga K x)) (.ref (ga K S)) = some true) && (xfB K (ga K x) && (decide (PySem.W.findIn K (.ref (ga K x)) "__class__" = some (some (.builtin "object.__class__"))) &&
  (decide (PySem.W.specialIn K (.builtin "object.__class__") "__get__" = some (some (.builtin "getset_descriptor.__get__"))) && (decide (PySem.W.takesIn K (.builtin "object.__class__") = some true) && (decide (PySem.W.mroIn K (ga K x) (.type "object") = some true) &&
  (decide (PySem.W.kitOne K (.ref (ga K x)) (.ref (ga K x)) = some true) && decide (PySem.W.typeIn K (.ref (ga K x)) = some (.type "type"))))))))
theorem catB_ok {K : PySem.W.Frag} {S x : Str} (h : catB K S x = true) : CatchT K (ga K S) (ga K x) ∧ PySem.W.kitOne K (.ref (ga K x)) (.ref (ga K x)) = some true ∧ PySem.W.typeIn K (.ref (ga K x)) = some (.type "type") := by
  obtain ⟨h1, h⟩ := ba h
  obtain ⟨h2, h⟩ := ba h
  obtain ⟨h3, h⟩ := ba h
  obtain ⟨h4, h⟩ := ba h
  obtain ⟨h5, h⟩ := ba h
  obtain ⟨h6, h⟩ := ba h
  obtain ⟨h7, h8⟩ := ba h
  have xf := xfB_ok h2
  exact ⟨⟨of_decide_eq_true h1, ⟨xf.ga, xf.gg, xf.exC, xf.hdC, of_decide_eq_true h3, of_decide_eq_true h4, of_decide_eq_true h5, of_decide_eq_true h6⟩, xf⟩, of_decide_eq_true h7, of_decide_eq_true h8⟩
theorem mOf1 {f : Str} {v : Value} : mOf [f] [v] = fun y => if y = f then some v else none := by
  funext y
  show List.lookup y [(f, v)] = _
  by_cases h : y = f
  · rw [if_pos h, h]; simp [List.lookup]
  · rw [if_neg h]
    have e : (y == f) = false := beq_eq_false_iff_ne.mpr h
    simp [List.lookup, e]
end Hz
namespace Az
open PySem PySem.Spec PyProof.Rows L2 LamX
/-- a law's end: the written part is told by the Hook -/
theorem walk_ofGE {l : PySem.W.OpenLaw} {n k : Nat} {q : Program} {loose : List Str} {XP : (Str → Option Value) → Heap → Prop} {YP : World → Heap → Prop} {d : DefRec} {CX : World → CXT} {x : Str}
    (hn : l.most = some n) (hn2 : n ≤ sizeLine) (hdf : d.params.defaults = []) (hr : Room k callerA)
    (F : ∀ (w : World) (mg : Str → Option Value) (fa : Addr) (h : Heap), YP w h → h.Ns mainGlobals mg → mg d.name = some (.ref fa) → ∃ K : PySem.W.Frag, K.In h ∧ LawAtG l w K (CX w) k n x mg fa h)
    (hCX : ∀ (w : World) (H : Hp) (s : Shared) (e : Value) (s' : Shared), CX w [] H s (fun _ _ _ => False) e s' → False) :
    PySem.W.WalkO q loose XP YP l.row.toRowW d [] (fun f vs => PySem.call f vs) := by
  refine Att.attach_callB hn hdf fun w s₀ s₁ mg mb fa o pm cd doc a vs ns G Y ho hd hcd hmg hobj hints hlen hbits hg => ?_
  obtain ⟨K, KX, fd, cs, sp, hT, nT, C, hb, hsp, hF⟩ := F w mg fa _ Y G.T.g hmg
  exact law_callG KX G.T.g G.T.b G.T.builtins G.T.nolimit hg hT nT C G.T.bmain hobj hints (Nat.le_trans hlen hn2) hr hF hb (fun H hH hS => hsp H a ns hlen hbits hH hS) fun H e s' => hCX w H s₁ e s'
end Az

/-! The head's Hook over a written list of addresses. -/
namespace Hz
open PySem PySem.Spec PyProof.Rows L2 He
def obsL (as : List Addr) (fz : List DefZ) (tf : List Defn) (ex : PySem.W.Frag → List Bool) (g : Addr → Option Obj) : AlZ := obsK g fz tf ex (frT g as)
theorem says_ofL {as : List Addr} {fz : List DefZ} {tf : List Defn} {ex : PySem.W.Frag → List Bool} {h : Heap} (e : obsL as fz tf ex h.get? = valZ fz) : Says fz tf ex h (frT h.get? as) := by
  obtain ⟨K, hK⟩ : ∃ K, K = frT h.get? as := ⟨_, rfl⟩
  unfold obsL obsK at e
  rw [← hK] at e ⊢
  have e1 := congrArg (fun z : AlZ => z.1) e
  have e2 := congrArg (fun z : AlZ => z.2) e
  dsimp only [valZ] at e1 e2
  obtain ⟨h1, h2⟩ := ba e2
  obtain ⟨h2, h5⟩ := ba h2
  have key : ∀ p ∈ tf, PySem.W.codeHdIn K (cT K p).1 (cT K p).2 = true ∧ ∃ o, h.get? (cT K p).2 = some o ∧ emptyTab o = true := fun p hp => by
    obtain ⟨h3, h4⟩ := ba (List.all_eq_true.mp h5 p hp)
    refine ⟨h3, ?_⟩
    cases q : h.get? (cT K p).2 with
    | none => rw [q] at h4; cases h4
    | some o => rw [q] at h4; exact ⟨o, rfl, h4⟩
  refine ⟨e1, fun d hd => List.all_eq_true.mp h1 d hd, fun b hb => List.all_eq_true.mp h2 b hb, fun p hp => (key p hp).1, fun p hp => ?_, fun p hp => ?_⟩
  · obtain ⟨_, o, q, z⟩ := key p hp
    rw [hK] at q ⊢
    exact frT_none q z
  · obtain ⟨_, o, q, z⟩ := key p hp
    rw [q, emptyTab_eq z]
def hookL (as : List Addr) (fz : List DefZ) (tf : List Defn) (ex : PySem.W.Frag → List Bool) : PySem.W.Hook where
  α := AlZ
  obs := fun s => obsL as fz tf ex s.heap.get?
  val := fun _ => valZ fz
  says := fun _ h => ∃ K : PySem.W.Frag, K.In h ∧ Says fz tf ex h K
  of := fun _ _ e => ⟨_, frT_in, says_ofL e⟩
  keeps := fun _ _ _ ⟨K, hK, c⟩ k => ⟨K, PySem.W.Frag.In.keeps hK k, ⟨c.val, c.ok, c.more, c.hd, c.out, fun p hp => k _ _ (c.empty p hp)⟩⟩
theorem obsL_eq {as : List Addr} {fz : List DefZ} {tf : List Defn} {ex : PySem.W.Frag → List Bool} {g : Addr → Option Obj} {s : Shared} (h : ∀ a, g a = s.heap.get? a) : obsL as fz tf ex g = (hookL as fz tf ex).obs s := by
  have e : g = s.heap.get? := funext h
  rw [e] <;> rfl
end Hz

/-! Order of fractions by cross products. -/
namespace Az
open PySem PySem.Spec PyProof.Rows L2 AzX
theorem shd_pos {a b : Int} (hb : 0 < b) : 0 < shd a b := by
  have g := gcd_pos_of (o := a) (u := b) (Int.ne_of_gt hb)
  unfold shd
  rw [if_pos hb]
  omega
theorem cross_of {a b c d : Int} (hb : 0 < b) (hd : 0 < d) : ∃ G : Int, 0 < G ∧ a * d = (rO a b * rU c d) * G ∧ c * b = (rO c d * rU a b) * G := by
  have h1 := rO_mul (o := a) (u := b) (Int.ne_of_gt hb)
  have h2 := rU_mul (o := a) (u := b) (Int.ne_of_gt hb)
  have h3 := rO_mul (o := c) (u := d) (Int.ne_of_gt hd)
  have h4 := rU_mul (o := c) (u := d) (Int.ne_of_gt hd)
  refine ⟨shd a b * shd c d, Int.mul_pos (shd_pos hb) (shd_pos hd), ?_, ?_⟩
  · calc a * d = (rO a b * shd a b) * (rU c d * shd c d) := by rw [h1, h4]
      _ = (rO a b * rU c d) * (shd a b * shd c d) := by rw [Int.mul_assoc, Int.mul_assoc, ← Int.mul_assoc (shd a b), Int.mul_comm (shd a b) (rU c d), Int.mul_assoc]
  · calc c * b = (rO c d * shd c d) * (rU a b * shd a b) := by rw [h3, h2]
      _ = (rO c d * rU a b) * (shd a b * shd c d) := by rw [Int.mul_assoc, Int.mul_assoc, ← Int.mul_assoc (shd c d), Int.mul_comm (shd c d) (rU a b), Int.mul_assoc, Int.mul_comm (shd c d)]
theorem mul_lt_iff {x y G : Int} (h : 0 < G) : x < y ↔ x * G < y * G := ⟨fun z => Int.mul_lt_mul_of_pos_right z h, fun z => Int.lt_of_mul_lt_mul_right z (Int.le_of_lt h)⟩
section
variable {a b c d : Int}
theorem lt_cross (hb : 0 < b) (hd : 0 < d) : rO a b * rU c d < rO c d * rU a b ↔ a * d < c * b := by
  obtain ⟨G, h, e1, e2⟩ := cross_of (a := a) (c := c) hb hd
  rw [e1, e2]
  exact mul_lt_iff h
theorem gt_cross (hb : 0 < b) (hd : 0 < d) : rO a b * rU c d > rO c d * rU a b ↔ a * d > c * b := by
  obtain ⟨G, h, e1, e2⟩ := cross_of (a := a) (c := c) hb hd
  rw [e1, e2]
  exact mul_lt_iff h
theorem eq_cross (hb : 0 < b) (hd : 0 < d) : (rO a b = rO c d ∧ rU a b = rU c d) ↔ a * d = c * b := by
  obtain ⟨G, h, e1, e2⟩ := cross_of (a := a) (c := c) hb hd
  constructor
  · rintro ⟨h1, h2⟩
    rw [e1, e2, h1, h2]
  · intro e
    rw [e1, e2] at e
    have e3 := Int.eq_of_mul_eq_mul_right (Int.ne_of_gt h) e
    exact low_one (rU_pos (Int.ne_of_gt hb)) (rU_pos (Int.ne_of_gt hd)) (r_cop (Int.ne_of_gt hb)) (r_cop (Int.ne_of_gt hd)) e3
end
theorem one_r (i : Int) : rO i 1 = i ∧ rU i 1 = 1 := ⟨rO_one i, rU_one i⟩
theorem dlt {a b c d : Int} (hb : 0 < b) (hd : 0 < d) : decide (rO a b * rU c d < rO c d * rU a b) = decide (a * d < c * b) := decide_eq_decide.mpr (lt_cross hb hd)
theorem dgt {a b c d : Int} (hb : 0 < b) (hd : 0 < d) : decide (rO a b * rU c d > rO c d * rU a b) = decide (a * d > c * b) := decide_eq_decide.mpr (gt_cross hb hd)
theorem dle {a b c d : Int} (hb : 0 < b) (hd : 0 < d) : (!decide (rO a b * rU c d > rO c d * rU a b)) = decide (a * d ≤ c * b) := by
  rw [dgt hb hd, ← decide_not]
  exact decide_eq_decide.mpr (by omega)
theorem dge {a b c d : Int} (hb : 0 < b) (hd : 0 < d) : (!decide (rO a b * rU c d < rO c d * rU a b)) = decide (a * d ≥ c * b) := by
  rw [dlt hb hd, ← decide_not]
  exact decide_eq_decide.mpr (by omega)
theorem deq {a b c d : Int} (hb : 0 < b) (hd : 0 < d) : decide (rO a b = rO c d ∧ rU a b = rU c d) = decide (V.int (a * d) = V.int (c * b)) :=
  decide_eq_decide.mpr ((eq_cross hb hd).trans ⟨fun h => by rw [h], fun h => by injection h⟩)
/-- the ratio of a / b: at x -/
def RatOf (R : Addr) (H : Hp) (x : Addr) (a b : Int) : Prop := RatAt R H x (rO a b) (rU a b) ∧ 0 < b
/-- what stands for a / b: an integer or a ratio -/
inductive NumOf (R : Addr) (H : Hp) : V → Int → Int → Prop
  | int (i : Int) : NumOf R H (.int i) i 1
  | rat {x : Addr} {a b : Int} (h : RatOf R H x a b) : NumOf R H (.ref x) a b
theorem NumOf.pos {R : Addr} {H : Hp} {v : V} {a b : Int} (x : NumOf R H v a b) : 0 < b := by
  cases x with
  | int i => decide
  | rat h => exact h.2
theorem NumOf.nv {R : Addr} {H : Hp} {v : V} {a b : Int} (x : NumOf R H v a b) : NV R H v (some (rO a b, rU a b)) := by
  cases x with
  | int => rw [rO_one, rU_one]; exact .int _
  | rat h => exact .rat h.1
theorem NumOf.mono {R : Addr} {H H' : Hp} {v : V} {a b : Int} (x : NumOf R H v a b) (s : Same H H') : NumOf R H' v a b := by
  cases x with
  | int => exact .int _
  | rat h => exact .rat ⟨h.1.mono s, h.2⟩
theorem RatOf.mono {R : Addr} {H H' : Hp} {x : Addr} {a b : Int} (h : RatOf R H x a b) (s : Same H H') : RatOf R H' x a b := ⟨h.1.mono s, h.2⟩
def Sm (x : Int) : Prop := x.natAbs < 2 ^ 1900
theorem smal_rO {a b : Int} (hb : 0 < b) (h : Sm a) : Smal (rO a b) := Nat.lt_of_le_of_lt (rO_le (Int.ne_of_gt hb)) (Nat.lt_of_lt_of_le h (Nat.pow_le_pow_right (by decide) (by decide)))
theorem smal_rU {a b : Int} (hb : 0 < b) (h : Sm b) : Smal (rU a b) := Nat.lt_of_le_of_lt (rU_le (Int.ne_of_gt hb)) (Nat.lt_of_lt_of_le h (Nat.pow_le_pow_right (by decide) (by decide)))
theorem bt_of {x : Int} (h : x.natAbs < 2 ^ 1900) : Bt x := Nat.lt_of_lt_of_le (PySem.Flt.log2_lt_of (by decide) h) (by decide)
theorem bt_rO {a b : Int} (hb : 0 < b) (h : Sm a) : Bt (rO a b) := bt_of (Nat.lt_of_le_of_lt (rO_le (Int.ne_of_gt hb)) h)
theorem bt_rU {a b : Int} (hb : 0 < b) (h : Sm b) : Bt (rU a b) := bt_of (Nat.lt_of_le_of_lt (rU_le (Int.ne_of_gt hb)) h)
section
variable {K : PySem.W.Frag} {R CB : Addr} {H : Hp} {v : V} {E : XK} {Q : VK} {x : Addr} {a b c d : Int}
theorem u_cmp {g : Int → Int → Int → Int → Bool} {r : Bool} (T : RT K R) (rx : RatOf R H x a b) (nv : NumOf R H v c d) (s1 : Sm a) (s2 : Sm b) (s3 : Sm c) (s4 : Sm d) (e : g (rO a b) (rU a b) (rO c d) (rU c d) = r) (k : ∀ H', Same H H' → Q (.bl r) H') : rCmp K R (spCmp R CB g) E (.ref x) v H Q :=
  i_cmp T rx.1 nv.nv ⟨x, _, _, v, _, rfl, rx.1, nv.nv, smal_rO rx.2 s1, smal_rU rx.2 s2, smal_rO nv.pos s3, smal_rU nv.pos s4, fun H' z => by rw [e]; exact k H' z⟩
theorem u_eq {r : Bool} (T : RT K R) (rx : RatOf R H x a b) (nv : NumOf R H v c d) (e : decide (V.int (a * d) = V.int (c * b)) = r) (k : ∀ H', Same H H' → Q (.bl r) H') : rCmp K R (spEq R) E (.ref x) v H Q :=
  i_cmp T rx.1 nv.nv ⟨x, _, _, v, _, rfl, rx.1, nv.nv, fun H' z => by rw [deq rx.2 nv.pos, e]; exact k H' z⟩
theorem u_ne {r : Bool} (T : RT K R) (rx : RatOf R H x a b) (nv : NumOf R H v c d) (e : (!decide (V.int (a * d) = V.int (c * b))) = r) (k : ∀ H', Same H H' → Q (.bl r) H') : rNeO K R (spEq R) E (.ref x) v H Q :=
  i_neO T rx.1 nv.nv ⟨x, _, _, v, _, rfl, rx.1, nv.nv, fun H' z => ⟨_, rfl, by rw [deq rx.2 nv.pos, e]; exact k H' z⟩⟩
/-- == with what is no number -/
theorem u_eqN (T : RT K R) (rx : RatOf R H x a b) (nv : NV R H v none) (k : ∀ H', Same H H' → Q (.bl false) H') : rCmp K R (spEq R) E (.ref x) v H Q := i_cmp T rx.1 nv ⟨x, _, _, v, _, rfl, rx.1, nv, k⟩
theorem u_neN (T : RT K R) (rx : RatOf R H x a b) (nv : NV R H v none) (k : ∀ H', Same H H' → Q (.bl true) H') : rNeO K R (spEq R) E (.ref x) v H Q := i_neO T rx.1 nv ⟨x, _, _, v, _, rfl, rx.1, nv, fun H' z => ⟨_, rfl, k H' z⟩⟩
theorem u_cmpR {g : Int → Int → Int → Int → Bool} {r : Bool} {i : Int} (rx : RatOf R H x a b) (s1 : Sm a) (s2 : Sm b) (s3 : Sm i) (e : g (rO a b) (rU a b) (rO i 1) (rU i 1) = r) (k : ∀ H', Same H H' → Q (.bl r) H') : rOwnR R (spCmp R CB g) E (.int i) (.ref x) H Q :=
  i_ownR rx.1 ⟨x, _, _, _, _, rfl, rx.1, (NumOf.int i).nv, smal_rO rx.2 s1, smal_rU rx.2 s2, smal_rO (by decide) s3, smal_rU (by decide) (show Sm 1 by unfold Sm; decide +kernel), fun H' z => by rw [e]; exact k H' z⟩
theorem u_eqR {r : Bool} {i : Int} (rx : RatOf R H x a b) (e : decide (V.int (a * 1) = V.int (i * b)) = r) (k : ∀ H', Same H H' → Q (.bl r) H') : rOwnR R (spEq R) E (.int i) (.ref x) H Q :=
  i_ownR rx.1 ⟨x, _, _, _, _, rfl, rx.1, (NumOf.int i).nv, fun H' z => by rw [deq rx.2 (by decide), e]; exact k H' z⟩
theorem u_neR {r : Bool} {i : Int} (rx : RatOf R H x a b) (e : (!decide (V.int (a * 1) = V.int (i * b))) = r) (k : ∀ H', Same H H' → Q (.bl r) H') : rNeR R (spEq R) E (.int i) (.ref x) H Q :=
  i_neR rx.1 ⟨x, _, _, _, _, rfl, rx.1, (NumOf.int i).nv, fun H' z => ⟨_, rfl, by rw [deq rx.2 (by decide), e]; exact k H' z⟩⟩
theorem u_new (hb : 0 < b) (h : Sm b) (k : ∀ x H', Same H H' → RatOf R H' x a b → Q (.ref x) H') : ∀ x dx, H x = none → H dx = none → dx ≠ x →
    spIni R CB [.ref x, .int a, .int b] (upd (upd H dx (.own x)) x (.ins R dx [])) (fun v H2 => v = .non ∧ Q (.ref x) H2) E := new_rat (Int.ne_of_gt hb) (Nat.lt_of_lt_of_le h (Nat.pow_le_pow_right (by decide) (by decide))) fun x H' z ra => k x H' z ⟨ra, hb⟩
end
/-! floor and ceiling -/
theorem fdiv_b {p q : Int} (hq : 0 < q) : p.fdiv q * q ≤ p ∧ p < (p.fdiv q + 1) * q := by
  have h := Int.mul_fdiv_add_fmod p q
  have h1 := Int.fmod_nonneg_of_pos p hq
  have h2 := Int.fmod_lt_of_pos p hq
  have e : (p.fdiv q + 1) * q = q * p.fdiv q + q := by rw [Int.add_mul, Int.one_mul, Int.mul_comm]
  rw [e, Int.mul_comm (p.fdiv q) q]
  omega
theorem floor_b {a b : Int} (hb : 0 < b) : (rO a b).fdiv (rU a b) * b ≤ a ∧ a < ((rO a b).fdiv (rU a b) + 1) * b := by
  have h1 := rO_mul (o := a) (u := b) (Int.ne_of_gt hb)
  have h2 := rU_mul (o := a) (u := b) (Int.ne_of_gt hb)
  have g := shd_pos (a := a) hb
  obtain ⟨f1, f2⟩ := fdiv_b (p := rO a b) (q := rU a b) (rU_pos (Int.ne_of_gt hb))
  generalize (rO a b).fdiv (rU a b) = f at f1 f2
  constructor
  · have := Int.mul_le_mul_of_nonneg_right f1 (Int.le_of_lt g)
    rw [Int.mul_assoc, h2, h1] at this
    exact this
  · have := Int.mul_lt_mul_of_pos_right f2 g
    rw [Int.mul_assoc, h2, h1] at this
    exact this
theorem ceil_b {a b : Int} (hb : 0 < b) : (-((-(rO a b)).fdiv (rU a b)) - 1) * b < a ∧ a ≤ -((-(rO a b)).fdiv (rU a b)) * b := by
  have h1 := rO_mul (o := a) (u := b) (Int.ne_of_gt hb)
  have h2 := rU_mul (o := a) (u := b) (Int.ne_of_gt hb)
  have g := shd_pos (a := a) hb
  obtain ⟨f1, f2⟩ := fdiv_b (p := -(rO a b)) (q := rU a b) (rU_pos (Int.ne_of_gt hb))
  generalize (-(rO a b)).fdiv (rU a b) = f at f1 f2
  have f1 := Int.mul_le_mul_of_nonneg_right f1 (Int.le_of_lt g)
  have f2 := Int.mul_lt_mul_of_pos_right f2 g
  rw [Int.mul_assoc, h2, Int.neg_mul, h1] at f1 f2
  have e1 : (-f - 1) * b = -((f + 1) * b) := by rw [← Int.neg_mul]; congr 1; omega
  have e2 : -f * b = -(f * b) := Int.neg_mul f b
  rw [e1, e2]
  omega
theorem rO_ne {a b : Int} (hb : 0 < b) : (rO a b != 0) = !decide (V.int a = V.int 0) := by
  have h1 := rO_mul (o := a) (u := b) (Int.ne_of_gt hb)
  have g := shd_pos (a := a) hb
  by_cases e : a = 0
  · have z : rO a b = 0 := by
      rw [e] at h1
      rcases Int.mul_eq_zero.mp h1 with h | h
      · rw [e]; exact h
      · rw [e] at g; omega
    rw [z, e]
    rfl
  · have z : rO a b ≠ 0 := fun h => e (by rw [← h1, h, Int.zero_mul])
    have z2 : (V.int a = V.int 0) ↔ False := ⟨fun h => e (by injection h), fun h => h.elim⟩
    simp [z, z2]
theorem i_mulS {H : Hp} {Q : VK} {i j : Int} (h1 : Sm i) (h2 : Sm j) (k : Q (.int (i * j)) H) : rI CMulW (fun i j => V.int (i * j)) (.int i) (.int j) H Q := i_I (wide_mul (a := 1900) (b := 1900) h1 h2 (by decide) (by decide) (by decide)) k
theorem sm_le {x : Int} {n : Nat} (h : x.natAbs < 2 ^ n) (hn : n ≤ 1900) : Sm x := Nat.lt_of_lt_of_le h (Nat.pow_le_pow_right (by decide) hn)
theorem lt_mul {x y : Int} {n m : Nat} (h1 : x.natAbs < 2 ^ n) (h2 : y.natAbs < 2 ^ m) : (x * y).natAbs < 2 ^ (n + m) := wide_lt h1 h2
theorem lt_add {x y : Int} {n : Nat} (h1 : x.natAbs < 2 ^ n) (h2 : y.natAbs < 2 ^ n) : (x + y).natAbs < 2 ^ (n + 1) := by
  have e : (2 : Nat) ^ (n + 1) = 2 * 2 ^ n := by rw [Nat.pow_succ, Nat.mul_comm]
  rw [e]
  generalize 2 ^ n = N at h1 h2
  omega
theorem lt_up {x : Int} {n m : Nat} (h : x.natAbs < 2 ^ n) (hn : n ≤ m) : x.natAbs < 2 ^ m := Nat.lt_of_lt_of_le h (Nat.pow_le_pow_right (by decide) hn)
theorem fdiv_abs {p q : Int} (hq : 0 < q) : (p.fdiv q).natAbs ≤ p.natAbs := by
  rw [Int.fdiv_eq_ediv_of_nonneg p (Int.le_of_lt hq)]
  exact Int.natAbs_ediv_le_natAbs p q
theorem floor_abs {a b : Int} (hb : 0 < b) : ((rO a b).fdiv (rU a b)).natAbs ≤ a.natAbs := Nat.le_trans (fdiv_abs (rU_pos (Int.ne_of_gt hb))) (rO_le (Int.ne_of_gt hb))
theorem ceil_abs {a b : Int} (hb : 0 < b) : (-((-(rO a b)).fdiv (rU a b))).natAbs ≤ a.natAbs := by
  rw [Int.natAbs_neg]
  refine Nat.le_trans (fdiv_abs (rU_pos (Int.ne_of_gt hb))) ?_
  rw [Int.natAbs_neg]
  exact rO_le (Int.ne_of_gt hb)
section
variable {a b i : Int}
theorem dlt1 (hb : 0 < b) : decide (rO a b * rU i 1 < rO i 1 * rU a b) = decide (a < i * b) := (dlt hb (by decide)).trans (by rw [Int.mul_one])
theorem dgt1 (hb : 0 < b) : decide (rO a b * rU i 1 > rO i 1 * rU a b) = decide (a > i * b) := (dgt hb (by decide)).trans (by rw [Int.mul_one])
theorem dle1 (hb : 0 < b) : (!decide (rO a b * rU i 1 > rO i 1 * rU a b)) = decide (a ≤ i * b) := (dle hb (by decide)).trans (by rw [Int.mul_one])
theorem dge1 (hb : 0 < b) : (!decide (rO a b * rU i 1 < rO i 1 * rU a b)) = decide (a ≥ i * b) := (dge hb (by decide)).trans (by rw [Int.mul_one])
theorem rlt1 (hb : 0 < b) : decide (rO a b * rU i 1 > rO i 1 * rU a b) = decide (i * b < a) := (dgt1 hb).trans (decide_eq_decide.mpr Iff.rfl)
theorem rgt1 (hb : 0 < b) : decide (rO a b * rU i 1 < rO i 1 * rU a b) = decide (i * b > a) := (dlt1 hb).trans (decide_eq_decide.mpr Iff.rfl)
theorem rle1 (hb : 0 < b) : (!decide (rO a b * rU i 1 < rO i 1 * rU a b)) = decide (i * b ≤ a) := (dge1 hb).trans (decide_eq_decide.mpr Iff.rfl)
theorem rge1 (hb : 0 < b) : (!decide (rO a b * rU i 1 > rO i 1 * rU a b)) = decide (i * b ≥ a) := (dle1 hb).trans (decide_eq_decide.mpr Iff.rfl)
theorem sm1 : Sm 1 := by unfold Sm; decide +kernel
end
/-- a new instance, made: Q of it -/
def kMk (C : Addr) (sp : Sp) (dvs : List V) (E : XK) (Q : VK) (vs : List V) (H1 : Hp) : Prop := ∀ x dx, H1 x = none → H1 dx = none → dx ≠ x → sp (.ref x :: (vs ++ dvs)) (upd (upd H1 dx (.own x)) x (.ins C dx [])) (fun v H2 => v = .non ∧ Q (.ref x) H2) E
theorem i_mkK {C : Addr} {sp : Sp} {dvs : List V} {E : XK} {t : TA} {σ : L2.St} {H : Hp} {Q : VK} (k : t σ H (kMk C sp dvs E Q)) : tMake C sp dvs E t σ H Q := k
section
variable {R CB : Addr} {H : Hp} {E : XK} {Q : VK} {a b : Int}
theorem u_rat (hb : 0 < b) (h : Sm b) (k : ∀ x H', Same H H' → RatOf R H' x a b → Q (.ref x) H') : kMk R (spIni R CB) [] E Q [.int a, .int b] H := u_new hb h k
theorem u_rat1 (k : ∀ x H', Same H H' → RatOf R H' x a 1 → Q (.ref x) H') : kMk R (spIni R CB) [.int 1] E Q [.int a] H := u_new (b := 1) (by decide) (by unfold Sm; decide +kernel) k
end
end Az

/-! The pen: what draws. -/
namespace Az
open PySem L2
/-- the pen at a: its cells at c, at most n of them drawn -/
structure Pen (H : Hp) (a c : Addr) (cs : List Int) (n : Int) : Prop where
  at_ : ∃ spot great : Int, H a = some (.lst [.ref c, .int spot, .int great]) ∧ 0 ≤ spot ∧ spot ≤ n ∧ 0 ≤ great
  cells : H c = some (.lst (cs.map V.int))
  len : cs.length ≤ 60
theorem Pen.ne {H : Hp} {a c : Addr} {cs : List Int} {n : Int} (p : Pen H a c cs n) : c ≠ a := by
  obtain ⟨⟨s, g, h, _⟩, h2, _⟩ := p
  refine ne_of h2 h ?_
  intro z
  cases cs with
  | nil => cases z
  | cons x r => cases z
def spPen (K : PySem.W.Frag) : Sp := fun vs H Q _ => ∃ (s : Addr) (ns : List Int), vs = [.ref s] ∧ SqL K H s (ns.map V.int) ∧
  ∀ (a c : Addr) (cs : List Int) (H' : Hp), H a = none → H c = none → Same H H' → Pen H' a c cs 0 → Q (.ref a) H'
def spDraw : Sp := fun vs H Q _ => ∃ (a c : Addr) (cs : List Int) (n many : Int), vs = [.ref a, .int many] ∧ Pen H a c cs n ∧ n ≤ 100000 ∧ 0 < many ∧ many < 1000000 ∧
  ∀ (r : Int) (H' : Hp), 0 ≤ r → r < many → Ext a H H' → Pen H' a c cs (n + 1) → Q (.int r) H'
def spPick : Sp := fun vs H Q _ => ∃ (a c : Addr) (cs : List Int) (n : Int) (l : Addr) (xs : List V), vs = [.ref a, .ref l] ∧ Pen H a c cs n ∧ n ≤ 100000 ∧ H l = some (.lst xs) ∧ l ≠ a ∧ xs ≠ [] ∧ xs.length < 1000 ∧
  ∀ (j : Nat) (x : V) (H' : Hp), xs[j]? = some x → Ext a H H' → Pen H' a c cs (n + 1) → Q x H'
theorem cut60 (xs : List V) : cutV xs none (some 60) = xs.take 60 := by
  unfold cutV
  show (xs.drop (HT.sIx xs.length 0 none)).take (HT.sIx xs.length xs.length (some 60) - HT.sIx xs.length 0 none) = _
  have e0 : HT.sIx xs.length 0 none = 0 := rfl
  have e1 : HT.sIx xs.length xs.length (some 60) = min 60 xs.length := by
    simp [HT.sIx]
  rw [e0, e1]
  simp
theorem Pen.mono {H H' : Hp} {a c : Addr} {cs : List Int} {n n' : Int} (p : Pen H a c cs n) (s : Same H H') (h : n ≤ n') : Pen H' a c cs n' := by
  obtain ⟨⟨x, y, e, h0, h1, h2⟩, q, l⟩ := p
  exact ⟨⟨x, y, s _ _ e, h0, by omega, h2⟩, s _ _ q, l⟩
theorem Pen.le {H : Hp} {a c : Addr} {cs : List Int} {n n' : Int} (p : Pen H a c cs n) (h : n ≤ n') : Pen H a c cs n' := p.mono (Same.refl H) h
theorem new_ne {H H1 : Hp} {a p : Addr} {o : HO} (s : Same H H1) (h : H a = some o) (hp : H1 p = none) : p ≠ a := fun e => by subst e; rw [s _ _ h] at hp; cases hp
/-- an object that is no such list stays when the pen is moved -/
theorem ext_at {H H' : Hp} {a c b : Addr} {cs : List Int} {n : Int} {o : HO} (e : Ext a H H') (p : Pen H a c cs n) (h : H b = some o) (ho : ∀ xs, o ≠ .lst xs) : H' b = some o := by
  obtain ⟨⟨x, y, z, _⟩, _⟩ := p
  refine e _ _ h fun q => ?_
  subst q
  rw [z] at h
  exact ho _ (Option.some.inj h).symm
theorem ext_tup {H H' : Hp} {a c b : Addr} {cs : List Int} {n : Int} {xs : List V} (e : Ext a H H') (p : Pen H a c cs n) (h : H b = some (.tup xs)) : H' b = some (.tup xs) := ext_at e p h fun _ z => by cases z
def spLInt : Sp := fun vs H Q _ => ∃ (a c : Addr) (cs : List Int) (n : Int), vs = [.ref a] ∧ Pen H a c cs n ∧ n ≤ 90000 ∧ ∀ (i : Int) (H' : Hp), i.natAbs < 2 ^ 128 → Ext a H H' → Pen H' a c cs (n + 3) → Q (.int i) H'
def spLPair : Sp := fun vs H Q _ => ∃ (a c : Addr) (cs : List Int) (n : Int), vs = [.ref a] ∧ Pen H a c cs n ∧ n ≤ 90000 ∧ ∀ (i j : Int) (t : Addr) (H' : Hp), i.natAbs < 2 ^ 128 → 0 < j → j.natAbs < 2 ^ 128 → Ext a H H' → Pen H' a c cs (n + 6) → H' t = some (.tup [.int i, .int j]) → t ≠ a → Q (.ref t) H'
end Az

/-! More readings. -/
namespace Az
open PySem PySem.Spec PyProof.Rows L2 AzX
open LamX (ExtN)
section
variable {σ : L2.St} {H H1 : Hp} {Q : VK} {v x y : V} {i j : Int} {a p : Addr} {K : PySem.W.Frag}
theorem i_gTup {n : Nat} {t : TGs} {xs : List V} {R : L2.St → Hp → Prop} (h : H p = some (.tup xs)) (hl : xs.length = n) (k : t xs σ H R) : gTup K n t (.ref p) σ H R := ⟨p, xs, rfl, SqT.of h, hl, k⟩
theorem i_gCons {t : TG} {u : TGs} {vr : List V} {R : L2.St → Hp → Prop} (k : t v σ H fun σ' H' => u vr σ' H' R) : gCons t u (v :: vr) σ H R := ⟨v, vr, rfl, k⟩
theorem i_gNil {R : L2.St → Hp → Prop} (k : R σ H) : gNil [] σ H R := ⟨rfl, k⟩
theorem i_chain {r r' : R2} {ta tb tc : TE} (k : ta σ H fun x H1 => tb σ H1 fun y H2 => r x y H2 fun z H3 => ∃ k, z = .bl k ∧ (if k = true then tc σ H3 fun w' H4 => r' y w' H4 Q else Q (.bl false) H3)) : tChain r r' ta tb tc σ H Q := k
theorem i_par {m n : Nat} {ta : TA} {D : Ends} (k : ta σ H fun vs H1 => ∃ v w, vs = [v, w] ∧ D.nx ((σ.set m (some v)).set n (some w)) H1) : tPar m n ta D σ H := k
theorem i_two {R : V → V → Prop} (k : R x y) : ∃ v w, [x, y] = [v, w] ∧ R v w := ⟨x, y, rfl, k⟩
theorem i_par3 {m n l : Nat} {ta : TA} {D : Ends} (k : ta σ H fun vs H1 => ∃ u v w, vs = [u, v, w] ∧ D.nx (((σ.set m (some u)).set n (some v)).set l (some w)) H1) : tPar3 m n l ta D σ H := k
theorem i_three {R : V → V → V → Prop} (k : R v x y) : ∃ u v' w, [v, x, y] = [u, v', w] ∧ R u v' w := ⟨v, x, y, rfl, k⟩
theorem same_get {b : Addr} {o : HO} (s : Same H H1) (h : H b = some o) : H1 b = some o := s _ _ h
theorem ext_get {b : Addr} {o : HO} (s : Ext a H H1) (h : H b = some o) (n : b ≠ a) : H1 b = some o := s _ _ h n
end
/-- data of plain values -/
inductive PlD : V → PyData → Prop
  | non : PlD .non .none
  | bl (b : Bool) : PlD (.bl b) (.bool b)
  | int (i : Int) : PlD (.int i) (.int i)
  | str (x : Str) : PlD (.str x) (.str x)
inductive PlAll : List V → List PyData → Prop
  | nil : PlAll [] []
  | cons {v : V} {vs : List V} {d : PyData} {ds : List PyData} : PlD v d → PlAll vs ds → PlAll (v :: vs) (d :: ds)
theorem PlD.dp {K : PySem.W.Frag} {H : Hp} {v : V} {d : PyData} (x : PlD v d) : Dp K H v d := by
  cases x <;> constructor
theorem PlAll.dp {K : PySem.W.Frag} {H : Hp} {vs : List V} {ds : List PyData} (x : PlAll vs ds) : DpAll K H vs ds := by
  induction x with
  | nil => exact .nil
  | cons h _ ih => exact .cons h.dp ih
theorem dts_lst {K : PySem.W.Frag} {H : Hp} {a : Addr} {xs : List V} {ds : List PyData} (h : H a = some (.lst xs)) (p : PlAll xs ds) (h1 : (PyData.list ds).hasDict = false) (h2 : (PyData.list ds).showable = true) (h3 : (PyData.list ds).depth ≤ 20) (h4 : (PyData.list ds).shown.length ≤ sizeLine) : DtS K H (.ref a) (.list ds) :=
  ⟨fun H' s => .of (.lst (SqL.of (s _ _ h fun _ z => by cases z)) p.dp) h1, h2, h3, h4⟩
theorem dts_tup {K : PySem.W.Frag} {H : Hp} {a : Addr} {xs : List V} {ds : List PyData} (h : H a = some (.tup xs)) (p : PlAll xs ds) (h1 : (PyData.tuple ds).hasDict = false) (h2 : (PyData.tuple ds).showable = true) (h3 : (PyData.tuple ds).depth ≤ 20) (h4 : (PyData.tuple ds).shown.length ≤ sizeLine) : DtS K H (.ref a) (.tuple ds) :=
  ⟨fun H' s => .of (.tup (SqT.of (s _ _ h fun _ z => by cases z)) p.dp) h1, h2, h3, h4⟩
theorem dts_pl {K : PySem.W.Frag} {H : Hp} {v : V} {d : PyData} (p : PlD v d) (h1 : d.hasDict = false) (h2 : d.showable = true) (h3 : d.depth ≤ 20) (h4 : d.shown.length ≤ sizeLine) : DtS K H v d := ⟨fun _ _ => .of p.dp h1, h2, h3, h4⟩
theorem lenB1 : ∀ b0 : Bool, Nat.ble (PyData.list [.bool b0]).shown.length 16777216 = true := by decide +kernel
theorem dts_b1 {K : PySem.W.Frag} {H : Hp} {a : Addr} {b0 : Bool} (h : H a = some (.lst [.bl b0])) : DtS K H (.ref a) (.list [.bool b0]) := dts_lst h (.cons (.bl _) (.nil)) rfl rfl (Nat.le_of_ble_eq_true rfl) (size_ok (lenB1 b0))
theorem lenB5 : ∀ b0 b1 b2 b3 b4 : Bool, Nat.ble (PyData.list [.bool b0, .bool b1, .bool b2, .bool b3, .bool b4]).shown.length 16777216 = true := by decide +kernel
theorem dts_b5 {K : PySem.W.Frag} {H : Hp} {a : Addr} {b0 b1 b2 b3 b4 : Bool} (h : H a = some (.lst [.bl b0, .bl b1, .bl b2, .bl b3, .bl b4])) : DtS K H (.ref a) (.list [.bool b0, .bool b1, .bool b2, .bool b3, .bool b4]) := dts_lst h (.cons (.bl _) (.cons (.bl _) (.cons (.bl _) (.cons (.bl _) (.cons (.bl _) (.nil)))))) rfl rfl (Nat.le_of_ble_eq_true rfl) (size_ok (lenB5 b0 b1 b2 b3 b4))
theorem lenB6 : ∀ b0 b1 b2 b3 b4 b5 : Bool, Nat.ble (PyData.list [.bool b0, .bool b1, .bool b2, .bool b3, .bool b4, .bool b5]).shown.length 16777216 = true := by decide +kernel
theorem dts_b6 {K : PySem.W.Frag} {H : Hp} {a : Addr} {b0 b1 b2 b3 b4 b5 : Bool} (h : H a = some (.lst [.bl b0, .bl b1, .bl b2, .bl b3, .bl b4, .bl b5])) : DtS K H (.ref a) (.list [.bool b0, .bool b1, .bool b2, .bool b3, .bool b4, .bool b5]) := dts_lst h (.cons (.bl _) (.cons (.bl _) (.cons (.bl _) (.cons (.bl _) (.cons (.bl _) (.cons (.bl _) (.nil))))))) rfl rfl (Nat.le_of_ble_eq_true rfl) (size_ok (lenB6 b0 b1 b2 b3 b4 b5))
theorem lenB : ∀ b : Bool, Nat.ble (PyData.bool b).shown.length 16777216 = true := by decide +kernel
theorem dts_b {K : PySem.W.Frag} {H : Hp} {b : Bool} : DtS K H (.bl b) (.bool b) := dts_pl (.bl b) rfl rfl (Nat.le_of_ble_eq_true rfl) (size_ok (lenB b))
theorem dts_dict {K : PySem.W.Frag} {H : Hp} {a : Addr} (h : H a = some (.dK [])) : DtS K H (.ref a) (.dict []) := ⟨fun H' s => .dct (kvs := []) (ds := []) (s _ _ h fun _ z => by cases z) rfl, rfl, Nat.le_of_ble_eq_true rfl, size_ok (by decide +kernel)⟩
theorem odd_lst {H : Hp} {a : Addr} {xs : List V} (h : H a = some (.lst xs)) : OddS H (.ref a) := fun H' s => ⟨"list", by simp [tyV, s _ _ h fun _ z => by cases z], by simp [oddTys]⟩
theorem odd_tup {H : Hp} {a : Addr} {xs : List V} (h : H a = some (.tup xs)) : OddS H (.ref a) := fun H' s => ⟨"tuple", by simp [tyV, s _ _ h fun _ z => by cases z], by simp [oddTys]⟩
theorem odd_dict {H : Hp} {a : Addr} {xs : List (Key × V)} (h : H a = some (.dK xs)) : OddS H (.ref a) := fun H' s => ⟨"dict", by simp [tyV, s _ _ h fun _ z => by cases z], by simp [oddTys]⟩
theorem odd_non {H : Hp} : OddS H .non := fun H' s => ⟨"NoneType", rfl, by simp [oddTys]⟩
theorem odd_str {H : Hp} {x : Str} : OddS H (.str x) := fun H' s => ⟨"str", rfl, by simp [oddTys]⟩
theorem odd_bl {H : Hp} {x : Bool} : OddS H (.bl x) := fun H' s => ⟨"bool", rfl, by simp [oddTys]⟩
theorem dts_non {K : PySem.W.Frag} {H : Hp} : DtS K H .non .none := dts_pl .non rfl rfl (Nat.le_of_ble_eq_true rfl) (size_ok (by decide +kernel))
/-- something odd that repr shows -/
def OddD (K : PySem.W.Frag) (H : Hp) (v : V) : Prop := OddS H v ∧ ∃ d, DtS K H v d
/-- the pen moved: what it is not stays -/
theorem Pen.extN {H H' : Hp} {a c : Addr} {cs : List Int} {n : Int} (p : Pen H a c cs n) (s : LamX.ExtN H H') : Pen H' a c cs n := by
  obtain ⟨⟨x, y, e, h0, h1, h2⟩, q, l⟩ := p
  exact ⟨⟨x, y, s _ _ e (fun _ z => (by cases z)), h0, h1, h2⟩, s _ _ q (fun _ z => (by cases z)), l⟩
end Az

/-! Defs that make lambdas. -/
namespace Az
open PySem PySem.Spec PyProof.Rows L2 AzX LamX Hz He
section
variable {P : Program} {w : World} {K : PySem.W.Frag} {mg : Str → Option Value} {base : Heap}
/-- a def whose code object is told -/
theorem okGC {x : Str} {d : DefZ} {fd : FuncData} {N ps : List Str} {k : Nat} {sp : Sp} (hat : d.at_ = .g x) (F : FnP K d fd) (hd : d.dfl = []) (S : FnScope N ps (defScope d.st)) (len : ∀ vs H Q E, sp vs H Q E → vs.length = ps.length)
    (hbody : ∀ (A : Around) (outer : List Env) (s : Shared) (H : Hp) (vs : List V) (Q : VK) (E : XK), Room k (A.deeper (envOfC d.qual (defScope d.st) s.heap.objs.size (d.at_.ad K) (.ref (cT K (x, none)).1))) → A.guards = some [] → sp vs H Q E →
      ∃ t, PSs (cxOf CX0 P w K mg base N d.qual (defScope d.st) (d.at_.ad K) (.ref (cT K (x, none)).1) A outer s H E).nox (defBody d.st) t ∧ t { nx := fun _ H' => Q .non H', rt := Q } (start N vs) H) : FnG P w K mg base CX0 (k + 1) (d.at_.ad K) fd ps sp := by
  obtain ⟨oc, od, kV, doc, pm, an, cdv, ct, osl, rfl, lk, hcd⟩ := (fun_of F hd).ex
  obtain ⟨c, rfl⟩ := codeIn_ref hcd
  have e : (cT K (x, none)).1 = c := by
    refine codeOf_eq (p := (x, none)) (K := K) (by
      show K.lookup (ga K x) = _
      have z : d.at_.ad K = ga K x := by rw [hat]; rfl
      rw [← z]
      exact lk) rfl
  rw [e] at hbody
  refine fn_ofG lk hcd S len fun A outer s H vs Q E hr hg hsp => ?_
  obtain ⟨t, h, q⟩ := hbody A outer s H vs Q E hr hg hsp
  exact ⟨t, h.nox, q⟩
end
section
variable {K : PySem.W.Frag} {T : List (Addr × Str)} {t : XK → TE} {σ : L2.St} {H : Hp} {Q : VK}
theorem tabs_same {H' : Hp} (h : Tabs T H) (s : Same H H') : Tabs T H' := h.ext s
/-- a table is no other thing -/
theorem ne_tab {a : Addr} {q : Str} {o : HO} {P : Addr} (h : Tabs T H) (m : (P, q) ∈ T) (ha : H a = some o) (ho : ∀ ps, o ≠ .tbl ps) : P ≠ a := by
  obtain ⟨ps, h1, _⟩ := h _ m
  intro e
  rw [← e, h1] at ha
  exact ho ps (Option.some.inj ha).symm
/-- what is written over another object leaves the tables -/
theorem Tabs.put {a : Addr} {o o' : HO} (h : Tabs T H) (ha : H a = some o) (ho : ∀ ps, o ≠ .tbl ps) (hc : ∀ c q, o ≠ CodeO c q) : Tabs T (upd H a o') := fun p hp => by
  obtain ⟨ps, h1, h2, h3⟩ := h p hp
  have n1 : p.1 ≠ a := fun e => by rw [e, ha] at h1; exact ho ps (Option.some.inj h1)
  refine ⟨ps, by rw [upd_ne n1]; exact h1, h2, fun pos cv hcv => ?_⟩
  obtain ⟨c, e1, e2⟩ := h3 pos cv hcv
  have n2 : c ≠ a := fun e => by rw [e, ha] at e2; exact hc _ _ (Option.some.inj e2)
  exact ⟨c, e1, by rw [upd_ne n2]; exact e2⟩
end
end Az
namespace Az
open PySem PySem.Spec PyProof.Rows L2 AzX LamX
theorem RatOf.extP {R : Addr} {H H' : Hp} {a c x : Addr} {cs : List Int} {n : Int} {p q : Int} (r : RatOf R H x p q) (e : Ext a H H') (P : Pen H a c cs n) : RatOf R H' x p q := by
  obtain ⟨⟨⟨dx, h⟩, b, c⟩, d⟩ := r
  exact ⟨⟨⟨dx, ext_at e P h fun _ z => by cases z⟩, b, c⟩, d⟩
theorem RatOf.extN {R : Addr} {H H' : Hp} {x : Addr} {p q : Int} (r : RatOf R H x p q) (e : ExtN H H') : RatOf R H' x p q := ⟨r.1.extN e, r.2⟩
theorem Tabs.extP {T : List (Addr × Str)} {H H' : Hp} {a c : Addr} {cs : List Int} {n : Int} (t : Tabs T H) (e : Ext a H H') (P : Pen H a c cs n) : Tabs T H' := fun p hp => by
  obtain ⟨ps, h1, h2, h3⟩ := t p hp
  refine ⟨ps, ext_at e P h1 (fun _ z => by cases z), h2, fun pos cv hcv => ?_⟩
  obtain ⟨c, e1, e2⟩ := h3 pos cv hcv
  exact ⟨c, e1, ext_at e P e2 (fun _ z => by unfold CodeO at z; cases z)⟩
end Az
namespace Az
open PySem PySem.Spec PyProof.Rows L2 AzX LamX
theorem extN_put {H H6 Hc : Hp} {l : Addr} {o : HO} (e : ExtN H Hc) (e6 : ExtN H H6) (hl : H6 l = none) : ExtN H (upd Hc l o) := fun b u h n => by
  have hb : b ≠ l := ne_of_none (e6 b u h n) hl
  rw [upd_ne hb]
  exact e b u h n
theorem i_bm {K : PySem.W.Frag} {T : String} {r : V → List V → Hp → VK → Prop} {ta : TE} {t : TA} {σ : L2.St} {H : Hp} {Q : VK} (k : ta σ H fun x H1 => L2.tyV K T x H1 ∧ t σ H1 fun vs H2 => r x vs H2 Q) : tBM K T r ta t σ H Q := k
end Az
namespace Az
open PySem L2
theorem size_lt {n : Nat} (h : Nat.ble (n + 1) 16777216 = true) : n < sizeLine := by rw [sizeLine_eq]; exact Nat.le_of_ble_eq_true h
end Az
namespace Az
open PySem L2
theorem shp4 {z x : Str} (hz : PyData.strOk z = true) (hx : PyData.strOk x = true) : SeqAt.shaped (.list [.tuple [.str z, .str x], .tuple [.str z, .str x], .tuple [.str z, .str x], .tuple [.str z, .str x]]) = true := by simp [SeqAt.shaped, PyData.canLay0, PyData.canLayAll0, PyData.depth, PyData.depthAll, hz, hx]
theorem eqv4 {z x : Str} (hz : PyData.strOk z = true) (hx : PyData.strOk x = true) : PyData.eqv (.list [.tuple [.str z, .str x], .tuple [.str z, .str x], .tuple [.str z, .str x], .tuple [.str z, .str x]]) (.list [.tuple [.str z, .str x], .tuple [.str z, .str x], .tuple [.str z, .str x], .tuple [.str z, .str x]]) = true := SeqAt.eqv_refl _ (by simp [PyData.canLay0, PyData.canLayAll0, hz, hx])
end Az
namespace Az
open PySem PySem.Spec PyProof.Rows L2 AzX
def tNotR (r : V → Hp → (Bool → Hp → Prop) → Prop) (ta : TE) : TE := fun σ H Q => ta σ H fun x H1 => r x H1 fun c H2 => Q (.bl (!c)) H2
/-- not x by truth -/
theorem pe_notTr {X : Cx} {a : Expr} {ta : TE} {pos : Pos} {r : V → Hp → (Bool → Hp → Prop) → Prop} (tr : TruR X r) (ha : PE X a ta) : PE X (.UnaryOp .Not a pos) (tNotR r ta) := by
  refine ⟨fun pins s σ H Q I h => ?_⟩
  refine UnaryOp_ (thn (ha.run pins s σ H _ I h) fun v s1 ⟨x, H1, I1, r1, q1⟩ => ?_)
  exact not_of (thn (tr pins s1 σ H1 x v (fun c H2 => Q (.bl (!c)) H2) I1 r1 q1) fun c s2 ⟨H2, I2, q2⟩ => ⟨.bl (!c), H2, I2, rfl, q2⟩)
theorem i_notR {r : V → Hp → (Bool → Hp → Prop) → Prop} {ta : TE} {σ : L2.St} {H : Hp} {Q : VK} (k : ta σ H fun x H1 => r x H1 fun c H2 => Q (.bl (!c)) H2) : tNotR r ta σ H Q := k
end Az

/-! Trees of values over the hand layer: what is never changed is a tree, what is changed stands in a small heap of its own; readings over trees. -/
namespace Mz
open PySem PySem.Spec PyProof.Rows L2 AzX ClX LamX Hz He Az
/-- a value as a tree -/
inductive D where
  | non | bl (b : Bool) | int (i : Int) | str (x : Str) | ty (n : String) | ref (a : Addr)
  | tup (ds : List D) | lst (ds : List D) | wls (ds : List D) | dict (kvs : List (Key × D)) | ins (c : String) (fs : List (Str × D)) | exc (c : String) (fs : List (Str × D))
/-- what may change -/
inductive MO where
  | lst (ds : List D) | ins (c : String) (fs : List (Str × D)) | dict (kvs : List (Key × D))
abbrev MS := Addr → Option MO
def put (μ : MS) (a : Addr) (o : MO) : MS := fun b => if b = a then some o else μ b
def del (μ : MS) (a : Addr) : MS := fun b => if b = a then none else μ b
theorem put_same {μ : MS} {a : Addr} {o : MO} : put μ a o a = some o := by unfold put; rw [if_pos rfl]
theorem put_ne {μ : MS} {a b : Addr} {o : MO} (h : b ≠ a) : put μ a o b = μ b := by unfold put; rw [if_neg h]
theorem del_same {μ : MS} {a : Addr} : del μ a a = none := by unfold del; rw [if_pos rfl]
theorem del_ne {μ : MS} {a b : Addr} (h : b ≠ a) : del μ a b = μ b := by unfold del; rw [if_neg h]
abbrev MX := String → List (Str × D) → MS → Prop
abbrev MEnv := List (Option D)
abbrev FE := MEnv → MS → (D → MS → Prop) → MX → Prop
abbrev FT := MEnv → MS → (Bool → MS → Prop) → MX → Prop
abbrev FA := MEnv → MS → (List D → MS → Prop) → MX → Prop
abbrev FM := List D → MS → (D → MS → Prop) → MX → Prop
abbrev M2 := D → D → MS → (D → MS → Prop) → MX → Prop
abbrev M1 := D → MS → (D → MS → Prop) → MX → Prop
structure En where
  nx : MEnv → MS → Prop
  rt : D → MS → Prop
  ex : MX
  bk : MEnv → MS → Prop := fun _ _ => False
  ct : MEnv → MS → Prop := fun _ _ => False
abbrev FS := En → MEnv → MS → Prop
/-- the address of the class named so -/
abbrev ca (K : PySem.W.Frag) (c : String) : Addr := ga K (c : Str)
/-- a tuple, laid or written -/
def TuA (K : PySem.W.Frag) (P : Hp) (a : Addr) (vs : List V) : Prop := P a = some (.tup vs) ∨
    ∃ (o : Obj) (its : Array Value) (n : Nat), K.lookup a = some o ∧ o.cls = .type "tuple" ∧ o.data = .seq its n ∧ its.size ≤ sizeLine ∧ Vals vs its.toList
theorem TuA.sq {K : PySem.W.Frag} {P H : Hp} {a : Addr} {vs : List V} (s : Same P H) (h : TuA K P a vs) : SqT K H a vs := h.imp (fun h => .inl (s _ _ h)) id
theorem TuA.same {K : PySem.W.Frag} {P H : Hp} {a : Addr} {vs : List V} (s : Same P H) (h : TuA K P a vs) : TuA K H a vs := h.imp (fun h => s _ _ h) id
mutual
inductive Rep (K : PySem.W.Frag) (P : Hp) : V → D → Prop
  | non : Rep K P .non .non
  | bl (b : Bool) : Rep K P (.bl b) (.bl b)
  | int (i : Int) : Rep K P (.int i) (.int i)
  | str (x : Str) : Rep K P (.str x) (.str x)
  | ty (n : String) : Rep K P (.ty n) (.ty n)
  | ref (a : Addr) : Rep K P (.ref a) (.ref a)
  | tup {a : Addr} {vs : List V} {ds : List D} (h : TuA K P a vs) (r : Reps K P vs ds) : Rep K P (.ref a) (.tup ds)
  | lst {a : Addr} {vs : List V} {ds : List D} (h : P a = some (.lst vs)) (r : Reps K P vs ds) : Rep K P (.ref a) (.lst ds)
  | wls {a : Addr} {vs : List V} {ds : List D} (h : SqL K P a vs) (r : Reps K P vs ds) : Rep K P (.ref a) (.wls ds)
  | dict {a : Addr} {vs : List (Key × V)} {ds : List (Key × D)} (h : P a = some (.dK vs)) (e : vs.map (·.1) = ds.map (·.1)) (r : Reps K P (vs.map (·.2)) (ds.map (·.2))) : Rep K P (.ref a) (.dict ds)
  | ins {a dx : Addr} {c : String} {vs : List (Str × V)} {ds : List (Str × D)} (h : P a = some (.ins (ca K c) dx vs)) (e : vs.map (·.1) = ds.map (·.1)) (r : Reps K P (vs.map (·.2)) (ds.map (·.2))) : Rep K P (.ref a) (.ins c ds)
  | exc {a dx : Addr} {c : String} {vs : List (Str × V)} {ds : List (Str × D)} (h : P a = some (ExO (ca K c) dx a)) (hd : P dx = some (.xd vs)) (e : vs.map (·.1) = ds.map (·.1)) (r : Reps K P (vs.map (·.2)) (ds.map (·.2))) : Rep K P (.ref a) (.exc c ds)
inductive Reps (K : PySem.W.Frag) (P : Hp) : List V → List D → Prop
  | nil : Reps K P [] []
  | cons {v : V} {d : D} {vs : List V} {ds : List D} (h : Rep K P v d) (t : Reps K P vs ds) : Reps K P (v :: vs) (d :: ds)
end
theorem Rd.same {H H' : Hp} {a : Addr} {u : HO} (s : Same H H') (r : Rd H a u) : Rd H' a u := r.imp (fun h => s _ _ h) fun ⟨o, h⟩ => ⟨o, s _ _ h⟩
theorem SqL.same {K : PySem.W.Frag} {H H' : Hp} {a : Addr} {xs : List V} (s : Same H H') (h : SqL K H a xs) : SqL K H' a xs := h.imp (Rd.same s) id
theorem SqT.same {K : PySem.W.Frag} {H H' : Hp} {a : Addr} {xs : List V} (s : Same H H') (h : SqT K H a xs) : SqT K H' a xs := h.imp (Rd.same s) id
section
variable {K : PySem.W.Frag} {P P' : Hp}
mutual
theorem Rep.mono (s : Same P P') : ∀ {v : V} {d : D}, Rep K P v d → Rep K P' v d
  | _, _, .non => .non
  | _, _, .bl b => .bl b
  | _, _, .int i => .int i
  | _, _, .str x => .str x
  | _, _, .ty n => .ty n
  | _, _, .ref a => .ref a
  | _, _, .tup h r => .tup (TuA.same s h) (Reps.mono s r)
  | _, _, .lst h r => .lst (s _ _ h) (Reps.mono s r)
  | _, _, .wls h r => .wls (SqL.same s h) (Reps.mono s r)
  | _, _, .dict h e r => .dict (s _ _ h) e (Reps.mono s r)
  | _, _, .ins h e r => .ins (s _ _ h) e (Reps.mono s r)
  | _, _, .exc h hd e r => .exc (s _ _ h) (s _ _ hd) e (Reps.mono s r)
theorem Reps.mono (s : Same P P') : ∀ {vs : List V} {ds : List D}, Reps K P vs ds → Reps K P' vs ds
  | _, _, .nil => .nil
  | _, _, .cons h t => .cons (Rep.mono s h) (Reps.mono s t)
end
theorem Reps.length : ∀ {vs : List V} {ds : List D}, Reps K P vs ds → vs.length = ds.length
  | _, _, .nil => rfl
  | _, _, .cons _ t => congrArg (· + 1) (Reps.length t)
theorem Reps.get : ∀ {vs : List V} {ds : List D} {i : Nat} {d : D}, Reps K P vs ds → ds[i]? = some d → ∃ v, vs[i]? = some v ∧ Rep K P v d
  | _, _, _, _, .nil, e => by simp at e
  | _, _, 0, _, .cons h _, e => by simp at e; subst e; exact ⟨_, rfl, h⟩
  | _, _, i + 1, d, .cons _ t, e => by
    obtain ⟨v, h1, h2⟩ := Reps.get (i := i) (d := d) t (by simpa using e)
    exact ⟨v, by simpa using h1, h2⟩
theorem Reps.app : ∀ {vs us : List V} {ds es : List D}, Reps K P vs ds → Reps K P us es → Reps K P (vs ++ us) (ds ++ es)
  | _, _, _, _, .nil, s => s
  | _, _, _, _, .cons h t, s => .cons h (Reps.app t s)
theorem Reps.set {v : V} {d : D} (h : Rep K P v d) : ∀ {vs : List V} {ds : List D} (i : Nat), Reps K P vs ds → Reps K P (vs.set i v) (ds.set i d)
  | _, _, _, .nil => .nil
  | _, _, 0, .cons _ t => .cons h t
  | _, _, i + 1, .cons q t => .cons q (Reps.set h i t)
theorem Reps.drop : ∀ {vs : List V} {ds : List D} (n : Nat), Reps K P vs ds → Reps K P (vs.drop n) (ds.drop n)
  | _, _, 0, r => r
  | _, _, _ + 1, .nil => .nil
  | _, _, n + 1, .cons _ t => Reps.drop n t
theorem Reps.take : ∀ {vs : List V} {ds : List D} (n : Nat), Reps K P vs ds → Reps K P (vs.take n) (ds.take n)
  | _, _, 0, _ => .nil
  | _, _, _ + 1, .nil => .nil
  | _, _, n + 1, .cons h t => .cons h (Reps.take n t)
/-- fields -/
def RepF (K : PySem.W.Frag) (P : Hp) (vs : List (Str × V)) (ds : List (Str × D)) : Prop := vs.map (·.1) = ds.map (·.1) ∧ Reps K P (vs.map (·.2)) (ds.map (·.2))
theorem RepF.mono {vs : List (Str × V)} {ds : List (Str × D)} (s : Same P P') (r : RepF K P vs ds) : RepF K P' vs ds := ⟨r.1, r.2.mono s⟩
theorem RepF.length {vs : List (Str × V)} {ds : List (Str × D)} (r : RepF K P vs ds) : vs.length = ds.length := by simpa using congrArg List.length r.1
theorem RepF.look {f : Str} : ∀ {vs : List (Str × V)} {ds : List (Str × D)} {d : D}, RepF K P vs ds → ds.lookup f = some d → ∃ v, vs.lookup f = some v ∧ Rep K P v d
  | [], [], _, _, e => by cases e
  | [], _ :: _, _, r, _ => by cases r.1
  | _ :: _, [], _, r, _ => by cases r.1
  | (x, v) :: vs, (y, d') :: ds, d, ⟨e, r⟩, l => by
    cases r with
    | cons h t =>
      have e1 : x = y := (List.cons.inj e).1
      have e2 := (List.cons.inj e).2
      subst e1
      simp only [List.lookup_cons] at l ⊢
      cases q : f == x with
      | true => rw [q] at l; cases l; exact ⟨v, rfl, h⟩
      | false => rw [q] at l; exact RepF.look (vs := vs) (ds := ds) ⟨e2, t⟩ l
theorem RepF.none {f : Str} : ∀ {vs : List (Str × V)} {ds : List (Str × D)}, RepF K P vs ds → ds.lookup f = none → vs.lookup f = none
  | [], [], _, _ => rfl
  | [], _ :: _, r, _ => by cases r.1
  | _ :: _, [], r, _ => by cases r.1
  | (x, v) :: vs, (y, d') :: ds, ⟨e, r⟩, l => by
    cases r with
    | cons h t =>
      have e1 : x = y := (List.cons.inj e).1
      have e2 := (List.cons.inj e).2
      subst e1
      simp only [List.lookup_cons] at l ⊢
      cases q : f == x with
      | true => rw [q] at l; cases l
      | false => rw [q] at l; exact RepF.none (vs := vs) (ds := ds) ⟨e2, t⟩ l
/-- stores a field -/
def ptF (f : Str) (d : D) : List (Str × D) → List (Str × D)
  | [] => [(f, d)]
  | (g, e) :: r => if f = g then (g, d) :: r else (g, e) :: ptF f d r
end
/-- reads a field -/
def lkF (f : Str) (fs : List (Str × D)) : Option D := fs.lookup f
def RepO (K : PySem.W.Frag) (P : Hp) : HO → MO → Prop
  | .lst vs, .lst ds => Reps K P vs ds
  | .ins C _ vs, .ins c ds => C = ca K c ∧ RepF K P vs ds
  | .dK vs, .dict ds => vs.map (·.1) = ds.map (·.1) ∧ Reps K P (vs.map (·.2)) (ds.map (·.2))
  | _, _ => False
theorem RepO.mono {K : PySem.W.Frag} {P P' : Hp} {o : HO} {m : MO} (s : Same P P') (r : RepO K P o m) : RepO K P' o m := by
  cases o <;> cases m <;> first | exact r.elim | exact Reps.mono s r | exact ⟨r.1, r.2.mono s⟩
/-- what is fixed: the tables of code objects, what stands below -/
structure Tx where
  tabs : List (Addr × Str)
  low : Hp := fun _ => none
/-- the heap H: the tables T, what never changes (P), what may change (μ), what stays as it is meanwhile (φ) -/
structure Wd (K : PySem.W.Frag) (T : Tx) (P : Hp) (μ : MS) (φ : Hp) (H : Hp) : Prop where
  sub : Same P H
  cel : ∀ a c, μ a = some c → P a = none ∧ ∃ o, H a = some o ∧ RepO K P o c
  tab : Tabs T.tabs H
  tno : ∀ p ∈ T.tabs, P p.1 = none ∧ μ p.1 = none ∧ φ p.1 = none
  low : Same T.low P
  nt : ∀ a o, P a = some o → ∀ ps, o ≠ .tbl ps
  nf : ∀ a o, φ a = some o → ∃ xs, o = .lst xs
  frm : ∀ a o, φ a = some o → H a = some o ∧ P a = none ∧ μ a = none
/-- the names' values, as far as known -/
def REnv (K : PySem.W.Frag) (P : Hp) (σ : L2.St) (ρ : MEnv) : Prop := ρ.length = σ.length ∧ ∀ (i : Nat) (d : D), ρ[i]? = some (some d) → ∃ v, σ[i]? = some (some v) ∧ Rep K P v d
theorem REnv.mono {K : PySem.W.Frag} {P P' : Hp} {σ : L2.St} {ρ : MEnv} (s : Same P P') (r : REnv K P σ ρ) : REnv K P' σ ρ := ⟨r.1, fun i d e => by
  obtain ⟨v, h1, h2⟩ := r.2 i d e
  exact ⟨v, h1, h2.mono s⟩⟩
theorem REnv.set {K : PySem.W.Frag} {P : Hp} {σ : L2.St} {ρ : MEnv} {v : V} {d : D} (r : REnv K P σ ρ) (i : Nat) (h : Rep K P v d) : REnv K P (σ.set i (some v)) (ρ.set i (some d)) := by
  refine ⟨by simp [r.1], fun j e q => ?_⟩
  rw [List.getElem?_set] at q ⊢
  by_cases hj : i = j
  · subst hj
    rw [if_pos rfl] at q ⊢
    rw [r.1] at q
    by_cases hl : i < σ.length
    · rw [if_pos hl] at q ⊢
      cases q
      exact ⟨v, rfl, h⟩
    · rw [if_neg hl] at q
      cases q
  · rw [if_neg hj] at q ⊢
    exact r.2 j e q
theorem REnv.forget {K : PySem.W.Frag} {P : Hp} {σ : L2.St} {ρ : MEnv} (r : REnv K P σ ρ) (i : Nat) (x : Option V) : REnv K P (σ.set i x) (ρ.set i none) := by
  refine ⟨by simp [r.1], fun j e q => ?_⟩
  rw [List.getElem?_set] at q ⊢
  by_cases hj : i = j
  · subst hj
    rw [if_pos rfl] at q
    split at q <;> cases q
  · rw [if_neg hj] at q ⊢
    exact r.2 j e q
section
variable (K : PySem.W.Frag) (T : Tx)
/-- Qm is enough for Q, behind P -/
def Go {α β : Type} (R : Hp → α → β → Prop) (P φ : Hp) (Qm : β → MS → Prop) (Q : α → Hp → Prop) : Prop := ∀ d μ', Qm d μ' → ∀ P' H' v, Same P P' → Wd K T P' μ' φ H' → R P' v d → Q v H'
def GoX (P φ : Hp) (Xm : MX) (E : XK) : Prop := ∀ c fs μ', Xm c fs μ' → ∀ P' H' dd vs, Same P P' → Wd K T P' μ' φ H' → P' dd = some (.xd vs) → RepF K P' vs fs → E (.ref (ca K c)) (some dd) H'
def lE (E : XK) (m : FE) : TE := fun σ H Q => ∃ P μ φ ρ Qm Xm, Wd K T P μ φ H ∧ REnv K P σ ρ ∧ Go K T (Rep K) P φ Qm Q ∧ GoX K T P φ Xm E ∧ m ρ μ Qm Xm
def lT (E : XK) (m : FT) : TT := fun σ H Q => ∃ P μ φ ρ Qm Xm, Wd K T P μ φ H ∧ REnv K P σ ρ ∧ Go K T (fun _ a b => a = b) P φ Qm Q ∧ GoX K T P φ Xm E ∧ m ρ μ Qm Xm
def lA (E : XK) (m : FA) : TA := fun σ H Q => ∃ P μ φ ρ Qm Xm, Wd K T P μ φ H ∧ REnv K P σ ρ ∧ Go K T (Reps K) P φ Qm Q ∧ GoX K T P φ Xm E ∧ m ρ μ Qm Xm
structure GoE (P φ : Hp) (e : En) (D : Ends) (E : XK) : Prop where
  nx : Go K T (REnv K) P φ e.nx D.nx
  rt : Go K T (Rep K) P φ e.rt D.rt
  bk : Go K T (REnv K) P φ e.bk D.bk
  ct : Go K T (REnv K) P φ e.ct D.ct
  ex : GoX K T P φ e.ex E
def lS (E : XK) (m : FS) : TS := fun D σ H => ∃ P μ φ ρ e, Wd K T P μ φ H ∧ REnv K P σ ρ ∧ GoE K T P φ e D E ∧ m e ρ μ
def spM (n : Nat) (f : FM) : Sp := fun vs H Q E => ∃ P μ φ ds Qm Xm, Wd K T P μ φ H ∧ Reps K P vs ds ∧ Go K T (Rep K) P φ Qm Q ∧ GoX K T P φ Xm E ∧ ds.length = n ∧ f ds μ Qm Xm
end
section
variable {K : PySem.W.Frag} {T : Tx} {P P1 φ : Hp} {E : XK}
theorem Go.mono {α β : Type} {R : Hp → α → β → Prop} {Qm : β → MS → Prop} {Q : α → Hp → Prop} (g : Go K T R P φ Qm Q) (s : Same P P1) : Go K T R P1 φ Qm Q := fun d μ h P' H' v s' => g d μ h P' H' v (s.trans s')
theorem GoX.mono {Xm : MX} (g : GoX K T P φ Xm E) (s : Same P P1) : GoX K T P1 φ Xm E := fun c fs μ h P' H' dd vs s' => g c fs μ h P' H' dd vs (s.trans s')
theorem GoE.mono {e : En} {D : Ends} (g : GoE K T P φ e D E) (s : Same P P1) : GoE K T P1 φ e D E := ⟨g.nx.mono s, g.rt.mono s, g.bk.mono s, g.ct.mono s, g.ex.mono s⟩
/-- at once -/
theorem Go.here {α β : Type} {R : Hp → α → β → Prop} {Qm : β → MS → Prop} {Q : α → Hp → Prop} {d : β} {μ : MS} {H : Hp} {v : α} (g : Go K T R P φ Qm Q) (w : Wd K T P μ φ H) (r : R P v d) (h : Qm d μ) : Q v H := g d μ h P H v (Same.refl P) w r
theorem Go.false {α β : Type} {R : Hp → α → β → Prop} {Q : α → Hp → Prop} : Go K T R P φ (fun _ _ => False) Q := fun _ _ h => h.elim
theorem GoX.false : GoX K T P φ (fun _ _ _ => False) E := fun _ _ _ h => h.elim
end
section
variable {X : Cx} {T : Tx} {E : XK}
abbrev PM (X : Cx) (T : Tx) (E : XK) (e : Expr) (m : FE) : Prop := PE X e (lE X.K T E m)
abbrev PTM (X : Cx) (T : Tx) (E : XK) (e : Expr) (m : FT) : Prop := PT X e (lT X.K T E m)
abbrev PAM (X : Cx) (T : Tx) (E : XK) (es : List Expr) (m : FA) : Prop := PA X es (lA X.K T E m)
abbrev PSM (X : Cx) (T : Tx) (E : XK) (st : Stmt) (m : FS) : Prop := PS X st (lS X.K T E m)
abbrev PSsM (X : Cx) (T : Tx) (E : XK) (sts : List Stmt) (m : FS) : Prop := PSs X sts (lS X.K T E m)
theorem PE.imp {e : Expr} {t t' : TE} (h : PE X e t) (i : ∀ σ H Q, t' σ H Q → t σ H Q) : PE X e t' := ⟨fun pins s σ H Q I q => h.run pins s σ H Q I (i σ H Q q)⟩
theorem PT.imp {e : Expr} {t t' : TT} (h : PT X e t) (i : ∀ σ H Q, t' σ H Q → t σ H Q) : PT X e t' := ⟨fun pins s σ H Q I q => h.run pins s σ H Q I (i σ H Q q)⟩
theorem PW.imp {e : Expr} {t t' : TT} (h : PW X e t) (i : ∀ σ H Q, t' σ H Q → t σ H Q) : PW X e t' := ⟨fun wh pins s σ H Q I q => h.run wh pins s σ H Q I (i σ H Q q)⟩
theorem PA.imp {es : List Expr} {t t' : TA} (h : PA X es t) (i : ∀ σ H Q, t' σ H Q → t σ H Q) : PA X es t' := ⟨fun pos pins s σ H Q I q => h.run pos pins s σ H Q I (i σ H Q q)⟩
theorem PS.imp {st : Stmt} {t t' : TS} (h : PS X st t) (i : ∀ D σ H, t' D σ H → t D σ H) : PS X st t' := ⟨fun pins s σ H D I q => h.run pins s σ H D I (i D σ H q)⟩
theorem PSs.imp {sts : List Stmt} {t t' : TS} (h : PSs X sts t) (i : ∀ D σ H, t' D σ H → t D σ H) : PSs X sts t' := ⟨fun pins s σ H D I q => h.run pins s σ H D I (i D σ H q)⟩
end
end Mz

namespace Mz
open PySem PySem.Spec PyProof.Rows L2 AzX ClX LamX Hz He Az
section
variable {X : Cx} {T : Tx} {E : XK} {e a b c : Expr} {es rest : List Expr} {ma mb mc : FE} {pos : Pos}
/-! names, constants -/
def mVar (i : Nat) : FE := fun ρ μ Q _ => match ρ[i]? with
  | some (some d) => Q d μ
  | _ => False
theorem pm_var {i : Nat} {x : Str} (hN : X.N[i]? = some x) (hv : Vis X.env.scope x) (hd : (x == ("__debug__" : Str)) = false := by decide) (hcd : (x == ("__classdict__" : Str)) = false := by decide) : PM X T E (.Name x pos) (mVar i) := by
  refine PE.imp (pe_var hN hv hd hcd) fun σ H Q ⟨P, μ, φ, ρ, Qm, Xm, w, re, gq, gx, h⟩ => ?_
  unfold mVar at h
  split at h
  · rename_i d q
    obtain ⟨v, h1, h2⟩ := re.2 i d q
    exact ⟨v, h1, gq.here w h2 h⟩
  · exact h.elim
def mC (d : D) : FE := fun _ μ Q _ => Q d μ
theorem pm_c {v : V} {d : D} (h : PE X e (tC v)) (r : ∀ P, Rep X.K P v d) : PM X T E e (mC d) :=
  PE.imp h fun σ H Q ⟨P, μ, φ, ρ, Qm, Xm, w, re, gq, gx, h⟩ => gq.here w (r P) h
theorem pm_int {i j pos} : PM X T E (.Constant (.int i) j pos) (mC (.int i)) := pm_c pe_int fun _ => .int _
theorem pm_bl {b j pos} : PM X T E (.Constant (.bool b) j pos) (mC (.bl b)) := pm_c pe_bl fun _ => .bl _
theorem pm_non {j pos} : PM X T E (.Constant .none j pos) (mC .non) := pm_c pe_non fun _ => .non
theorem pm_str {x j pos} : PM X T E (.Constant (.str x) j pos) (mC (.str x)) := pm_c pe_str fun _ => .str _
theorem pm_glob {x : Str} {a : Addr} (hg : Gl X x) (hm : X.mg x = some (.ref a)) (hd : (x == ("__debug__" : Str)) = false := by decide) : PM X T E (.Name x pos) (mC (.ref a)) := pm_c (pe_glob (v := .ref a) hg hm rfl hd) fun _ => .ref _
theorem pm_bltn {x : Str} {n : String} (hg : Gl X x) (hm : X.mg x = none) (hv : bootBuiltins x = some (.type n)) (hn : x ≠ "__name__" := by decide) (hd : (x == ("__debug__" : Str)) = false := by decide) : PM X T E (.Name x pos) (mC (.ty n)) := pm_c (pe_bltn (v := .ty n) hg hm hv rfl hn hd) fun _ => .ty _
/-! operators -/
def OpM (X : Cx) (T : Tx) (E : XK) (f : Value → Value → Sem Value) (m : M2) : Prop :=
  ∃ r : R2, OpR X f r ∧ ∀ P μ φ H x y d1 d2 Qm Xm Q, Wd X.K T P μ φ H → Rep X.K P x d1 → Rep X.K P y d2 → Go X.K T (Rep X.K) P φ Qm Q → GoX X.K T P φ Xm E → m d1 d2 μ Qm Xm → r x y H Q
def UnM (X : Cx) (T : Tx) (E : XK) (f : Value → Sem Value) (m : M1) : Prop :=
  ∃ r : V → Hp → VK → Prop, UnR X f r ∧ ∀ P μ φ H x d1 Qm Xm Q, Wd X.K T P μ φ H → Rep X.K P x d1 → Go X.K T (Rep X.K) P φ Qm Q → GoX X.K T P φ Xm E → m d1 μ Qm Xm → r x H Q
/-- one or the other -/
def mAlt (m1 m2 : M2) : M2 := fun d1 d2 μ Q X => m1 d1 d2 μ Q X ∨ m2 d1 d2 μ Q X
def uAlt (m1 m2 : M1) : M1 := fun d μ Q X => m1 d μ Q X ∨ m2 d μ Q X
theorem OpM.alt {f : Value → Value → Sem Value} {m1 m2 : M2} (h1 : OpM X T E f m1) (h2 : OpM X T E f m2) : OpM X T E f (mAlt m1 m2) := by
  obtain ⟨r1, o1, k1⟩ := h1
  obtain ⟨r2, o2, k2⟩ := h2
  refine ⟨fun x y H Q => r1 x y H Q ∨ r2 x y H Q, fun pins s σ H x y v u Q I rx ry h => h.elim (o1 pins s σ H x y v u Q I rx ry) (o2 pins s σ H x y v u Q I rx ry), fun P μ φ H x y d1 d2 Qm Xm Q w r1 r2 gq gx h => ?_⟩
  exact h.imp (k1 P μ φ H x y d1 d2 Qm Xm Q w r1 r2 gq gx) (k2 P μ φ H x y d1 d2 Qm Xm Q w r1 r2 gq gx)
theorem UnM.alt {f : Value → Sem Value} {m1 m2 : M1} (h1 : UnM X T E f m1) (h2 : UnM X T E f m2) : UnM X T E f (uAlt m1 m2) := by
  obtain ⟨r1, o1, k1⟩ := h1
  obtain ⟨r2, o2, k2⟩ := h2
  refine ⟨fun x H Q => r1 x H Q ∨ r2 x H Q, fun pins s σ H x v Q I rx h => h.elim (o1 pins s σ H x v Q I rx) (o2 pins s σ H x v Q I rx), fun P μ φ H x d1 Qm Xm Q w r1 gq gx h => ?_⟩
  exact h.imp (k1 P μ φ H x d1 Qm Xm Q w r1 gq gx) (k2 P μ φ H x d1 Qm Xm Q w r1 gq gx)
def mOp (m : M2) (ma mb : FE) : FE := fun ρ μ Q Xm => ma ρ μ (fun d1 μ1 => mb ρ μ1 (fun d2 μ2 => m d1 d2 μ2 Q Xm) Xm) Xm
/-- two expressions in a row -/
theorem two_of {σ : L2.St} {H : Hp} {P φ : Hp} {μ : MS} {ρ : MEnv} {K : PySem.W.Frag} {Xm : MX} {R : V → V → Hp → Prop} {k : D → D → MS → Prop} (w : Wd K T P μ φ H) (re : REnv K P σ ρ) (gx : GoX K T P φ Xm E)
    (h : ma ρ μ (fun d1 μ1 => mb ρ μ1 (fun d2 μ2 => k d1 d2 μ2) Xm) Xm)
    (hk : ∀ P' μ' H' x y d1 d2, Same P P' → Wd K T P' μ' φ H' → Rep K P' x d1 → Rep K P' y d2 → k d1 d2 μ' → R x y H') :
    lE K T E ma σ H fun x H1 => lE K T E mb σ H1 fun y H2 => R x y H2 := by
  refine ⟨P, μ, φ, ρ, _, Xm, w, re, fun d1 μ1 h1 P1 H1 x s1 w1 r1 => ?_, gx, h⟩
  refine ⟨P1, μ1, φ, ρ, _, Xm, w1, re.mono s1, fun d2 μ2 h2 P2 H2 y s2 w2 r2 => ?_, gx.mono s1, h1⟩
  exact hk P2 μ2 H2 x y d1 d2 (s1.trans s2) w2 (r1.mono s2) r2 h2
theorem pm_op {op : Operator} {m : M2} (ho : OpM X T E (binaryOp op) m) (ha : PM X T E a ma) (hb : PM X T E b mb) : PM X T E (.BinOp a op b pos) (mOp m ma mb) := by
  obtain ⟨r, hr, k⟩ := ho
  refine PE.imp (pe_op hr ha hb) fun σ H Q ⟨P, μ, φ, ρ, Qm, Xm, w, re, gq, gx, h⟩ => ?_
  exact two_of w re gx h fun P' μ' H' x y d1 d2 s w' r1 r2 h' => k P' μ' φ H' x y d1 d2 Qm Xm Q w' r1 r2 (gq.mono s) (gx.mono s) h'
theorem pm_cmp {op : CmpOp} {m : M2} (ho : OpM X T E (compareOp op) m) (ha : PM X T E a ma) (hb : PM X T E b mb) (hm : behindInMarks op b = false) : PM X T E (.Compare a [op] [b] pos) (mOp m ma mb) := by
  obtain ⟨r, hr, k⟩ := ho
  refine PE.imp (pe_cmpR hr ha hb hm) fun σ H Q ⟨P, μ, φ, ρ, Qm, Xm, w, re, gq, gx, h⟩ => ?_
  exact two_of w re gx h fun P' μ' H' x y d1 d2 s w' r1 r2 h' => k P' μ' φ H' x y d1 d2 Qm Xm Q w' r1 r2 (gq.mono s) (gx.mono s) h'
/-- a test by a bool -/
def mTest (m : FE) : FT := fun ρ μ Q Xm => m ρ μ (fun d μ' => match d with
  | .bl k => Q k μ'
  | _ => False) Xm
theorem test_of {K : PySem.W.Frag} {P φ : Hp} {Qm : Bool → MS → Prop} {Q : Bool → Hp → Prop} (gq : Go K T (fun _ a b => a = b) P φ Qm Q) : Go K T (Rep K) P φ (fun d μ' => match d with
    | .bl k => Qm k μ'
    | _ => False) (fun x H' => ∃ k, x = .bl k ∧ Q k H') := by
  intro d μ' h P' H' v s w r
  split at h
  · rename_i k
    cases r
    exact ⟨k, rfl, gq k μ' h P' H' k s w rfl⟩
  · exact h.elim
theorem ptm_cmp {op : CmpOp} {m : M2} (ho : OpM X T E (compareOp op) m) (ha : PM X T E a ma) (hb : PM X T E b mb) (hm : behindInMarks op b = false) : PTM X T E (.Compare a [op] [b] pos) (mTest (mOp m ma mb)) := by
  obtain ⟨r, hr, k⟩ := ho
  refine PT.imp (pt_cmpR hr ha hb hm) fun σ H Q ⟨P, μ, φ, ρ, Qm, Xm, w, re, gq, gx, h⟩ => ?_
  exact two_of w re gx h fun P' μ' H' x y d1 d2 s w' r1 r2 h' => k P' μ' φ H' x y d1 d2 _ Xm _ w' r1 r2 ((test_of gq).mono s) (gx.mono s) h'
def mChain (m m' : M2) (ma mb mc : FE) : FE := fun ρ μ Q Xm => ma ρ μ (fun d1 μ1 => mb ρ μ1 (fun d2 μ2 => m d1 d2 μ2 (fun z μ3 => match z with
  | .bl true => mc ρ μ3 (fun d3 μ4 => m' d2 d3 μ4 Q Xm) Xm
  | .bl false => Q (.bl false) μ3
  | _ => False) Xm) Xm) Xm
theorem chain_of {m m' : M2} {r r' : R2} {σ : L2.St} {H : Hp} {P φ : Hp} {μ : MS} {ρ : MEnv} {Xm : MX} {Qm : D → MS → Prop} {Q : VK} {K : PySem.W.Frag}
    (k : ∀ P μ φ H x y d1 d2 Qm Xm Q, Wd K T P μ φ H → Rep K P x d1 → Rep K P y d2 → Go K T (Rep K) P φ Qm Q → GoX K T P φ Xm E → m d1 d2 μ Qm Xm → r x y H Q) (k' : ∀ P μ φ H x y d1 d2 Qm Xm Q, Wd K T P μ φ H → Rep K P x d1 → Rep K P y d2 → Go K T (Rep K) P φ Qm Q → GoX K T P φ Xm E → m' d1 d2 μ Qm Xm → r' x y H Q)
    (w : Wd K T P μ φ H) (re : REnv K P σ ρ) (gq : Go K T (Rep K) P φ Qm Q) (gx : GoX K T P φ Xm E) (h : mChain m m' ma mb mc ρ μ Qm Xm) : tChain r r' (lE K T E ma) (lE K T E mb) (lE K T E mc) σ H Q := by
  refine two_of w re gx h fun P' μ' H' x y d1 d2 s w' r1 r2 h' => k P' μ' φ H' x y d1 d2 _ Xm _ w' r1 r2 (fun z μ3 hz P3 H3 v s3 w3 r3 => ?_) (gx.mono s) h'
  split at hz
  · cases r3
    refine ⟨true, rfl, ?_⟩
    rw [if_pos rfl]
    refine ⟨P3, μ3, φ, ρ, _, Xm, w3, re.mono (s.trans s3), fun d3 μ4 h4 P4 H4 x4 s4 w4 r4 => ?_, gx.mono (s.trans s3), hz⟩
    exact k' P4 μ4 φ H4 y x4 d2 d3 Qm Xm Q w4 (r2.mono (s3.trans s4)) r4 (gq.mono ((s.trans s3).trans s4)) (gx.mono ((s.trans s3).trans s4)) h4
  · cases r3
    refine ⟨false, rfl, ?_⟩
    rw [if_neg (by decide)]
    exact gq _ _ hz P3 H3 _ (s.trans s3) w3 (.bl _)
  · exact hz.elim
theorem pm_chain {op op' : CmpOp} {m m' : M2} (ho : OpM X T E (compareOp op) m) (ho' : OpM X T E (compareOp op') m') (ha : PM X T E a ma) (hb : PM X T E b mb) (hc : PM X T E c mc) (hm : lastMarks [op, op'] [b, c] = false := by with_unfolding_all rfl) : PM X T E (.Compare a [op, op'] [b, c] pos) (mChain m m' ma mb mc) := by
  obtain ⟨r, hr, k⟩ := ho
  obtain ⟨r', hr', k'⟩ := ho'
  exact PE.imp (pe_chain hr hr' ha hb hc hm) fun σ H Q ⟨P, μ, φ, ρ, Qm, Xm, w, re, gq, gx, h⟩ => chain_of k k' w re gq gx h
theorem ptm_chain {op op' : CmpOp} {m m' : M2} (ho : OpM X T E (compareOp op) m) (ho' : OpM X T E (compareOp op') m') (ha : PM X T E a ma) (hb : PM X T E b mb) (hc : PM X T E c mc) (hm : lastMarks [op, op'] [b, c] = false := by with_unfolding_all rfl) : PTM X T E (.Compare a [op, op'] [b, c] pos) (mTest (mChain m m' ma mb mc)) := by
  obtain ⟨r, hr, k⟩ := ho
  obtain ⟨r', hr', k'⟩ := ho'
  exact PT.imp (pt_chain hr hr' ha hb hc hm) fun σ H Q ⟨P, μ, φ, ρ, Qm, Xm, w, re, gq, gx, h⟩ => chain_of (Q := fun x H' => ∃ k, x = .bl k ∧ Q k H') k k' w re (test_of gq) gx h
def mUn (m : M1) (ma : FE) : FE := fun ρ μ Q Xm => ma ρ μ (fun d μ1 => m d μ1 Q Xm) Xm
theorem pm_un {op : UnaryOp} {m : M1} (ho : UnM X T E (unaryOp op) m) (ha : PM X T E a ma) : PM X T E (.UnaryOp op a pos) (mUn m ma) := by
  obtain ⟨r, hr, k⟩ := ho
  refine PE.imp (pe_un hr ha) fun σ H Q ⟨P, μ, φ, ρ, Qm, Xm, w, re, gq, gx, h⟩ => ?_
  exact ⟨P, μ, φ, ρ, _, Xm, w, re, fun d1 μ1 h1 P1 H1 x s1 w1 r1 => k P1 μ1 φ H1 x d1 Qm Xm Q w1 r1 (gq.mono s1) (gx.mono s1) h1, gx, h⟩
/-! truth -/
def TruM (X : Cx) (T : Tx) (E : XK) (m : D → MS → (Bool → MS → Prop) → MX → Prop) : Prop :=
  ∃ r : V → Hp → (Bool → Hp → Prop) → Prop, TruR X r ∧ ∀ P μ φ H x d1 Qm Xm Q, Wd X.K T P μ φ H → Rep X.K P x d1 → Go X.K T (fun _ a b => a = b) P φ Qm Q → GoX X.K T P φ Xm E → m d1 μ Qm Xm → r x H Q
/-- the truth of what has no method for it -/
def dTru (d : D) (μ : MS) : Option Bool := match d with
  | .non => some false
  | .bl b => some b
  | .int i => some (i != 0)
  | .str y => if y.length ≤ sizeLine then some ((y.length : Int) != 0) else none
  | .tup ds => some (!ds.isEmpty)
  | .lst ds => some (!ds.isEmpty)
  | .wls ds => some (!ds.isEmpty)
  | .dict ds => some (!ds.isEmpty)
  | .ref a => match μ a with
    | some (.lst ds) => some (!ds.isEmpty)
    | some (.dict ds) => some (!ds.isEmpty)
    | _ => none
  | _ => none
def mTru : D → MS → (Bool → MS → Prop) → MX → Prop := fun d μ Q _ => match dTru d μ with
  | some b => Q b μ
  | none => False
theorem emp_of {K : PySem.W.Frag} {P : Hp} {vs : List V} {ds : List D} (r : Reps K P vs ds) : vs.isEmpty = ds.isEmpty := by cases r <;> rfl
theorem emp_kv {K : PySem.W.Frag} {P : Hp} {vs : List (Key × V)} {ds : List (Key × D)} (e : vs.map (·.1) = ds.map (·.1)) : vs.isEmpty = ds.isEmpty := by
  have := congrArg List.isEmpty e
  simpa using this
theorem truV_of {K : PySem.W.Frag} {P φ : Hp} {μ : MS} {H : Hp} {x : V} {d : D} {b : Bool} (w : Wd K T P μ φ H) (r : Rep K P x d) (h : dTru d μ = some b) : TruV K x H b := by
  cases r with
  | non => cases h; rfl
  | bl b => cases h; rfl
  | int i => cases h; rfl
  | str y =>
    have h : (if y.length ≤ sizeLine then some ((y.length : Int) != 0) else none) = some b := h
    by_cases q : y.length ≤ sizeLine
    · rw [if_pos q] at h; cases h; exact ⟨q, rfl⟩
    · rw [if_neg q] at h; cases h
  | ty n => cases h
  | tup h1 r => cases h; exact .inr (.inl ⟨_, TuA.sq w.sub h1, by rw [emp_of r]⟩)
  | lst h1 r => cases h; exact .inl ⟨_, SqL.of (w.sub _ _ h1), by rw [emp_of r]⟩
  | wls h1 r => cases h; exact .inl ⟨_, SqL.same w.sub h1, by rw [emp_of r]⟩
  | dict h1 e r => cases h; exact .inr (.inr ⟨_, w.sub _ _ h1, by rw [emp_kv (K := K) (P := P) e]⟩)
  | ins h1 e r => cases h
  | exc h1 hd e r => cases h
  | ref a =>
    unfold dTru at h
    dsimp only at h
    split at h
    · rename_i ds q
      cases h
      obtain ⟨_, o, ho, ro⟩ := w.cel a _ q
      cases o with
      | lst vs => exact .inl ⟨_, SqL.of ho, by rw [emp_of (show Reps K P vs ds from ro)]⟩
      | _ => exact (show False from ro).elim
    · rename_i ds q
      cases h
      obtain ⟨_, o, ho, ro⟩ := w.cel a _ q
      cases o with
      | dK vs => exact .inr (.inr ⟨_, ho, by rw [emp_kv (K := K) (P := P) (show _ ∧ _ from ro).1]⟩)
      | _ => exact (show False from ro).elim
    · cases h
theorem tm_tru : TruM X T E mTru := by
  refine ⟨_, tru_ok, fun P μ φ H x d1 Qm Xm Q w r gq gx h => ?_⟩
  unfold mTru at h
  split at h
  · rename_i b q
    exact ⟨b, truV_of w r q, gq.here w rfl h⟩
  · exact h.elim
def tAlt (m1 m2 : D → MS → (Bool → MS → Prop) → MX → Prop) : D → MS → (Bool → MS → Prop) → MX → Prop := fun d μ Q X => m1 d μ Q X ∨ m2 d μ Q X
theorem TruM.alt {m1 m2 : D → MS → (Bool → MS → Prop) → MX → Prop} (h1 : TruM X T E m1) (h2 : TruM X T E m2) : TruM X T E (tAlt m1 m2) := by
  obtain ⟨r1, o1, k1⟩ := h1
  obtain ⟨r2, o2, k2⟩ := h2
  refine ⟨fun x H Q => r1 x H Q ∨ r2 x H Q, fun pins s σ H x v Q I rx h => h.elim (o1 pins s σ H x v Q I rx) (o2 pins s σ H x v Q I rx), fun P μ φ H x d1 Qm Xm Q w r1 gq gx h => ?_⟩
  exact h.imp (k1 P μ φ H x d1 Qm Xm Q w r1 gq gx) (k2 P μ φ H x d1 Qm Xm Q w r1 gq gx)
def mTr (m : D → MS → (Bool → MS → Prop) → MX → Prop) (ma : FE) : FT := fun ρ μ Q Xm => ma ρ μ (fun d μ1 => m d μ1 Q Xm) Xm
theorem ptm_tru {m : D → MS → (Bool → MS → Prop) → MX → Prop} (tr : TruM X T E m) (ha : PM X T E a ma) (he : ∀ whole, isTrue a X.env whole = (do let v ← whole; standAt a.pos; holding [v] (truthy v))) : PTM X T E a (mTr m ma) := by
  obtain ⟨r, hr, k⟩ := tr
  refine PT.imp (pt_tru hr ha he) fun σ H Q ⟨P, μ, φ, ρ, Qm, Xm, w, re, gq, gx, h⟩ => ?_
  exact ⟨P, μ, φ, ρ, _, Xm, w, re, fun d1 μ1 h1 P1 H1 x s1 w1 r1 => k P1 μ1 φ H1 x d1 Qm Xm Q w1 r1 (gq.mono s1) (gx.mono s1) h1, gx, h⟩
theorem ptm_val (ha : PM X T E a ma) (he : ∀ whole, isTrue a X.env whole = (do let v ← whole; standAt a.pos; holding [v] (truthy v)) := by intro _; rfl) : PTM X T E a (mTr mTru ma) := ptm_tru tm_tru ha he
abbrev PWM (X : Cx) (T : Tx) (E : XK) (e : Expr) (m : FT) : Prop := PW X e (lT X.K T E m)
theorem pwm_and1 {m : FT} (ha : PTM X T E a m) : PWM X T E (.BoolOp .And [a] pos) m := pw_and1 ha
theorem pwm_or1 {m : FT} (ha : PTM X T E a m) : PWM X T E (.BoolOp .Or [a] pos) m := pw_or1 ha
def mAnd (m1 m2 : FT) : FT := fun ρ μ Q Xm => m1 ρ μ (fun k μ1 => if k = true then m2 ρ μ1 Q Xm else Q false μ1) Xm
def mOr (m1 m2 : FT) : FT := fun ρ μ Q Xm => m1 ρ μ (fun k μ1 => if k = true then Q true μ1 else m2 ρ μ1 Q Xm) Xm
def mNot (m : FT) : FT := fun ρ μ Q Xm => m ρ μ (fun k μ1 => Q (!k) μ1) Xm
theorem pwm_and {m1 m2 : FT} (ha : PTM X T E a m1) (hb : PWM X T E (.BoolOp .And (b :: rest) pos) m2) : PWM X T E (.BoolOp .And (a :: b :: rest) pos) (mAnd m1 m2) := by
  refine PW.imp (pw_and ha hb) fun σ H Q ⟨P, μ, φ, ρ, Qm, Xm, w, re, gq, gx, h⟩ => ?_
  refine ⟨P, μ, φ, ρ, _, Xm, w, re, fun k μ1 h1 P1 H1 x s1 w1 r1 => ?_, gx, h⟩
  subst r1
  cases x with
  | true => rw [if_pos rfl] at h1 ⊢; exact ⟨P1, μ1, φ, ρ, Qm, Xm, w1, re.mono s1, gq.mono s1, gx.mono s1, h1⟩
  | false => rw [if_neg (by decide)] at h1 ⊢; exact gq _ _ h1 P1 H1 _ s1 w1 rfl
theorem pwm_or {m1 m2 : FT} (ha : PTM X T E a m1) (hb : PWM X T E (.BoolOp .Or (b :: rest) pos) m2) : PWM X T E (.BoolOp .Or (a :: b :: rest) pos) (mOr m1 m2) := by
  refine PW.imp (pw_or ha hb) fun σ H Q ⟨P, μ, φ, ρ, Qm, Xm, w, re, gq, gx, h⟩ => ?_
  refine ⟨P, μ, φ, ρ, _, Xm, w, re, fun k μ1 h1 P1 H1 x s1 w1 r1 => ?_, gx, h⟩
  subst r1
  cases x with
  | true => rw [if_pos rfl] at h1 ⊢; exact gq _ _ h1 P1 H1 _ s1 w1 rfl
  | false => rw [if_neg (by decide)] at h1 ⊢; exact ⟨P1, μ1, φ, ρ, Qm, Xm, w1, re.mono s1, gq.mono s1, gx.mono s1, h1⟩
theorem PWM.pt {m : FT} (h : PWM X T E e m) : PTM X T E e m := PW.pt h
theorem ptm_not {m : FT} (ha : PTM X T E a m) : PTM X T E (.UnaryOp .Not a pos) (mNot m) := by
  refine PT.imp (pt_not ha) fun σ H Q ⟨P, μ, φ, ρ, Qm, Xm, w, re, gq, gx, h⟩ => ?_
  exact ⟨P, μ, φ, ρ, _, Xm, w, re, fun k μ1 h1 P1 H1 x s1 w1 r1 => by subst r1; exact gq _ _ h1 P1 H1 _ s1 w1 rfl, gx, h⟩
/-- and, or, not as values -/
def mAndV (ma mb : FE) : FE := fun ρ μ Q Xm => ma ρ μ (fun d μ1 => match dTru d μ1 with
  | some true => mb ρ μ1 Q Xm
  | some false => Q d μ1
  | none => False) Xm
def mOrV (ma mb : FE) : FE := fun ρ μ Q Xm => ma ρ μ (fun d μ1 => match dTru d μ1 with
  | some true => Q d μ1
  | some false => mb ρ μ1 Q Xm
  | none => False) Xm
def mNotV (ma : FE) : FE := fun ρ μ Q Xm => ma ρ μ (fun d μ1 => match dTru d μ1 with
  | some k => Q (.bl (!k)) μ1
  | none => False) Xm
theorem pm_one {op} {m : FE} (h : PM X T E a m) : PM X T E (.BoolOp op [a] pos) m := pe_one h
theorem pm_and (ha : PM X T E a ma) (hb : PM X T E (.BoolOp .And (b :: rest) pos) mb) : PM X T E (.BoolOp .And (a :: b :: rest) pos) (mAndV ma mb) := by
  refine PE.imp (pe_andT ha hb) fun σ H Q ⟨P, μ, φ, ρ, Qm, Xm, w, re, gq, gx, h⟩ => ?_
  refine ⟨P, μ, φ, ρ, _, Xm, w, re, fun d μ1 h1 P1 H1 x s1 w1 r1 => ?_, gx, h⟩
  split at h1
  · rename_i q
    refine ⟨true, truV_of w1 r1 q, ?_⟩
    rw [if_pos rfl]
    exact ⟨P1, μ1, φ, ρ, Qm, Xm, w1, re.mono s1, gq.mono s1, gx.mono s1, h1⟩
  · rename_i q
    refine ⟨false, truV_of w1 r1 q, ?_⟩
    rw [if_neg (by decide)]
    exact gq _ _ h1 P1 H1 _ s1 w1 r1
  · exact h1.elim
theorem pm_or (ha : PM X T E a ma) (hb : PM X T E (.BoolOp .Or (b :: rest) pos) mb) : PM X T E (.BoolOp .Or (a :: b :: rest) pos) (mOrV ma mb) := by
  refine PE.imp (pe_orT ha hb) fun σ H Q ⟨P, μ, φ, ρ, Qm, Xm, w, re, gq, gx, h⟩ => ?_
  refine ⟨P, μ, φ, ρ, _, Xm, w, re, fun d μ1 h1 P1 H1 x s1 w1 r1 => ?_, gx, h⟩
  split at h1
  · rename_i q
    refine ⟨true, truV_of w1 r1 q, ?_⟩
    rw [if_pos rfl]
    exact gq _ _ h1 P1 H1 _ s1 w1 r1
  · rename_i q
    refine ⟨false, truV_of w1 r1 q, ?_⟩
    rw [if_neg (by decide)]
    exact ⟨P1, μ1, φ, ρ, Qm, Xm, w1, re.mono s1, gq.mono s1, gx.mono s1, h1⟩
  · exact h1.elim
theorem pm_not (ha : PM X T E a ma) : PM X T E (.UnaryOp .Not a pos) (mNotV ma) := by
  refine PE.imp (pe_notT ha) fun σ H Q ⟨P, μ, φ, ρ, Qm, Xm, w, re, gq, gx, h⟩ => ?_
  refine ⟨P, μ, φ, ρ, _, Xm, w, re, fun d μ1 h1 P1 H1 x s1 w1 r1 => ?_, gx, h⟩
  split at h1
  · rename_i k q
    exact ⟨k, truV_of w1 r1 q, gq _ _ h1 P1 H1 _ s1 w1 (.bl _)⟩
  · exact h1.elim
def mIf (mt : FT) (ma mb : FE) : FE := fun ρ μ Q Xm => mt ρ μ (fun k μ1 => if k = true then ma ρ μ1 Q Xm else mb ρ μ1 Q Xm) Xm
theorem pm_ifExp {mt : FT} (hc : PTM X T E c mt) (ha : PM X T E a ma) (hb : PM X T E b mb) : PM X T E (.IfExp c a b pos) (mIf mt ma mb) := by
  refine PE.imp (pe_ifExp hc ha hb) fun σ H Q ⟨P, μ, φ, ρ, Qm, Xm, w, re, gq, gx, h⟩ => ?_
  refine ⟨P, μ, φ, ρ, _, Xm, w, re, fun k μ1 h1 P1 H1 x s1 w1 r1 => ?_, gx, h⟩
  subst r1
  cases x with
  | true => rw [if_pos rfl] at h1 ⊢; exact ⟨P1, μ1, φ, ρ, Qm, Xm, w1, re.mono s1, gq.mono s1, gx.mono s1, h1⟩
  | false => rw [if_neg (by decide)] at h1 ⊢; exact ⟨P1, μ1, φ, ρ, Qm, Xm, w1, re.mono s1, gq.mono s1, gx.mono s1, h1⟩
/-! argument lists, displays -/
def mNil : FA := fun _ μ Q _ => Q [] μ
def mCons (ma : FE) (mr : FA) : FA := fun ρ μ Q Xm => ma ρ μ (fun d μ1 => mr ρ μ1 (fun ds μ2 => Q (d :: ds) μ2) Xm) Xm
theorem pam_nil : PAM X T E [] mNil := PA.imp pa_nil fun σ H Q ⟨P, μ, φ, ρ, Qm, Xm, w, re, gq, gx, h⟩ => gq.here w .nil h
theorem pam_cons {mr : FA} (ha : PM X T E e ma) (hr : PAM X T E es mr) (hs : starEach (e :: es) X.env = (false, eval e X.env) :: starEach es X.env := by rfl) : PAM X T E (e :: es) (mCons ma mr) := by
  refine PA.imp (pa_cons ha hr hs) fun σ H Q ⟨P, μ, φ, ρ, Qm, Xm, w, re, gq, gx, h⟩ => ?_
  refine ⟨P, μ, φ, ρ, _, Xm, w, re, fun d1 μ1 h1 P1 H1 x s1 w1 r1 => ?_, gx, h⟩
  refine ⟨P1, μ1, φ, ρ, _, Xm, w1, re.mono s1, fun ds μ2 h2 P2 H2 xs s2 w2 r2 => ?_, gx.mono s1, h1⟩
  exact gq _ _ h2 P2 H2 _ (s1.trans s2) w2 (.cons (r1.mono s2) r2)
theorem Wd.grow {K : PySem.W.Frag} {P φ H : Hp} {μ : MS} {p : Addr} {o : HO} (w : Wd K T P μ φ H) (hp : H p = none) (ho : ∀ ps, o ≠ .tbl ps := by intro ps z; cases z) : Wd K T (upd P p o) μ φ (upd H p o) ∧ Same P (upd P p o) := by
  have np : P p = none := w.sub.free hp
  have s : Same P (upd P p o) := fun b u h => by
    by_cases hb : b = p
    · subst hb; rw [np] at h; cases h
    · rw [upd_ne hb]; exact h
  refine ⟨⟨fun b u h => ?_, fun a c h => ?_, w.tab.ext fun b u h => ?_, fun q hq => ?_, w.low.trans s, fun b u h => ?_, w.nf, fun a u h => ?_⟩, s⟩
  · by_cases hb : b = p
    · subst hb; rw [upd_same] at h ⊢; exact h
    · rw [upd_ne hb] at h ⊢; exact w.sub b u h
  · obtain ⟨h1, o', h2, h3⟩ := w.cel a c h
    have ne : a ≠ p := fun z => by subst z; rw [hp] at h2; cases h2
    exact ⟨by rw [upd_ne ne]; exact h1, o', by rw [upd_ne ne]; exact h2, h3.mono s⟩
  · have hb : b ≠ p := fun z => by subst z; rw [hp] at h; cases h
    rw [upd_ne hb]; exact h
  · obtain ⟨ps, h1, _⟩ := w.tab q hq
    have ne : q.1 ≠ p := fun z => by rw [z, hp] at h1; cases h1
    exact ⟨by rw [upd_ne ne]; exact (w.tno q hq).1, (w.tno q hq).2⟩
  · by_cases hb : b = p
    · subst hb; rw [upd_same] at h; cases h; exact ho
    · rw [upd_ne hb] at h; exact w.nt b u h
  · obtain ⟨h1, h2, h3⟩ := w.frm a u h
    have ne : a ≠ p := fun z => by subst z; rw [hp] at h1; cases h1
    exact ⟨by rw [upd_ne ne]; exact h1, by rw [upd_ne ne]; exact h2, h3⟩
theorem Wd.cell {K : PySem.W.Frag} {P φ H : Hp} {μ : MS} {p : Addr} {o : HO} {c : MO} (w : Wd K T P μ φ H) (hp : H p = none) (ro : RepO K P o c) : Wd K T P (put μ p c) φ (upd H p o) := by
  have np : P p = none := w.sub.free hp
  refine ⟨fun b u h => ?_, fun a c' h => ?_, w.tab.ext fun b u h => ?_, fun q hq => ?_, w.low, w.nt, w.nf, fun a u h => ?_⟩
  · have hb : b ≠ p := fun z => by subst z; rw [np] at h; cases h
    rw [upd_ne hb]; exact w.sub b u h
  · by_cases ha : a = p
    · subst ha; rw [put_same] at h; cases h; exact ⟨np, o, upd_same, ro⟩
    · rw [put_ne ha] at h
      obtain ⟨h1, o', h2, h3⟩ := w.cel a c' h
      exact ⟨h1, o', by rw [upd_ne ha]; exact h2, h3⟩
  · have hb : b ≠ p := fun z => by subst z; rw [hp] at h; cases h
    rw [upd_ne hb]; exact h
  · obtain ⟨ps, h1, _⟩ := w.tab q hq
    have ne : q.1 ≠ p := fun z => by rw [z, hp] at h1; cases h1
    exact ⟨(w.tno q hq).1, by rw [put_ne ne]; exact (w.tno q hq).2.1, (w.tno q hq).2.2⟩
  · obtain ⟨h1, h2, h3⟩ := w.frm a u h
    have ne : a ≠ p := fun z => by subst z; rw [hp] at h1; cases h1
    exact ⟨by rw [upd_ne ne]; exact h1, h2, by rw [put_ne ne]; exact h3⟩
/-- a new address is free in the small heap, too -/
theorem Wd.free {K : PySem.W.Frag} {P φ H : Hp} {μ : MS} {p : Addr} (w : Wd K T P μ φ H) (hp : H p = none) : μ p = none := by
  cases q : μ p with
  | none => rfl
  | some c =>
    obtain ⟨_, o, h, _⟩ := w.cel p c q
    rw [hp] at h; cases h
def mTup (m : FA) : FE := fun ρ μ Q Xm => m ρ μ (fun ds μ1 => ds.length ≤ sizeLine ∧ Q (.tup ds) μ1) Xm
def mLst (m : FA) : FE := fun ρ μ Q Xm => m ρ μ (fun ds μ1 => ds.length ≤ sizeLine ∧ Q (.lst ds) μ1) Xm
def mLstM (m : FA) : FE := fun ρ μ Q Xm => m ρ μ (fun ds μ1 => ds.length ≤ sizeLine ∧ ∀ p, μ1 p = none → Q (.ref p) (put μ1 p (.lst ds))) Xm
theorem pm_tup {m : FA} {x1} (h : PAM X T E es m) : PM X T E (.Tuple es x1 pos) (mTup m) := by
  refine PE.imp (pe_tup h) fun σ H Q ⟨P, μ, φ, ρ, Qm, Xm, w, re, gq, gx, h⟩ => ?_
  refine ⟨P, μ, φ, ρ, _, Xm, w, re, fun ds μ1 ⟨hl, h1⟩ P1 H1 xs s1 w1 r1 => ⟨by rw [r1.length]; exact hl, fun p hp => ?_⟩, gx, h⟩
  obtain ⟨w2, s2⟩ := w1.grow (o := .tup xs) hp
  exact gq _ _ h1 _ _ _ (s1.trans s2) w2 (.tup (.inl upd_same) (r1.mono s2))
theorem pm_lst {m : FA} (h : PAM X T E es m) : PM X T E (.List es pos) (mLst m) := by
  refine PE.imp (pe_lst h) fun σ H Q ⟨P, μ, φ, ρ, Qm, Xm, w, re, gq, gx, h⟩ => ?_
  refine ⟨P, μ, φ, ρ, _, Xm, w, re, fun ds μ1 ⟨hl, h1⟩ P1 H1 xs s1 w1 r1 => ⟨by rw [r1.length]; exact hl, fun p hp => ?_⟩, gx, h⟩
  obtain ⟨w2, s2⟩ := w1.grow (o := .lst xs) hp
  exact gq _ _ h1 _ _ _ (s1.trans s2) w2 (.lst upd_same (r1.mono s2))
theorem pm_lstM {m : FA} (h : PAM X T E es m) : PM X T E (.List es pos) (mLstM m) := by
  refine PE.imp (pe_lst h) fun σ H Q ⟨P, μ, φ, ρ, Qm, Xm, w, re, gq, gx, h⟩ => ?_
  refine ⟨P, μ, φ, ρ, _, Xm, w, re, fun ds μ1 ⟨hl, h1⟩ P1 H1 xs s1 w1 r1 => ⟨by rw [r1.length]; exact hl, fun p hp => ?_⟩, gx, h⟩
  exact gq _ _ (h1 p (w1.free hp)) _ _ _ s1 (w1.cell hp (o := .lst xs) (show RepO X.K P1 (.lst xs) (.lst ds) from r1)) (.ref p)
end
end Mz

namespace Mz
open PySem PySem.Spec PyProof.Rows L2 AzX ClX LamX Hz He Az
section
variable {K : PySem.W.Frag} {T : Tx} {P φ H : Hp} {μ : MS}
theorem repO_kind {o : HO} {c : MO} (r : RepO K P o c) : (∀ f, o ≠ .ext f) ∧ (∀ p, o ≠ .tbl p) := by
  cases o <;> cases c <;> first | exact r.elim | exact ⟨fun _ z => (by cases z), fun _ z => (by cases z)⟩
/-- a cell is changed -/
theorem Wd.put {a : Addr} {c c' : MO} {o o' : HO} (w : Wd K T P μ φ H) (hc : μ a = some c) (ho : H a = some o) (r : RepO K P o' c') : Wd K T P (put μ a c') φ (upd H a o') := by
  obtain ⟨na, o1, h1, r1⟩ := w.cel a c hc
  rw [ho] at h1; cases h1
  have kd := repO_kind r1
  refine ⟨fun b u h => ?_, fun b c2 h => ?_, fun q hq => ?_, fun q hq => ?_, w.low, w.nt, w.nf, fun b u h => ?_⟩
  · have hb : b ≠ a := fun z => by subst z; rw [na] at h; cases h
    rw [upd_ne hb]; exact w.sub b u h
  · by_cases hb : b = a
    · subst hb; rw [put_same] at h; cases h; exact ⟨na, o', upd_same, r⟩
    · rw [put_ne hb] at h
      obtain ⟨h1, o2, h2, h3⟩ := w.cel b c2 h
      exact ⟨h1, o2, by rw [upd_ne hb]; exact h2, h3⟩
  · obtain ⟨ps, h1, h2, h3⟩ := w.tab q hq
    have ne : q.1 ≠ a := fun z => by rw [z, ho] at h1; cases h1; exact kd.2 _ rfl
    refine ⟨ps, by rw [upd_ne ne]; exact h1, h2, fun pos cv hcv => ?_⟩
    obtain ⟨c3, e1, e2⟩ := h3 pos cv hcv
    have ne3 : c3 ≠ a := fun z => by rw [z, ho] at e2; cases e2; exact kd.1 _ rfl
    exact ⟨c3, e1, by rw [upd_ne ne3]; exact e2⟩
  · have ne : q.1 ≠ a := fun z => by have := (w.tno q hq).2.1; rw [z, hc] at this; cases this
    exact ⟨(w.tno q hq).1, by rw [put_ne ne]; exact (w.tno q hq).2.1, (w.tno q hq).2.2⟩
  · obtain ⟨h1, h2, h3⟩ := w.frm b u h
    have ne : b ≠ a := fun z => by rw [z, hc] at h3; cases h3
    exact ⟨by rw [upd_ne ne]; exact h1, h2, by rw [put_ne ne]; exact h3⟩
/-- a cell is let go: its object stands for ever -/
theorem Wd.frz {a : Addr} {c : MO} {o : HO} (w : Wd K T P μ φ H) (hc : μ a = some c) (ho : H a = some o) : Wd K T (upd P a o) (del μ a) φ H ∧ Same P (upd P a o) := by
  obtain ⟨na, o1, h1, r1⟩ := w.cel a c hc
  rw [ho] at h1; cases h1
  have s : Same P (upd P a o) := fun b u h => by
    have hb : b ≠ a := fun z => by subst z; rw [na] at h; cases h
    rw [upd_ne hb]; exact h
  refine ⟨⟨fun b u h => ?_, fun b c2 h => ?_, w.tab, fun q hq => ?_, w.low.trans s, fun b u h => ?_, w.nf, fun b u h => ?_⟩, s⟩
  · by_cases hb : b = a
    · subst hb; rw [upd_same] at h; cases h; exact ho
    · rw [upd_ne hb] at h; exact w.sub b u h
  · by_cases hb : b = a
    · subst hb; rw [del_same] at h; cases h
    · rw [del_ne hb] at h
      obtain ⟨h1, o2, h2, h3⟩ := w.cel b c2 h
      exact ⟨by rw [upd_ne hb]; exact h1, o2, h2, h3.mono s⟩
  · have ne : q.1 ≠ a := fun z => by have := (w.tno q hq).2.1; rw [z, hc] at this; cases this
    exact ⟨by rw [upd_ne ne]; exact (w.tno q hq).1, by rw [del_ne ne]; exact (w.tno q hq).2.1, (w.tno q hq).2.2⟩
  · by_cases hb : b = a
    · subst hb; rw [upd_same] at h; cases h; exact (repO_kind r1).2
    · rw [upd_ne hb] at h; exact w.nt b u h
  · obtain ⟨h1, h2, h3⟩ := w.frm b u h
    have ne : b ≠ a := fun z => by rw [z, hc] at h3; cases h3
    exact ⟨h1, by rw [upd_ne ne]; exact h2, by rw [del_ne ne]; exact h3⟩
theorem RepF.put {f : Str} {v : V} {d : D} (h : Rep K P v d) : ∀ {vs : List (Str × V)} {ds : List (Str × D)}, RepF K P vs ds → RepF K P (putF f v vs) (ptF f d ds)
  | [], [], _ => ⟨rfl, .cons h .nil⟩
  | [], _ :: _, r => by cases r.1
  | _ :: _, [], r => by cases r.1
  | (x, w) :: vs, (y, e) :: ds, ⟨k, r⟩ => by
    cases r with
    | cons hh t =>
      have e1 : x = y := (List.cons.inj k).1
      have e2 := (List.cons.inj k).2
      subst e1
      by_cases q : f = x
      · have a1 : putF f v ((x, w) :: vs) = (x, v) :: vs := by simp [putF, q]
        have a2 : ptF f d ((x, e) :: ds) = (x, d) :: ds := by simp [ptF, q]
        rw [a1, a2]
        exact ⟨by simp [e2], .cons h t⟩
      · have a1 : putF f v ((x, w) :: vs) = (x, w) :: putF f v vs := by simp [putF, Ne.symm q, q]
        have a2 : ptF f d ((x, e) :: ds) = (x, e) :: ptF f d ds := by simp [ptF, q]
        rw [a1, a2]
        obtain ⟨b1, b2⟩ := RepF.put (f := f) h (vs := vs) (ds := ds) ⟨e2, t⟩
        exact ⟨by simp [b1], .cons hh b2⟩
end
abbrev FG := D → MEnv → MS → (MEnv → MS → Prop) → MX → Prop
abbrev FGs := List D → MEnv → MS → (MEnv → MS → Prop) → MX → Prop
section
variable (K : PySem.W.Frag) (T : Tx) (E : XK)
def lG (m : FG) : TG := fun v σ H Q => ∃ P μ φ ρ d Qm Xm, Wd K T P μ φ H ∧ REnv K P σ ρ ∧ Rep K P v d ∧ Go K T (REnv K) P φ Qm Q ∧ GoX K T P φ Xm E ∧ m d ρ μ Qm Xm
def lGs (m : FGs) : TGs := fun vs σ H Q => ∃ P μ φ ρ ds Qm Xm, Wd K T P μ φ H ∧ REnv K P σ ρ ∧ Reps K P vs ds ∧ Go K T (REnv K) P φ Qm Q ∧ GoX K T P φ Xm E ∧ m ds ρ μ Qm Xm
end
section
variable {X : Cx} {T : Tx} {E : XK} {e a b c o i : Expr} {es : List Expr} {sts rest : List Stmt} {st : Stmt} {me mo mi : FE} {m m1 m2 : FS} {pos : Pos}
abbrev PGM (X : Cx) (T : Tx) (E : XK) (tg : Expr) (m : FG) : Prop := PG X tg (lG X.K T E m)
abbrev PGsM (X : Cx) (T : Tx) (E : XK) (tgs : List Expr) (m : FGs) : Prop := PGs X tgs (lGs X.K T E m)
theorem PG.imp {tg : Expr} {t t' : TG} (h : PG X tg t) (k : ∀ v σ H Q, t' v σ H Q → t v σ H Q) : PG X tg t' := ⟨fun pins s σ H v u Q I r q => h.run pins s σ H v u Q I r (k v σ H Q q)⟩
theorem PGs.imp {tgs : List Expr} {t t' : TGs} (h : PGs X tgs t) (k : ∀ v σ H Q, t' v σ H Q → t v σ H Q) : PGs X tgs t' := ⟨fun pins s σ H v u Q I r q => h.run pins s σ H v u Q I r (k v σ H Q q)⟩
def gmName (i : Nat) : FG := fun d ρ μ Q _ => Q (ρ.set i (some d)) μ
theorem pgm_name {i : Nat} {x : Str} (hN : X.N.Nodup) (hi : X.N[i]? = some x) (hx : Loc X.env.scope x) (hf : X.fn x = true ∨ X.env.scope.names.lookup x = some .local := by first | exact .inl rfl | exact .inr rfl | assumption) : PGM X T E (.Name x pos) (gmName i) :=
  PG.imp (pg_name hN hi hx hf) fun v σ H Q ⟨P, μ, φ, ρ, d, Qm, Xm, w, re, r, gq, gx, h⟩ => gq.here w (re.set i r) h
def gmNil : FGs := fun ds ρ μ Q _ => match ds with
  | [] => Q ρ μ
  | _ => False
def gmCons (g : FG) (gs : FGs) : FGs := fun ds ρ μ Q Xm => match ds with
  | d :: r => g d ρ μ (fun ρ' μ' => gs r ρ' μ' Q Xm) Xm
  | _ => False
theorem pgsm_nil : PGsM X T E [] gmNil := PGs.imp pgs_nil fun v σ H Q ⟨P, μ, φ, ρ, ds, Qm, Xm, w, re, r, gq, gx, h⟩ => by
  cases r with
  | nil => exact ⟨rfl, gq.here w re h⟩
  | cons _ _ => exact h.elim
theorem pgsm_cons {g : FG} {gs : FGs} (h1 : PGM X T E e g) (h2 : PGsM X T E es gs) (hs : (assignEach (e :: es) X.env).map (·.2) = assign e X.env :: (assignEach es X.env).map (·.2) := by rfl) : PGsM X T E (e :: es) (gmCons g gs) := by
  refine PGs.imp (pgs_cons h1 h2 hs) fun v σ H Q ⟨P, μ, φ, ρ, ds, Qm, Xm, w, re, r, gq, gx, h⟩ => ?_
  cases r with
  | nil => exact h.elim
  | cons r1 rr =>
    refine ⟨_, _, rfl, P, μ, φ, ρ, _, _, Xm, w, re, r1, fun ρ1 μ1 h1 P1 H1 σ1 s1 w1 re1 => ?_, gx, h⟩
    exact ⟨P1, μ1, φ, ρ1, _, Qm, Xm, w1, re1, rr.mono s1, gq.mono s1, gx.mono s1, h1⟩
def gmTup (n : Nat) (gs : FGs) : FG := fun d ρ μ Q Xm => match d with
  | .tup ds => ds.length = n ∧ gs ds ρ μ Q Xm
  | _ => False
theorem pgm_tup {k n : Nat} {gs : FGs} (hc : X.calm = true) (h : PGsM X T E es gs) (hn : (assignEach es X.env).length = n := by rfl) (hst : (assignEach es X.env).findIdx? (·.1) = none := by rfl) : PGM X T E (.Tuple es k pos) (gmTup n gs) := by
  refine PG.imp (pg_tup hc h hn hst) fun v σ H Q ⟨P, μ, φ, ρ, d, Qm, Xm, w, re, r, gq, gx, h⟩ => ?_
  unfold gmTup at h
  split at h
  · cases r with
    | tup h1 rr => exact ⟨_, _, rfl, TuA.sq w.sub h1, by rw [rr.length]; exact h.1, P, μ, φ, ρ, _, Qm, Xm, w, re, rr, gq, gx, h.2⟩
  · exact h.elim
/-- o[i] = v -/
abbrev M3 := D → D → D → MS → (MS → Prop) → Prop
def PSetM (X : Cx) (T : Tx) (m : M3) : Prop := ∃ t : TSet, PSet X t ∧ ∀ P μ φ H o i v d1 d2 d3 (Qm : MS → Prop) (Q : Hp → Prop), Wd X.K T P μ φ H → Rep X.K P o d1 → Rep X.K P i d2 → Rep X.K P v d3 → (∀ μ' H', Qm μ' → Wd X.K T P μ' φ H' → Q H') → m d1 d2 d3 μ Qm → t o i v H Q
def mSetL : M3 := fun d1 d2 d3 μ Q => match d1, d2 with
  | .ref a, .int k => (match μ a with
    | some (.lst ds) => (match ixN ds.length k with
      | some j => Q (put μ a (.lst (ds.set j d3)))
      | none => False)
    | _ => False)
  | _, _ => False
theorem psetm_list : PSetM X T mSetL := by
  refine ⟨_, set_list, fun P μ φ H o i v d1 d2 d3 Qm Q w r1 r2 r3 hq h => ?_⟩
  unfold mSetL at h
  split at h
  · rename_i a k
    cases r1; cases r2
    split at h
    · rename_i ds q
      split at h
      · rename_i j hj
        obtain ⟨_, ob, ho, ro⟩ := w.cel a _ q
        cases ob with
        | lst vs =>
          have rr : Reps X.K P vs ds := ro
          exact ⟨a, vs, k, j, rfl, rfl, ho, by rw [rr.length]; exact hj, hq _ _ h (w.put q ho (show RepO X.K P (.lst (vs.set j v)) (.lst (ds.set j d3)) from rr.set r3 j))⟩
        | _ => exact (show False from ro).elim
      · exact h.elim
    · exact h.elim
  · exact h.elim
def gmSub (mo mi : FE) (m : M3) : FG := fun d ρ μ Q Xm => mo ρ μ (fun d1 μ1 => mi ρ μ1 (fun d2 μ2 => m d1 d2 d μ2 (fun μ3 => Q ρ μ3)) Xm) Xm
theorem pgm_sub {m : M3} (ho : PM X T E o mo) (hi : PM X T E i mi) (hs : PSetM X T m)
    (ha : ∀ v, assign (.Subscript o i pos) X.env v = (do
      let ov ← holding [v] (eval o X.env)
      let iv ← holding [v, ov] (eval i X.env)
      standAt pos
      holding [v, ov, iv] (setItem ov iv v)
      release [v, ov, iv] []) := by intro _; rfl) : PGM X T E (.Subscript o i pos) (gmSub mo mi m) := by
  obtain ⟨t, ht, k⟩ := hs
  refine PG.imp (pg_sub ho hi ht ha) fun v σ H Q ⟨P, μ, φ, ρ, d, Qm, Xm, w, re, r, gq, gx, h⟩ => ?_
  refine two_of (k := fun d1 d2 μ2 => m d1 d2 d μ2 (fun μ3 => Qm ρ μ3)) w re gx h fun P' μ' H' x y d1 d2 s w' r1 r2 h' => ?_
  exact k P' μ' φ H' x y v d1 d2 d _ _ w' r1 r2 (r.mono s) (fun μ3 H3 h3 w3 => gq _ _ h3 P' H3 _ s w3 (re.mono s)) h'
/-! statements -/
def sNext : FS := fun e ρ μ => e.nx ρ μ
theorem pssm_nil : PSsM X T E [] sNext := PSs.imp pss_nil fun D σ H ⟨P, μ, φ, ρ, e, w, re, ge, h⟩ => ge.nx.here w re h
def sSeq (m1 m2 : FS) : FS := fun e ρ μ => m1 { e with nx := fun ρ' μ' => m2 e ρ' μ' } ρ μ
theorem pssm_cons (h1 : PSM X T E st m1) (h2 : PSsM X T E rest m2) : PSsM X T E (st :: rest) (sSeq m1 m2) := by
  refine PSs.imp (pss_cons h1 h2) fun D σ H ⟨P, μ, φ, ρ, e, w, re, ge, h⟩ => ?_
  exact ⟨P, μ, φ, ρ, { e with nx := fun ρ' μ' => m2 e ρ' μ' }, w, re, ⟨fun ρ1 μ1 h1 P1 H1 σ1 s1 w1 re1 => ⟨P1, μ1, φ, ρ1, e, w1, re1, ge.mono s1, h1⟩, ge.rt, ge.bk, ge.ct, ge.ex⟩, h⟩
theorem pssm_one (h1 : PSM X T E st m) : PSsM X T E [st] m := pss_one h1
theorem psm_pass : PSM X T E (.Pass pos) sNext := PS.imp ps_pass fun D σ H ⟨P, μ, φ, ρ, e, w, re, ge, h⟩ => ge.nx.here w re h
def sBreak : FS := fun e ρ μ => e.bk ρ μ
def sCont : FS := fun e ρ μ => e.ct ρ μ
theorem psm_break : PSM X T E (.Break pos) sBreak := PS.imp ps_break fun D σ H ⟨P, μ, φ, ρ, e, w, re, ge, h⟩ => ge.bk.here w re h
theorem psm_continue : PSM X T E (.Continue pos) sCont := PS.imp ps_continue fun D σ H ⟨P, μ, φ, ρ, e, w, re, ge, h⟩ => ge.ct.here w re h
theorem psm_doc {x j pos pos'} : PSM X T E (.Expr (.Constant (.str x) j pos) pos') sNext := PS.imp ps_doc fun D σ H ⟨P, μ, φ, ρ, e, w, re, ge, h⟩ => ge.nx.here w re h
def sExpr (me : FE) : FS := fun e ρ μ => me ρ μ (fun _ μ' => e.nx ρ μ') e.ex
theorem psm_expr (he : PM X T E e me) (hs : swapsWith e none pos.line X.env = pure false := by rfl) : PSM X T E (.Expr e pos) (sExpr me) := by
  refine PS.imp (ps_expr he hs) fun D σ H ⟨P, μ, φ, ρ, e, w, re, ge, h⟩ => ?_
  exact ⟨P, μ, φ, ρ, _, _, w, re, fun d μ1 h1 P1 H1 x s1 w1 r1 => ge.nx _ _ h1 P1 H1 _ s1 w1 (re.mono s1), ge.ex, h⟩
def sRet (me : FE) : FS := fun e ρ μ => me ρ μ e.rt e.ex
theorem psm_ret (he : PM X T E e me) : PSM X T E (.Return (some e) pos) (sRet me) := by
  refine PS.imp (ps_ret he) fun D σ H ⟨P, μ, φ, ρ, e, w, re, ge, h⟩ => ?_
  exact ⟨P, μ, φ, ρ, _, _, w, re, ge.rt, ge.ex, h⟩
def sRetN : FS := fun e _ μ => e.rt .non μ
theorem psm_retN : PSM X T E (.Return none pos) sRetN := PS.imp ps_retN fun D σ H ⟨P, μ, φ, ρ, e, w, re, ge, h⟩ => ge.rt.here w .non h
def sIf (mt : FT) (m1 m2 : FS) : FS := fun e ρ μ => mt ρ μ (fun k μ1 => if k = true then m1 e ρ μ1 else m2 e ρ μ1) e.ex
theorem psm_if {mt : FT} {sa sb : List Stmt} (hc : PTM X T E c mt) (ha : PSsM X T E sa m1) (hb : PSsM X T E sb m2) : PSM X T E (.If c sa sb pos) (sIf mt m1 m2) := by
  refine PS.imp (ps_if hc ha hb) fun D σ H ⟨P, μ, φ, ρ, e, w, re, ge, h⟩ => ?_
  refine ⟨P, μ, φ, ρ, _, _, w, re, fun k μ1 h1 P1 H1 x s1 w1 r1 => ?_, ge.ex, h⟩
  subst r1
  cases x with
  | true => rw [if_pos rfl] at h1 ⊢; exact ⟨P1, μ1, φ, ρ, e, w1, re.mono s1, ge.mono s1, h1⟩
  | false => rw [if_neg (by decide)] at h1 ⊢; exact ⟨P1, μ1, φ, ρ, e, w1, re.mono s1, ge.mono s1, h1⟩
def sSet (i : Nat) (me : FE) : FS := fun e ρ μ => me ρ μ (fun d μ' => e.nx (ρ.set i (some d)) μ') e.ex
theorem psm_set {i : Nat} {x : Str} {pos' : Pos} (hN : X.N.Nodup) (hi : X.N[i]? = some x) (hx : Loc X.env.scope x) (he : PM X T E e me) (hs : swapsWith e (some (.Name x pos')) pos.line X.env = pure false := by rfl) (hf : X.fn x = true ∨ X.env.scope.names.lookup x = some .local := by first | exact .inl rfl | exact .inr rfl | assumption) :
    PSM X T E (.Assign [.Name x pos'] e pos) (sSet i me) := by
  refine PS.imp (ps_set hN hi hx he hs hf) fun D σ H ⟨P, μ, φ, ρ, e, w, re, ge, h⟩ => ?_
  exact ⟨P, μ, φ, ρ, _, _, w, re, fun d μ1 h1 P1 H1 x s1 w1 r1 => ge.nx _ _ h1 P1 H1 _ s1 w1 ((re.mono s1).set _ r1), ge.ex, h⟩
def sAsg (me : FE) (g : FG) : FS := fun e ρ μ => me ρ μ (fun d μ' => g d ρ μ' e.nx e.ex) e.ex
theorem psm_asg {tg : Expr} {g : FG} (he : PM X T E e me) (hg : PGM X T E tg g) (hs : swapsWithSole [tg] e pos.line X.env = pure false := by rfl) (hw : swappedStores [tg] e X.env = pure none := by rfl)
    (h1 : (assignEach [tg] X.env).map (·.2) = [assign tg X.env] := by rfl) : PSM X T E (.Assign [tg] e pos) (sAsg me g) := by
  refine PS.imp (ps_asg he hg hs hw h1) fun D σ H ⟨P, μ, φ, ρ, e, w, re, ge, h⟩ => ?_
  refine ⟨P, μ, φ, ρ, _, _, w, re, fun d μ1 h1 P1 H1 x s1 w1 r1 => ?_, ge.ex, h⟩
  exact ⟨P1, μ1, φ, ρ, d, _, _, w1, re.mono s1, r1, ge.nx.mono s1, ge.ex.mono s1, h1⟩
def sPar (i j : Nat) (ma : FA) : FS := fun e ρ μ => ma ρ μ (fun ds μ' => match ds with
  | [d1, d2] => e.nx ((ρ.set i (some d1)).set j (some d2)) μ'
  | _ => False) e.ex
theorem psm_par {i j : Nat} {x y : Str} {a b : Expr} {ma : FA} {px py pt : Pos} {kt k2 pt2} (hc : X.calm = true) (hN : X.N.Nodup) (hi : X.N[i]? = some x) (hj : X.N[j]? = some y) (hij : i ≠ j)
    (hx : X.env.scope.names.lookup x = some .local) (hy : X.env.scope.names.lookup y = some .local) (ha : PAM X T E [a, b] ma)
    (hw : swappedStores [.Tuple [.Name x px, .Name y py] kt pt] (.Tuple [a, b] k2 pt2) X.env = pure (some [x, y]))
    (hs : swapsWithSole [.Tuple [.Name x px, .Name y py] kt pt] (.Tuple [a, b] k2 pt2) pos.line X.env = pure false := by rfl) :
    PSM X T E (.Assign [.Tuple [.Name x px, .Name y py] kt pt] (.Tuple [a, b] k2 pt2) pos) (sPar i j ma) := by
  refine PS.imp (ps_par hc hN hi hj hij hx hy ha hw hs) fun D σ H ⟨P, μ, φ, ρ, e, w, re, ge, h⟩ => ?_
  refine ⟨P, μ, φ, ρ, _, _, w, re, fun ds μ1 h1 P1 H1 xs s1 w1 r1 => ?_, ge.ex, h⟩
  split at h1
  · cases r1 with
    | cons r2 rr =>
      cases rr with
      | cons r3 rn =>
        cases rn
        exact ⟨_, _, rfl, ge.nx _ _ h1 P1 H1 _ s1 w1 (((re.mono s1).set _ r2).set _ r3)⟩
  · exact h1.elim
def sPar3 (i j l : Nat) (ma : FA) : FS := fun e ρ μ => ma ρ μ (fun ds μ' => match ds with
  | [d1, d2, d3] => e.nx (((ρ.set i (some d1)).set j (some d2)).set l (some d3)) μ'
  | _ => False) e.ex
theorem psm_par3 {i j l : Nat} {x y z : Str} {a b c : Expr} {ma : FA} {px py pz pt pos : Pos} {kt k2 pt2} (hc : X.calm = true) (hN : X.N.Nodup) (hi : X.N[i]? = some x) (hj : X.N[j]? = some y) (hl : X.N[l]? = some z) (hij : i ≠ j) (hil : i ≠ l) (hjl : j ≠ l)
    (hx : X.env.scope.names.lookup x = some .local) (hy : X.env.scope.names.lookup y = some .local) (hz : X.env.scope.names.lookup z = some .local) (ha : PAM X T E [a, b, c] ma)
    (hw : swappedStores [.Tuple [.Name x px, .Name y py, .Name z pz] kt pt] (.Tuple [a, b, c] k2 pt2) X.env = pure (some [x, y, z]))
    (hs : swapsWithSole [.Tuple [.Name x px, .Name y py, .Name z pz] kt pt] (.Tuple [a, b, c] k2 pt2) pos.line X.env = pure false := by rfl) :
    PSM X T E (.Assign [.Tuple [.Name x px, .Name y py, .Name z pz] kt pt] (.Tuple [a, b, c] k2 pt2) pos) (sPar3 i j l ma) := by
  refine PS.imp (ps_par3 hc hN hi hj hl hij hil hjl hx hy hz ha hw hs) fun D σ H ⟨P, μ, φ, ρ, e, w, re, ge, h⟩ => ?_
  refine ⟨P, μ, φ, ρ, _, _, w, re, fun ds μ1 h1 P1 H1 xs s1 w1 r1 => ?_, ge.ex, h⟩
  split at h1
  · cases r1 with
    | cons r2 rr =>
      cases rr with
      | cons r3 rn =>
        cases rn with
        | cons r4 rn =>
          cases rn
          exact ⟨_, _, _, rfl, ge.nx _ _ h1 P1 H1 _ s1 w1 ((((re.mono s1).set _ r2).set _ r3).set _ r4)⟩
  · exact h1.elim
def sAug (i : Nat) (me : FE) (m : M2) : FS := fun e ρ μ => match ρ[i]? with
  | some (some x) => me ρ μ (fun y μ1 => m x y μ1 (fun z μ2 => e.nx (ρ.set i (some z)) μ2) e.ex) e.ex
  | _ => False
theorem psm_aug {i : Nat} {x : Str} {op : Operator} {m : M2} {pos' : Pos} (hN : X.N.Nodup) (hi : X.N[i]? = some x) (hx : Loc X.env.scope x) (he : PM X T E e me) (ho : OpM X T E (inplaceOp op) m) (hf : X.fn x = true ∨ X.env.scope.names.lookup x = some .local := by first | exact .inl rfl | exact .inr rfl | assumption) :
    PSM X T E (.AugAssign (.Name x pos') op e pos) (sAug i me m) := by
  obtain ⟨r, hr, k⟩ := ho
  refine PS.imp (ps_aug hN hi hx he hr hf) fun D σ H ⟨P, μ, φ, ρ, e, w, re, ge, h⟩ => ?_
  unfold sAug at h
  split at h
  · rename_i d q
    obtain ⟨v, h1, h2⟩ := re.2 _ _ q
    refine ⟨v, h1, P, μ, φ, ρ, _, _, w, re, fun y μ1 h3 P1 H1 yv s1 w1 r1 => ?_, ge.ex, h⟩
    refine k P1 μ1 φ H1 v yv d y _ _ _ w1 (h2.mono s1) r1 (fun z μ2 h4 P2 H2 zv s2 w2 r2 => ?_) (ge.ex.mono s1) h3
    exact ge.nx _ _ h4 P2 H2 _ (s1.trans s2) w2 ((re.mono (s1.trans s2)).set _ r2)
  · exact h.elim
/-- o.f = e -/
def sFldM (K : PySem.W.Frag) (mo me : FE) (f : Str) : FS := fun e ρ μ => me ρ μ (fun d μ1 => mo ρ μ1 (fun x μ2 => match x with
  | .ref a => (match μ2 a with
    | some (.ins c fs) => Cls K (ca K c) ∧ NoAttr K (ca K c) f ∧ fs.length < 1000 ∧ e.nx ρ (put μ2 a (.ins c (ptF f d fs)))
    | _ => False)
  | _ => False) e.ex) e.ex
theorem psm_fld {f : Str} {pos' : Pos} (ho : PM X T E o mo) (he : PM X T E e me) (hs : swapsWith e (some (.Attribute o f pos')) pos.line X.env = pure false) : PSM X T E (.Assign [.Attribute o f pos'] e pos) (sFldM X.K mo me f) := by
  refine PS.imp (ps_fld ho he hs) fun D σ H ⟨P, μ, φ, ρ, e, w, re, ge, h⟩ => ?_
  refine ⟨P, μ, φ, ρ, _, _, w, re, fun d μ1 h1 P1 H1 y s1 w1 r1 => ?_, ge.ex, h⟩
  refine ⟨P1, μ1, φ, ρ, _, _, w1, re.mono s1, fun x μ2 h2 P2 H2 xv s2 w2 r2 => ?_, ge.ex.mono s1, h1⟩
  split at h2
  · rename_i a
    cases r2
    split at h2
    · rename_i c fs q
      obtain ⟨k1, k2, k3, h2⟩ := h2
      obtain ⟨_, ob, hob, ro⟩ := w2.cel a _ q
      cases ob with
      | ins C dx vs =>
        obtain ⟨rfl, rf⟩ : C = ca X.K c ∧ RepF X.K P2 vs fs := ro
        refine ⟨a, _, dx, vs, rfl, hob, k1, k2, by rw [rf.length]; exact k3, ?_⟩
        exact ge.nx _ _ h2 P2 _ _ (s1.trans s2) (w2.put q hob (show RepO X.K P2 (.ins (ca X.K c) dx (putF f y vs)) (.ins c (ptF f d fs)) from ⟨rfl, rf.put (r1.mono s2)⟩)) (re.mono (s1.trans s2))
      | _ => exact (show False from ro).elim
    · exact h2.elim
  · exact h2.elim
/-- o.f op= e -/
def sFldAugM (K : PySem.W.Frag) (mo me : FE) (m : M2) (f : Str) : FS := fun e ρ μ => mo ρ μ (fun x μ1 => match x with
  | .ref a => (match μ1 a with
    | some (.ins c fs) => Cls K (ca K c) ∧ NoAttr K (ca K c) f ∧ (match lkF f fs with
      | some d => me ρ μ1 (fun y μ2 => m d y μ2 (fun z μ3 => (match μ3 a with
        | some (.ins c' fs') => c' = c ∧ fs'.length < 1000 ∧ e.nx ρ (put μ3 a (.ins c (ptF f z fs')))
        | _ => False)) e.ex) e.ex
      | none => False)
    | _ => False)
  | _ => False) e.ex
theorem psm_fldaug {f : Str} {tpos : Pos} {op : Operator} {m : M2} (ho : PM X T E o mo) (he : PM X T E e me) (hop : OpM X T E (inplaceOp op) m) : PSM X T E (.AugAssign (.Attribute o f tpos) op e pos) (sFldAugM X.K mo me m f) := by
  obtain ⟨r, hr, k⟩ := hop
  have hr' : InOp X op r := fun pins s σ H x y u v Q I rx ry h => hr pins s σ H x y u v Q I rx ry h
  refine PS.imp (ps_fldaug ho he hr') fun D σ H ⟨P, μ, φ, ρ, e, w, re, ge, h⟩ => ?_
  refine ⟨P, μ, φ, ρ, _, _, w, re, fun x μ1 h1 P1 H1 xv s1 w1 r1 => ?_, ge.ex, h⟩
  split at h1
  · rename_i a
    cases r1
    split at h1
    · rename_i c fs q
      obtain ⟨k1, k2, h1⟩ := h1
      obtain ⟨_, ob, hob, ro⟩ := w1.cel a _ q
      cases ob with
      | ins C dx vs =>
        obtain ⟨rfl, rf⟩ : C = ca X.K c ∧ RepF X.K P1 vs fs := ro
        split at h1
        · rename_i d hd
          obtain ⟨v, hv, rv⟩ := rf.look hd
          refine ⟨a, _, dx, vs, v, rfl, hob, k1, k2, hv, ?_⟩
          refine ⟨P1, μ1, φ, ρ, _, _, w1, re.mono s1, fun y μ2 h2 P2 H2 yv s2 w2 r2 => ?_, ge.ex.mono s1, h1⟩
          refine k P2 μ2 φ H2 v yv d y _ _ _ w2 (rv.mono s2) r2 (fun z μ3 h3 P3 H3 zv s3 w3 r3 => ?_) (ge.ex.mono (s1.trans s2)) h2
          split at h3
          · rename_i c' fs' q'
            obtain ⟨rfl, l', h3⟩ := h3
            obtain ⟨_, ob', hob', ro'⟩ := w3.cel a _ q'
            cases ob' with
            | ins C' dx' vs' =>
              obtain ⟨rfl, rf'⟩ : C' = ca X.K c' ∧ RepF X.K P3 vs' fs' := ro'
              refine ⟨dx', vs', hob', by rw [rf'.length]; exact l', ?_⟩
              exact ge.nx _ _ h3 P3 _ _ ((s1.trans s2).trans s3) (w3.put q' hob' (show RepO X.K P3 (.ins (ca X.K c') dx' (putF f zv vs')) (.ins c' (ptF f z fs')) from ⟨rfl, rf'.put r3⟩)) (re.mono ((s1.trans s2).trans s3))
            | _ => exact (show False from ro').elim
          · exact h3.elim
        · exact h1.elim
      | _ => exact (show False from ro).elim
    · exact h1.elim
  · exact h1.elim
/-- while, by an invariant with its measure -/
def sWhile (mt : FT) (mb : FS) : FS := fun e ρ μ => ∃ W : Nat → MEnv → MS → Prop, (∃ m, W m ρ μ) ∧ ∀ m ρ μ, W m ρ μ → mt ρ μ (fun k μ1 => if k = true then mb { e with nx := fun ρ' μ' => ∃ m', m' < m ∧ W m' ρ' μ', ct := fun ρ' μ' => ∃ m', m' < m ∧ W m' ρ' μ', bk := e.nx } ρ μ1 else e.nx ρ μ1) e.ex
theorem psm_while {mt : FT} {mb : FS} (hp : PassesOwn (model X.prog X.w) X.A X.env X.xe) (hc : PTM X T E c mt) (hb : PSsM X T E sts mb) : PSM X T E (.While c sts [] pos) (sWhile mt mb) := by
  refine PS.imp (ps_while hp hc hb) fun D σ H ⟨P, μ, φ, ρ, e, w, re, ge, h⟩ => ?_
  obtain ⟨W, ⟨m0, w0⟩, turn⟩ := h
  refine ⟨fun m σ' H' => ∃ P' μ' ρ', Same P P' ∧ Wd X.K T P' μ' φ H' ∧ REnv X.K P' σ' ρ' ∧ W m ρ' μ', ⟨m0, P, μ, ρ, Same.refl _, w, re, w0⟩, ?_⟩
  rintro m σ' H' ⟨P', μ', ρ', s', w', re', wm⟩
  refine ⟨P', μ', φ, ρ', _, _, w', re', fun k μ1 h1 P1 H1 x s1 w1 r1 => ?_, ge.ex.mono s', turn m ρ' μ' wm⟩
  subst r1
  cases x with
  | true =>
    rw [if_pos rfl] at h1 ⊢
    refine ⟨fun σ2 H2 => ∃ m', m' < m ∧ ∃ P' μ' ρ', Same P P' ∧ Wd X.K T P' μ' φ H2 ∧ REnv X.K P' σ2 ρ' ∧ W m' ρ' μ', fun σ2 H2 q => q, ?_⟩
    have go : Go X.K T (REnv X.K) P1 φ (fun ρ' μ' => ∃ m', m' < m ∧ W m' ρ' μ') (fun σ2 H2 => ∃ m', m' < m ∧ ∃ P' μ' ρ', Same P P' ∧ Wd X.K T P' μ' φ H2 ∧ REnv X.K P' σ2 ρ' ∧ W m' ρ' μ') :=
      fun ρ2 μ2 ⟨m', hm, wm'⟩ P2 H2 σ2 s2 w2 re2 => ⟨m', hm, P2, μ2, ρ2, (s'.trans s1).trans s2, w2, re2, wm'⟩
    exact ⟨P1, μ1, φ, ρ', { e with nx := fun ρ' μ' => ∃ m', m' < m ∧ W m' ρ' μ', ct := fun ρ' μ' => ∃ m', m' < m ∧ W m' ρ' μ', bk := e.nx }, w1, re'.mono s1, ⟨go, ge.rt.mono (s'.trans s1), ge.nx.mono (s'.trans s1), go, ge.ex.mono (s'.trans s1)⟩, h1⟩
  | false => rw [if_neg (by decide)] at h1 ⊢; exact ge.nx _ _ h1 P1 H1 _ (s'.trans s1) w1 (re'.mono s1)
/-! for -/
/-- the iterator J hands out the ds, one after another -/
def Dlv (K : PySem.W.Frag) (T : Tx) (J : It) (P0 : Hp) (ds : List D) : Prop := ∀ (i : Nat) P μ φ H, Same P0 P → Wd K T P μ φ H →
  (∀ d, ds[i]? = some d → J.go i H ∧ ∀ x H', J.yld i H x H' → ∃ P', Same P P' ∧ Wd K T P' μ φ H' ∧ Rep K P' x d) ∧ (ds[i]? = none → J.stop i H)
abbrev FI := MEnv → MS → (List D → MS → Prop) → MX → Prop
def lI (K : PySem.W.Frag) (T : Tx) (E : XK) (m : FI) : TI := fun σ H R => ∃ P μ φ ρ Qm Xm, Wd K T P μ φ H ∧ REnv K P σ ρ ∧ (∀ ds μ', Qm ds μ' → ∀ P' H' J, Same P P' → Wd K T P' μ' φ H' → Dlv K T J P' ds → R J H') ∧ GoX K T P φ Xm E ∧ m ρ μ Qm Xm
abbrev PIM (X : Cx) (T : Tx) (E : XK) (tg it : Expr) (m : FI) : Prop := PI X tg it (lI X.K T E m)
theorem PI.imp {tg it : Expr} {t t' : TI} (h : PI X tg it t) (k : ∀ σ H Q, t' σ H Q → t σ H Q) : PI X tg it t' := ⟨fun pins s σ H R I q => h.run pins s σ H R I (k σ H R q)⟩
def goFor (g : FG) (mb : FS) (e : En) : List D → MEnv → MS → Prop
  | [], ρ, μ => e.nx ρ μ
  | d :: ds, ρ, μ => g d ρ μ (fun ρ1 μ1 => mb { e with nx := goFor g mb e ds, ct := goFor g mb e ds, bk := e.nx } ρ1 μ1) e.ex
def sFor (it : FI) (g : FG) (mb : FS) : FS := fun e ρ μ => it ρ μ (fun ds μ1 => goFor g mb e ds ρ μ1) e.ex
theorem psm_for {tg it : Expr} {mi : FI} {g : FG} {mb : FS} (hp : PassesOwn (model X.prog X.w) X.A X.env X.xe) (hc : X.calm = true) (hi : PIM X T E tg it mi) (hg : PGM X T E tg g) (hb : PSsM X T E sts mb) (hs : ∀ x, foldedSetIterable it X.env x = pure x := by intro _; rfl) : PSM X T E (.For tg it sts [] pos) (sFor mi g mb) := by
  refine PS.imp (ps_for hp hc hi hg hb hs) fun D σ H ⟨P, μ, φ, ρ, e, w, re, ge, h⟩ => ?_
  refine ⟨P, μ, φ, ρ, _, _, w, re, fun ds μ1 h1 P1 H1 J s1 w1 dl => ?_, ge.ex, h⟩
  refine ⟨fun i m σ' H' => ∃ P' μ' ρ', Same P1 P' ∧ Wd X.K T P' μ' φ H' ∧ REnv X.K P' σ' ρ' ∧ m = ds.length - i ∧ goFor g mb e (ds.drop i) ρ' μ', ⟨_, P1, μ1, ρ, Same.refl _, w1, re.mono s1, rfl, by rw [List.drop_zero]; exact h1⟩, ?_⟩
  rintro i m σ' H' ⟨P', μ', ρ', s', w', re', rfl, q⟩
  obtain ⟨dl1, dl2⟩ := dl i P' μ' φ H' s' w'
  cases hd : ds[i]? with
  | none =>
    have z : ds.drop i = [] := List.drop_eq_nil_of_le (List.getElem?_eq_none_iff.mp hd)
    rw [z] at q
    exact .inl ⟨dl2 hd, ge.nx _ _ q P' H' _ (s1.trans s') w' re'⟩
  | some d =>
    obtain ⟨hlt, e1⟩ := List.getElem?_eq_some_iff.mp hd
    have z : ds.drop i = d :: ds.drop (i + 1) := by rw [← e1]; exact (List.getElem_cons_drop hlt).symm
    rw [z] at q
    obtain ⟨go, yl⟩ := dl1 d hd
    refine .inr ⟨go, fun σ2 H2 => ∃ m', m' < ds.length - i ∧ ∃ P' μ' ρ', Same P1 P' ∧ Wd X.K T P' μ' φ H2 ∧ REnv X.K P' σ2 ρ' ∧ m' = ds.length - (i + 1) ∧ goFor g mb e (ds.drop (i + 1)) ρ' μ', fun σ2 H2 q => q, fun x H2 hy => ?_⟩
    obtain ⟨P2, s2, w2, r2⟩ := yl x H2 hy
    refine ⟨P2, μ', φ, ρ', d, _, _, w2, re'.mono s2, r2, fun ρ3 μ3 h3 P3 H3 σ3 s3 w3 re3 => ?_, ge.ex.mono ((s1.trans s').trans s2), q⟩
    have go : Go X.K T (REnv X.K) P3 φ (goFor g mb e (ds.drop (i + 1))) (fun σ2 H2 => ∃ m', m' < ds.length - i ∧ ∃ P' μ' ρ', Same P1 P' ∧ Wd X.K T P' μ' φ H2 ∧ REnv X.K P' σ2 ρ' ∧ m' = ds.length - (i + 1) ∧ goFor g mb e (ds.drop (i + 1)) ρ' μ') :=
      fun ρ4 μ4 h4 P4 H4 σ4 s4 w4 re4 => ⟨_, by omega, P4, μ4, ρ4, ((s'.trans s2).trans s3).trans s4, w4, re4, rfl, h4⟩
    have sa := ((s1.trans s').trans s2).trans s3
    exact ⟨P3, μ3, φ, ρ3, { e with nx := goFor g mb e (ds.drop (i + 1)), ct := goFor g mb e (ds.drop (i + 1)), bk := e.nx }, w3, re3, ⟨go, ge.rt.mono sa, ge.nx.mono sa, go, ge.ex.mono sa⟩, h3⟩
theorem dlv_list {P : Hp} {a : Addr} {vs : List V} {ds : List D} (h : SqL X.K P a vs) (r : Reps X.K P vs ds) : Dlv X.K T (Itl X.K a) P ds := by
  intro i P' μ' φ' H' s w
  have h' := SqL.same (s.trans w.sub) h
  refine ⟨fun d hd => ?_, fun hn => ⟨vs, h', by rw [r.length]; exact List.getElem?_eq_none_iff.mp hn⟩⟩
  obtain ⟨v, hv, rv⟩ := r.get hd
  refine ⟨⟨vs, v, h', hv⟩, fun x H2 hy => ?_⟩
  obtain ⟨rfl, hx⟩ := hy
  have := hx vs h'
  rw [hv] at this
  cases this
  exact ⟨P', Same.refl _, w, rv.mono s⟩
theorem dlv_tup {P : Hp} {a : Addr} {vs : List V} {ds : List D} (h : SqT X.K P a vs) (r : Reps X.K P vs ds) : Dlv X.K T (Itt X.K a) P ds := by
  intro i P' μ' φ' H' s w
  have h' := SqT.same (s.trans w.sub) h
  refine ⟨fun d hd => ?_, fun hn => ⟨vs, h', by rw [r.length]; exact List.getElem?_eq_none_iff.mp hn⟩⟩
  obtain ⟨v, hv, rv⟩ := r.get hd
  refine ⟨⟨vs, v, h', hv⟩, fun x H2 hy => ?_⟩
  obtain ⟨rfl, hx⟩ := hy
  have := hx vs h'
  rw [hv] at this
  cases this
  exact ⟨P', Same.refl _, w, rv.mono s⟩
def iLs (me : FE) : FI := fun ρ μ Q Xm => me ρ μ (fun d μ1 => match d with
  | .lst ds => Q ds μ1
  | .wls ds => Q ds μ1
  | _ => False) Xm
def iTupM (me : FE) : FI := fun ρ μ Q Xm => me ρ μ (fun d μ1 => match d with
  | .tup ds => Q ds μ1
  | _ => False) Xm
theorem pim_list {tg : Expr} (he : PM X T E e me) : PIM X T E tg e (iLs me) := by
  refine PI.imp (pi_list he) fun σ H R ⟨P, μ, φ, ρ, Qm, Xm, w, re, gq, gx, h⟩ => ?_
  refine ⟨P, μ, φ, ρ, _, _, w, re, fun d μ1 h1 P1 H1 x s1 w1 r1 => ?_, gx, h⟩
  split at h1
  · cases r1 with
    | lst hl rr => exact ⟨_, rfl, ⟨_, SqL.of (w1.sub _ _ hl)⟩, gq _ _ h1 P1 H1 _ s1 w1 (dlv_list (SqL.of hl) rr)⟩
  · cases r1 with
    | wls hl rr => exact ⟨_, rfl, ⟨_, SqL.same w1.sub hl⟩, gq _ _ h1 P1 H1 _ s1 w1 (dlv_list hl rr)⟩
  · exact h1.elim
theorem pim_tup {tg : Expr} (he : PM X T E e me) : PIM X T E tg e (iTupM me) := by
  refine PI.imp (pi_tup he) fun σ H R ⟨P, μ, φ, ρ, Qm, Xm, w, re, gq, gx, h⟩ => ?_
  refine ⟨P, μ, φ, ρ, _, _, w, re, fun d μ1 h1 P1 H1 x s1 w1 r1 => ?_, gx, h⟩
  split at h1
  · cases r1 with
    | tup hl rr => exact ⟨_, rfl, ⟨_, TuA.sq w1.sub hl⟩, gq _ _ h1 P1 H1 _ s1 w1 (dlv_tup (TuA.sq (Same.refl _) hl) rr)⟩
  · exact h1.elim
/-- the whole numbers from lo on, n of them -/
def rgD (lo : Int) : Nat → List D
  | 0 => []
  | n + 1 => .int lo :: rgD (lo + 1) n
theorem rgD_length : ∀ (n : Nat) (lo : Int), (rgD lo n).length = n
  | 0, _ => rfl
  | n + 1, lo => congrArg (· + 1) (rgD_length n (lo + 1))
theorem rgD_get : ∀ (n : Nat) (lo : Int) (i : Nat), (rgD lo n)[i]? = if i < n then some (.int (lo + i)) else none
  | 0, lo, i => by simp [rgD]
  | n + 1, lo, 0 => by simp [rgD]
  | n + 1, lo, i + 1 => by
    have := rgD_get n (lo + 1) i
    simp only [rgD, List.getElem?_cons_succ]
    rw [this]
    by_cases h : i < n
    · rw [if_pos h, if_pos (by omega)]; congr 2; omega
    · rw [if_neg h, if_neg (by omega)]
theorem dlv_rng {P : Hp} {lo : Int} {n : Nat} : Dlv X.K T (Itr lo n) P (rgD lo n) := by
  intro i P' μ' φ' H' s w
  refine ⟨fun d hd => ?_, fun hn => ?_⟩
  · rw [rgD_get] at hd
    split at hd
    · rename_i hl
      cases hd
      refine ⟨hl, fun x H2 hy => ?_⟩
      obtain ⟨rfl, rfl⟩ := hy
      exact ⟨P', Same.refl _, w, .int _⟩
    · cases hd
  · rw [rgD_get] at hn
    split at hn
    · cases hn
    · rename_i hl
      exact Nat.le_of_not_lt hl
def iRange1 (ma : FA) : FI := fun ρ μ Q Xm => ma ρ μ (fun ds μ1 => match ds with
  | [.int j] => -(2 ^ 62) ≤ j ∧ j < 2 ^ 62 ∧ Q (rgD 0 j.toNat) μ1
  | _ => False) Xm
theorem pim_range1 {tg : Expr} {ma : FA} {p pos : Pos} (hg : Gl X "range") (hm : X.mg "range" = none) (ha : PAM X T E [a] ma) (hs : starEach [a] X.env = [(false, eval a X.env)] := by rfl) : PIM X T E tg (.Call (.Name "range" p) [a] [] pos) (iRange1 ma) := by
  refine PI.imp (pi_range1 hg hm ha hs) fun σ H R ⟨P, μ, φ, ρ, Qm, Xm, w, re, gq, gx, h⟩ => ?_
  refine ⟨P, μ, φ, ρ, _, _, w, re, fun d μ1 h1 P1 H1 x s1 w1 r1 => ?_, gx, h⟩
  split at h1
  · cases r1 with
    | cons r2 rn =>
      cases rn
      cases r2
      exact ⟨_, rfl, h1.1, h1.2.1, gq _ _ h1.2.2 P1 H1 _ s1 w1 dlv_rng⟩
  · exact h1.elim
end
end Mz

namespace Mz
open PySem PySem.Spec PyProof.Rows L2 AzX ClX LamX Hz He Az
/-! the promise of a def over trees -/
def spF (K : PySem.W.Frag) (T : Tx) (f : FM) : Sp := fun vs H Q E => ∃ P μ φ ds Qm Xm, Wd K T P μ φ H ∧ Reps K P vs ds ∧ Go K T (Rep K) P φ Qm Q ∧ GoX K T P φ Xm E ∧ f ds μ Qm Xm
def bodyM (n N : Nat) (b : FS) : FM := fun ds μ Q X => ds.length = n ∧ b { nx := fun _ μ' => Q .non μ', rt := Q, ex := X } (ds.map some ++ List.replicate (N - ds.length) none) μ
abbrev DnM (P : Program) (w : World) (K : PySem.W.Frag) (mg : Str → Option Value) (base : Heap) (T : Tx) (k : Nat) (f : Addr) (ps : List Str) (dvs : List V) (m : FM) : Prop := Dn P w K mg base (L2.CX P w) k f ps dvs (spF K T m)
section
variable {P : Program} {w : World} {K : PySem.W.Frag} {mg : Str → Option Value} {base : Heap} {T : Tx} {k : Nat} {f : Addr} {ps N : List Str} {dvs : List V} {m m' : FM}
theorem DnM.imp (D : DnM P w K mg base T k f ps dvs m) (h : ∀ ds μ Q X, m' ds μ Q X → m ds μ Q X) : DnM P w K mg base T k f ps dvs m' := by
  obtain ⟨kp, fd, G, b⟩ := D
  exact ⟨kp, fd, G.imp fun vs H Q E ⟨P, μ, φ, ds, Qm, Xm, w, r, gq, gx, h1⟩ => ⟨P, μ, φ, ds, Qm, Xm, w, r, gq, gx, h _ _ _ _ h1⟩, b⟩
theorem start_env {P : Hp} {vs : List V} {ds : List D} (r : Reps K P vs ds) (N : List Str) : REnv K P (L2.start N vs) (ds.map some ++ List.replicate (N.length - ds.length) none) := by
  have hl := r.length
  refine ⟨by unfold L2.start; simp [hl], fun i d e => ?_⟩
  unfold L2.start
  rw [List.getElem?_append] at e
  rw [List.getElem?_append]
  simp only [List.length_map] at e ⊢
  by_cases h : i < ds.length
  · rw [if_pos h] at e
    rw [if_pos (by omega)]
    have e' : ds[i]? = some d := by simpa using e
    obtain ⟨v, h1, h2⟩ := r.get e'
    exact ⟨v, by simp [h1], h2⟩
  · rw [if_neg h] at e
    rw [List.getElem?_replicate] at e
    split at e <;> cases e
theorem fnM {d : DefZ} {fd : FuncData} {b : FS} (F : FnP K d fd) (S : FnScope N ps (defScope d.st))
    (der : ∀ (cdv : Value) (A : Around) (outer : List Env) (s : Shared) (H : Hp) (E : XK), Room k (A.deeper (envOfC d.qual (defScope d.st) s.heap.objs.size (d.at_.ad K) cdv)) →
      PSsM (cxOf (L2.CX P w) P w K mg base N d.qual (defScope d.st) (d.at_.ad K) cdv A outer s H E) T E (defBody d.st) b) :
    FnOk P w K mg base (L2.CX P w) (k + 1) (d.at_.ad K) fd ps (spF K T (bodyM ps.length N.length b)) := by
  refine FunD.ok F S (fun vs H Q E ⟨P, μ, φ, ds, Qm, Xm, w, r, gq, gx, h⟩ => by rw [r.length]; exact h.1) fun cdv A outer s H vs Q E hr h => ?_
  obtain ⟨Pm, μ, φ, ds, Qm, Xm, wd, r, gq, gx, hl, h⟩ := h
  refine ⟨_, der cdv A outer s H E hr, Pm, μ, φ, _, { nx := fun _ μ' => Qm .non μ', rt := Qm, ex := Xm }, wd, start_env r N, ⟨?_, gq, Go.false, Go.false, gx⟩, h⟩
  exact fun ρ' μ' h' P' H' v s' w' _ => gq .non μ' h' P' H' .non s' w' .non
theorem fnM0 {d : DefZ} {fd : FuncData} {b : FS} (F : FnP K d fd) (S : FnScope N ps (defScope d.st)) (hd : d.dfl = []) (hb : ∀ (kV doc pm : Value) (an : Option Addr) (cdv ct : Value) (us : List Value), us.length = ps.length → bindArgs (PySem.W.fnOf d.name d.qual (defArgs d.st) (defBody d.st) (defScope d.st) .none kV doc pm an cdv ct) ⟨us, []⟩ = pure (ps.zip us))
    (der : ∀ (cdv : Value) (A : Around) (outer : List Env) (s : Shared) (H : Hp) (E : XK), Room k (A.deeper (envOfC d.qual (defScope d.st) s.heap.objs.size (d.at_.ad K) cdv)) →
      PSsM (cxOf (L2.CX P w) P w K mg base N d.qual (defScope d.st) (d.at_.ad K) cdv A outer s H E) T E (defBody d.st) b) :
    DnM P w K mg base T (k + 1) (d.at_.ad K) ps [] (bodyM ps.length N.length b) := dn_mk F hd hb (fnM F S der)
theorem fnM1 {d : DefZ} {fd : FuncData} {b : FS} {v : Dv} {n : Nat} (F : FnP K d fd) (S : FnScope N ps (defScope d.st)) (hd : d.dfl = [v]) (hn : ps.length = n + 1)
    (h0 : ∀ (T : Addr) (kV doc pm : Value) (an : Option Addr) (cdv ct : Value) (us its : List Value), us.length = n → its.length = 1 → ∃ k, bindArgs (PySem.W.fnOf d.name d.qual (defArgs d.st) (defBody d.st) (defScope d.st) (.ref T) kV doc pm an cdv ct) ⟨us, []⟩ = seqItems? (.ref T) >>= k ∧ k (some its.toArray) = pure (ps.zip (us ++ its.drop 0)))
    (h1 : ∀ (T : Addr) (kV doc pm : Value) (an : Option Addr) (cdv ct : Value) (us its : List Value), us.length = n + 1 → its.length = 1 → ∃ k, bindArgs (PySem.W.fnOf d.name d.qual (defArgs d.st) (defBody d.st) (defScope d.st) (.ref T) kV doc pm an cdv ct) ⟨us, []⟩ = seqItems? (.ref T) >>= k ∧ k (some its.toArray) = pure (ps.zip (us ++ its.drop 1)))
    (der : ∀ (cdv : Value) (A : Around) (outer : List Env) (s : Shared) (H : Hp) (E : XK), Room k (A.deeper (envOfC d.qual (defScope d.st) s.heap.objs.size (d.at_.ad K) cdv)) →
      PSsM (cxOf (L2.CX P w) P w K mg base N d.qual (defScope d.st) (d.at_.ad K) cdv A outer s H E) T E (defBody d.st) b) :
    DnM P w K mg base T (k + 1) (d.at_.ad K) ps [v.v K] (bodyM ps.length N.length b) := dn_mk1 F hd hn h0 h1 (fnM F S der)
theorem passX {qual : Str} {scope : Scope} {cd : Value} {A : Around} {outer : List Env} {s : Shared} {H : Hp} {E : XK} : Passes (L2.CX P w) (cxOf (L2.CX P w) P w K mg base N qual scope f cd A outer s H E) E :=
  passes_call (takes_of rfl rfl rfl rfl) (fun _ _ _ _ h => h)
theorem ownX {qual : Str} {scope : Scope} {cd : Value} {A : Around} {outer : List Env} {s : Shared} {H : Hp} {E : XK} : PassesOwn (model P w) (cxOf (L2.CX P w) P w K mg base N qual scope f cd A outer s H E).A (cxOf (L2.CX P w) P w K mg base N qual scope f cd A outer s H E).env (cxOf (L2.CX P w) P w K mg base N qual scope f cd A outer s H E).xe :=
  passes_of (X := cxOf (L2.CX P w) P w K mg base N qual scope f cd A outer s H E) rfl
theorem takeX {qual : Str} {scope : Scope} {cd : Value} {A : Around} {outer : List Env} {s : Shared} {H : Hp} {E : XK} : Takes (cxOf (L2.CX P w) P w K mg base N qual scope f cd A outer s H E) (fun cls d _ H => E cls d H) := takes_of rfl rfl rfl rfl
end
section
variable {X : Cx} {T : Tx} {E : XK} {k : Nat} {f C : Addr} {ps : List Str} {dvs dv : List V} {dd : List D} {x m : Str} {p pos apos : Pos} {o e : Expr} {es : List Expr} {ma : FA} {mo : FE} {fM : FM}
/-- f(..) with the defaults dd -/
def mCall (fM : FM) (dd : List D) (ma : FA) : FE := fun ρ μ Q Xm => ma ρ μ (fun ds μ1 => fM (ds ++ dd) μ1 Q Xm) Xm
theorem call_of {K : PySem.W.Frag} {σ : L2.St} {H : Hp} {Q : VK} (hd : ∀ P, Reps K P dv dd) (h : lE K T E (mCall fM dd ma) σ H Q) : tCall (spF K T fM) dv E (lA K T E ma) σ H Q := by
  obtain ⟨P, μ, φ, ρ, Qm, Xm, w, re, gq, gx, h⟩ := h
  exact ⟨P, μ, φ, ρ, _, Xm, w, re, fun ds μ1 h1 P1 H1 xs s1 w1 r1 => ⟨P1, μ1, φ, _, Qm, Xm, w1, r1.app (hd P1), gq.mono s1, gx.mono s1, h1⟩, gx, h⟩
theorem pm_call (D : DnM X.prog X.w X.K X.mg X.base T k f ps dvs fM) (j : Nat) (hr : Room k X.A) (hg : Gl X x) (hm : X.mg x = some (.ref f)) (hx : Passes (L2.CX X.prog X.w) X E)
    (ha : PAM X T E (e :: es) ma) (hd : ∀ P, Reps X.K P dv dd) (hj : j ≤ dvs.length := by decide) (hv : dvs.drop j = dv := by rfl) (hdb : (x == ("__debug__" : Str)) = false := by decide) (he : starEach (e :: es) X.env = (false, eval e X.env) :: starEach es X.env := by rfl) (hpl : (backTo pos (starEach es X.env)).any (·.1) = false := by rfl) :
    PM X T E (.Call (.Name x p) (e :: es) [] pos) (mCall fM dd ma) := PE.imp (pe_callDd D j hr hg hm hx ha hj hv hdb he hpl) fun σ H Q h => call_of hd h
theorem pm_call0 (D : DnM X.prog X.w X.K X.mg X.base T k f ps dvs fM) (hr : Room k X.A) (hg : Gl X x) (hm : X.mg x = some (.ref f)) (hx : Passes (L2.CX X.prog X.w) X E) (hd : ∀ P, Reps X.K P dvs dd)
    (hdb : (x == ("__debug__" : Str)) = false := by decide) : PM X T E (.Call (.Name x p) [] [] pos) (mCall fM dd mNil) := by
  obtain ⟨fd, G, b⟩ := D.ex
  obtain ⟨ds, v, b⟩ := b 0 (Nat.zero_le _)
  refine PE.imp (pe_call0 G hr hg hm D.kp b v hx hdb) fun σ H Q h => ?_
  obtain ⟨P, μ, φ, ρ, Qm, Xm, w, re, gq, gx, h⟩ := h
  exact ⟨P, μ, φ, _, Qm, Xm, w, hd P, gq, gx, h⟩
/-! making an instance -/
/-- C(..) by __init__, the instance then stands for ever -/
def mkM (c : String) (fM : FM) (dd : List D) : FM := fun ds μ Q Xm => ∀ a, μ a = none → fM (.ref a :: (ds ++ dd)) (put μ a (.ins c [])) (fun r μ' => r = .non ∧ ∃ fs, μ' a = some (.ins c fs) ∧ Q (.ins c fs) (del μ' a)) (fun c' fs' μ' => ∃ fs, μ' a = some (.ins c fs) ∧ Xm c' fs' (del μ' a))
/-- .., or stays changeable -/
def mkMM (c : String) (fM : FM) (dd : List D) : FM := fun ds μ Q Xm => ∀ a, μ a = none → fM (.ref a :: (ds ++ dd)) (put μ a (.ins c [])) (fun r μ' => r = .non ∧ Q (.ref a) μ') Xm
theorem Wd.own {K : PySem.W.Frag} {P φ H : Hp} {μ : MS} {dx x : Addr} (w : Wd K T P μ φ H) (hp : H dx = none) : Wd K T P μ φ (upd H dx (.own x)) := by
  refine ⟨fun b u h => ?_, fun b c2 h => ?_, w.tab.ext fun b u h => ?_, w.tno, w.low, w.nt, w.nf, fun b u h => ?_⟩
  · have hb : b ≠ dx := fun z => by have := w.sub b u h; rw [z, hp] at this; cases this
    rw [upd_ne hb]; exact w.sub b u h
  · obtain ⟨h1, o2, h2, h3⟩ := w.cel b c2 h
    have hb : b ≠ dx := fun z => by rw [z, hp] at h2; cases h2
    exact ⟨h1, o2, by rw [upd_ne hb]; exact h2, h3⟩
  · have hb : b ≠ dx := fun z => by rw [z, hp] at h; cases h
    rw [upd_ne hb]; exact h
  · obtain ⟨h1, h2, h3⟩ := w.frm b u h
    have hb : b ≠ dx := fun z => by rw [z, hp] at h1; cases h1
    exact ⟨by rw [upd_ne hb]; exact h1, h2, h3⟩
theorem made_wd {K : PySem.W.Frag} {P φ H : Hp} {μ : MS} {c : String} {a dx : Addr} (w : Wd K T P μ φ H) (ha : H a = none) (hd : H dx = none) (ne : dx ≠ a) : Wd K T P (put μ a (.ins c [])) φ (upd (upd H dx (.own a)) a (.ins (ca K c) dx [])) :=
  (w.own hd).cell (by rw [upd_ne (Ne.symm ne)]; exact ha) (show RepO K P (.ins (ca K c) dx []) (.ins c []) from ⟨rfl, rfl, .nil⟩)
theorem make_of {K : PySem.W.Frag} {c : String} {vs : List V} {H : Hp} {Q : VK} {P φ : Hp} {μ : MS} {ds : List D} {Qm : D → MS → Prop} {Xm : MX} (hd : ∀ P, Reps K P dv dd) (w : Wd K T P μ φ H) (r : Reps K P vs ds) (gq : Go K T (Rep K) P φ Qm Q) (gx : GoX K T P φ Xm E)
    (h : mkM c fM dd ds μ Qm Xm ∨ mkMM c fM dd ds μ Qm Xm) : ∀ a dx, H a = none → H dx = none → dx ≠ a →
      spF K T fM (.ref a :: (vs ++ dv)) (upd (upd H dx (.own a)) a (.ins (ca K c) dx [])) (fun v H2 => v = .non ∧ Q (.ref a) H2) E := by
  intro a dx ha hdx ne
  have w1 := made_wd (c := c) w ha hdx ne
  rcases h with h | h
  · refine ⟨P, _, φ, _, _, _, w1, .cons (.ref a) (r.app (hd P)), fun rr μ1 ⟨e, fs, hf, h1⟩ P1 H1 v s1 w2 r2 => ?_, fun c' fs' μ1 ⟨fs, hf, h1⟩ P1 H1 dd' vs' s1 w2 hdd rf => ?_, h a (w.free ha)⟩
    · subst e
      cases r2
      obtain ⟨_, ob, hob, ro⟩ := w2.cel a _ hf
      cases ob with
      | ins C' dx' vs' =>
        obtain ⟨rfl, rf⟩ : C' = ca K c ∧ RepF K P1 vs' fs := ro
        obtain ⟨w3, s3⟩ := w2.frz hf hob
        exact ⟨rfl, gq _ _ h1 _ _ _ (s1.trans s3) w3 (.ins upd_same rf.1 (rf.2.mono s3))⟩
      | _ => exact (show False from ro).elim
    · obtain ⟨_, ob, hob, ro⟩ := w2.cel a _ hf
      obtain ⟨w3, s3⟩ := w2.frz hf hob
      exact gx _ _ _ h1 _ _ dd' vs' (s1.trans s3) w3 (s3 _ _ hdd) (rf.mono s3)
  · refine ⟨P, _, φ, _, _, _, w1, .cons (.ref a) (r.app (hd P)), fun rr μ1 ⟨e, h1⟩ P1 H1 v s1 w2 r2 => ?_, gx, h a (w.free ha)⟩
    subst e
    cases r2
    exact ⟨rfl, gq _ _ h1 _ _ _ s1 w2 (.ref a)⟩
theorem mk_app {c : String} {ds : List D} {μ : MS} {Q : D → MS → Prop} {Xm : MX} (h : mkM c fM [] (ds ++ dd) μ Q Xm ∨ mkMM c fM [] (ds ++ dd) μ Q Xm) : mkM c fM dd ds μ Q Xm ∨ mkMM c fM dd ds μ Q Xm := by
  unfold mkM mkMM at h ⊢
  simpa only [List.append_nil] using h
/-- calling the class named c is as fM says -/
structure MkC (P : Program) (w : World) (K : PySem.W.Frag) (mg : Str → Option Value) (base : Heap) (T : Tx) (k : Nat) (c : String) (f : Addr) (ps : List Str) (dvs : List V) (fM : FM) : Prop where
  mkc : Mk K (ca K c) f
  dn : DnM P w K mg base T k f ps dvs fM
theorem pm_make {c : String} {gM : FM} (M : MkC X.prog X.w X.K X.mg X.base T k c f ps dvs fM) (j : Nat) (hr : Room (k + 1) X.A) (hg : Gl X x) (hm : X.mg x = some (.ref (ca X.K c))) (hx : Passes (L2.CX X.prog X.w) X E) (hi : ∀ ds μ Q Xm, gM ds μ Q Xm → mkM c fM [] ds μ Q Xm ∨ mkMM c fM [] ds μ Q Xm)
    (ha : PAM X T E (e :: es) ma) (hd : ∀ P, Reps X.K P dv dd) (hj : j ≤ dvs.length := by decide) (hv : dvs.drop j = dv := by rfl) (hdb : (x == ("__debug__" : Str)) = false := by decide) (he : starEach (e :: es) X.env = (false, eval e X.env) :: starEach es X.env := by rfl) (hpl : (backTo pos (starEach es X.env)).any (·.1) = false := by rfl) :
    PM X T E (.Call (.Name x p) (e :: es) [] pos) (mCall gM dd ma) := by
  refine PE.imp (pe_makeD M.mkc M.dn j hr hg hm hx ha hj hv hdb he hpl) fun σ H Q ⟨P, μ, φ, ρ, Qm, Xm, w, re, gq, gx, h⟩ => ?_
  refine ⟨P, μ, φ, ρ, _, Xm, w, re, fun ds μ1 h1 P1 H1 xs s1 w1 r1 => ?_, gx, h⟩
  exact make_of hd w1 r1 (gq.mono s1) (gx.mono s1) (mk_app (hi _ _ _ _ h1))
theorem pm_make0 {c : String} {gM : FM} (M : MkC X.prog X.w X.K X.mg X.base T k c f ps dvs fM) (hr : Room (k + 1) X.A) (hg : Gl X x) (hm : X.mg x = some (.ref (ca X.K c))) (hx : Passes (L2.CX X.prog X.w) X E) (hi : ∀ ds μ Q Xm, gM ds μ Q Xm → mkM c fM [] ds μ Q Xm ∨ mkMM c fM [] ds μ Q Xm)
    (hd : ∀ P, Reps X.K P dvs dd) (hdb : (x == ("__debug__" : Str)) = false := by decide) : PM X T E (.Call (.Name x p) [] [] pos) (mCall gM dd mNil) := by
  obtain ⟨fd, G, b⟩ := M.dn.ex
  obtain ⟨ds, v, b⟩ := b 0 (Nat.zero_le _)
  refine PE.imp (pe_make0 M.mkc G hr hg hm b v hx hdb) fun σ H Q ⟨P, μ, φ, ρ, Qm, Xm, w, re, gq, gx, h⟩ => ?_
  exact make_of (vs := []) hd w .nil gq gx (mk_app (hi _ _ _ _ h))
/-! methods -/
def isC (c : String) (m : Str) (d : D) (μ : MS) : Prop := match d with
  | .ins c' fs => c' = c ∧ lkF m fs = none
  | .ref a => (match μ a with
    | some (.ins c' fs) => c' = c ∧ lkF m fs = none
    | _ => False)
  | _ => False
theorem isC_of {K : PySem.W.Frag} {c : String} {m : Str} {d : D} {μ : MS} {P φ H : Hp} {v : V} (w : Wd K T P μ φ H) (r : Rep K P v d) (h : isC c m d μ) : ∃ a dx fs, v = .ref a ∧ H a = some (.ins (ca K c) dx fs) ∧ fs.lookup m = none := by
  unfold isC at h
  split at h
  · obtain ⟨rfl, h⟩ := h
    cases r with
    | ins h1 e1 r1 => exact ⟨_, _, _, rfl, w.sub _ _ h1, RepF.none ⟨e1, r1⟩ h⟩
  · rename_i a
    cases r
    split at h
    · rename_i c' fs q
      obtain ⟨rfl, h⟩ := h
      obtain ⟨_, ob, hob, ro⟩ := w.cel a _ q
      cases ob with
      | ins C dx vs =>
        obtain ⟨rfl, rf⟩ : C = ca K c' ∧ RepF K P vs fs := ro
        exact ⟨a, dx, vs, rfl, hob, rf.none h⟩
      | _ => exact (show False from ro).elim
    · exact h.elim
  · exact h.elim
def mMeth (c : String) (m : Str) (fM : FM) (dd : List D) (mo : FE) (ma : FA) : FE := fun ρ μ Q Xm => mo ρ μ (fun d μ1 => isC c m d μ1 ∧ ma ρ μ1 (fun ds μ2 => fM (d :: (ds ++ dd)) μ2 Q Xm) Xm) Xm
theorem meth_of {K : PySem.W.Frag} {c : String} {σ : L2.St} {H : Hp} {Q : VK} (hd : ∀ P, Reps K P dv dd) (h : lE K T E (mMeth c m fM dd mo ma) σ H Q) : tMeth (ca K c) m (spF K T fM) dv E (lE K T E mo) (lA K T E ma) σ H Q := by
  obtain ⟨P, μ, φ, ρ, Qm, Xm, w, re, gq, gx, h⟩ := h
  refine ⟨P, μ, φ, ρ, _, Xm, w, re, fun d μ1 ⟨hc, h1⟩ P1 H1 v s1 w1 r1 => ?_, gx, h⟩
  obtain ⟨a, dx, fs, rfl, ha, hl⟩ := isC_of w1 r1 hc
  refine ⟨a, dx, fs, rfl, ha, hl, P1, μ1, φ, ρ, _, Xm, w1, re.mono s1, fun ds μ2 h2 P2 H2 xs s2 w2 r2 => ?_, gx.mono s1, h1⟩
  exact ⟨P2, μ2, φ, _, Qm, Xm, w2, .cons (r1.mono s2) (r2.app (hd P2)), gq.mono (s1.trans s2), gx.mono (s1.trans s2), h2⟩
theorem pm_meth {c : String} {pl : Sem Bool} (ho : PM X T E o mo) (cl : Cls X.K (ca X.K c)) (hm : Meth X.K (ca X.K c) m f) (D : DnM X.prog X.w X.K X.mg X.base T k f ps dvs fM) (j : Nat) (hr : Room k X.A) (hx : Passes (L2.CX X.prog X.w) X E) (ha : PAM X T E (e :: es) ma)
    (hd : ∀ P, Reps X.K P dv dd) (hj : j ≤ dvs.length := by decide) (hv : dvs.drop j = dv := by rfl)
    (hst : starEach (e :: es) X.env = (false, eval e X.env) :: starEach es X.env := by rfl) (hpl : (backTo pos (starEach es X.env)).any (·.1) = false := by rfl)
    (ht : eval (.Call (.Attribute o m apos) (e :: es) [] pos) X.env = (do
      let ov ← eval o X.env
      standAt apos.atName
      let (f, first) ← holding [ov] (getMethod ov m pl)
      callWith pos f first (backTo pos (starEach (e :: es) X.env)) (backToKw pos (keywordEach [] X.env))) := by rfl) :
    PM X T E (.Call (.Attribute o m apos) (e :: es) [] pos) (mMeth c m fM dd mo ma) := by
  obtain ⟨fd, G, b⟩ := D.ex
  obtain ⟨ds, v, b⟩ := b j hj
  rw [hv] at v
  exact PE.imp (pe_meth ho cl hm G hr b v hx ha hst hpl ht) fun σ H Q h => meth_of hd h
theorem pm_meth0 {c : String} {pl : Sem Bool} (ho : PM X T E o mo) (cl : Cls X.K (ca X.K c)) (hm : Meth X.K (ca X.K c) m f) (D : DnM X.prog X.w X.K X.mg X.base T k f ps dvs fM) (hr : Room k X.A) (hx : Passes (L2.CX X.prog X.w) X E) (hd : ∀ P, Reps X.K P dvs dd)
    (ht : eval (.Call (.Attribute o m apos) [] [] pos) X.env = (do
      let ov ← eval o X.env
      standAt apos.atName
      let (f, first) ← holding [ov] (getMethod ov m pl)
      callWith pos f first (backTo pos (starEach [] X.env)) (backToKw pos (keywordEach [] X.env))) := by rfl) :
    PM X T E (.Call (.Attribute o m apos) [] [] pos) (mMeth c m fM dd mo mNil) := by
  obtain ⟨fd, G, b⟩ := D.ex
  obtain ⟨ds, v, b⟩ := b 0 (Nat.zero_le _)
  refine PE.imp (pe_meth0 ho cl hm G hr b v hx ht) fun σ H Q h => ?_
  obtain ⟨P, μ, φ, ρ, Qm, Xm, w, re, gq, gx, h⟩ := h
  refine ⟨P, μ, φ, ρ, _, Xm, w, re, fun d μ1 ⟨hc, h1⟩ P1 H1 v s1 w1 r1 => ?_, gx, h⟩
  obtain ⟨a, dx, fs, rfl, ha, hl⟩ := isC_of w1 r1 hc
  exact ⟨a, dx, fs, rfl, ha, hl, P1, μ1, φ, _, Qm, Xm, w1, .cons r1 (hd P1), gq.mono s1, gx.mono s1, h1⟩
/-- C.m(..) of a static method -/
theorem pm_smeth {c : String} {q : Addr} {mc : Value} {pl : Sem Bool} (ho : PE X o (tC (.ref (ca X.K c)))) (r : CRead X.K (ca X.K c) mc) (sm : SMet X.K (ca X.K c) mc m q f) (D : DnM X.prog X.w X.K X.mg X.base T k f ps dvs fM) (j : Nat) (hr : Room k X.A) (hx : Passes (L2.CX X.prog X.w) X E) (ha : PAM X T E (e :: es) ma)
    (hd : ∀ P, Reps X.K P dv dd) (hj : j ≤ dvs.length := by decide) (hv : dvs.drop j = dv := by rfl)
    (hst : starEach (e :: es) X.env = (false, eval e X.env) :: starEach es X.env := by rfl) (hpl : (backTo pos (starEach es X.env)).any (·.1) = false := by rfl)
    (ht : eval (.Call (.Attribute o m apos) (e :: es) [] pos) X.env = (do
      let ov ← eval o X.env
      standAt apos.atName
      let (f, first) ← holding [ov] (getMethod ov m pl)
      callWith pos f first (backTo pos (starEach (e :: es) X.env)) (backToKw pos (keywordEach [] X.env))) := by rfl) :
    PM X T E (.Call (.Attribute o m apos) (e :: es) [] pos) (mCall fM dd ma) := by
  obtain ⟨fd, G, b⟩ := D.ex
  obtain ⟨ds, v, b⟩ := b j hj
  rw [hv] at v
  refine PE.imp (pe_smeth ho r sm G hr b v hx ha hst hpl ht) fun σ H Q h => ?_
  exact ⟨rfl, call_of hd h⟩
/-- e.f of a property -/
def insC (c : String) (d : D) (μ : MS) : Prop := match d with
  | .ins c' _ => c' = c
  | .ref a => (match μ a with
    | some (.ins c' _) => c' = c
    | _ => False)
  | _ => False
def mProp (c : String) (fM : FM) (mo : FE) : FE := fun ρ μ Q Xm => mo ρ μ (fun d μ1 => insC c d μ1 ∧ fM [d] μ1 Q (fun _ _ _ => False)) Xm
theorem insP {K : PySem.W.Frag} {c : String} {d : D} {μ : MS} {P φ H : Hp} {v : V} (w : Wd K T P μ φ H) (r : Rep K P v d) (h : insC c d μ) : ∃ a dx fs, v = .ref a ∧ H a = some (.ins (ca K c) dx fs) := by
  unfold insC at h
  split at h
  · subst h
    cases r with
    | ins h1 e1 r1 => exact ⟨_, _, _, rfl, w.sub _ _ h1⟩
  · rename_i a
    cases r
    split at h
    · rename_i c' fs q
      subst h
      obtain ⟨_, ob, hob, ro⟩ := w.cel a _ q
      cases ob with
      | ins C dx vs =>
        obtain ⟨rfl, rf⟩ : C = ca K c' ∧ RepF K P vs fs := ro
        exact ⟨a, dx, vs, rfl, hob⟩
      | _ => exact (show False from ro).elim
    · exact h.elim
  · exact h.elim
theorem pm_prop {c : String} {pa g : Addr} (ho : PM X T E o mo) (cl : Cls X.K (ca X.K c)) (hp : PropOf X.K (ca X.K c) m pa g) (D : DnM X.prog X.w X.K X.mg X.base T k g ps [] fM) (hr : Room (k + 1) X.A) (hab : attributeBase o m X.env (eval o X.env) = eval o X.env) : PM X T E (.Attribute o m pos) (mProp c fM mo) := by
  obtain ⟨fd, G, b⟩ := D.b0
  refine PE.imp (pe_prop (E := E0) ho cl hp G hr b .nil passL hab) fun σ H Q ⟨P, μ, φ, ρ, Qm, Xm, w, re, gq, gx, h⟩ => ?_
  refine ⟨P, μ, φ, ρ, _, Xm, w, re, fun d μ1 ⟨hc, h1⟩ P1 H1 v s1 w1 r1 => ?_, gx, h⟩
  obtain ⟨a, dx, fs, rfl, ha⟩ := insP w1 r1 hc
  exact ⟨a, dx, fs, rfl, ha, P1, μ1, φ, _, Qm, _, w1, .cons r1 .nil, gq.mono s1, GoX.false, h1⟩
/-- e.f of a field -/
def mFld (K : PySem.W.Frag) (mo : FE) (f : Str) : FE := fun ρ μ Q Xm => mo ρ μ (fun d μ1 => match d with
  | .ins c fs => Cls K (ca K c) ∧ NoAttr K (ca K c) f ∧ (match lkF f fs with
    | some v => Q v μ1
    | none => False)
  | .ref a => (match μ1 a with
    | some (.ins c fs) => Cls K (ca K c) ∧ NoAttr K (ca K c) f ∧ (match lkF f fs with
      | some v => Q v μ1
      | none => False)
    | _ => False)
  | _ => False) Xm
theorem pm_fld (ho : PM X T E o mo) (hb : attributeBase o m X.env (eval o X.env) = eval o X.env) : PM X T E (.Attribute o m pos) (mFld X.K mo m) := by
  refine PE.imp (pe_fld ho hb) fun σ H Q ⟨P, μ, φ, ρ, Qm, Xm, w, re, gq, gx, h⟩ => ?_
  refine ⟨P, μ, φ, ρ, _, Xm, w, re, fun d μ1 h1 P1 H1 v s1 w1 r1 => ?_, gx, h⟩
  split at h1
  · rename_i c fs
    obtain ⟨k1, k2, h1⟩ := h1
    cases r1 with
    | ins h2 e1 rr =>
      split at h1
      · rename_i v' hv
        obtain ⟨u, hu, ru⟩ := RepF.look ⟨e1, rr⟩ hv
        exact ⟨_, _, _, _, u, rfl, w1.sub _ _ h2, k1, k2, hu, gq _ _ h1 P1 H1 _ s1 w1 ru⟩
      · exact h1.elim
  · rename_i a
    cases r1
    split at h1
    · rename_i c fs q
      obtain ⟨k1, k2, h1⟩ := h1
      obtain ⟨_, ob, hob, ro⟩ := w1.cel a _ q
      cases ob with
      | ins C dx vs =>
        obtain ⟨rfl, rf⟩ : C = ca X.K c ∧ RepF X.K P1 vs fs := ro
        split at h1
        · rename_i v' hv
          obtain ⟨u, hu, ru⟩ := rf.look hv
          exact ⟨a, _, dx, vs, u, rfl, hob, k1, k2, hu, gq _ _ h1 P1 H1 _ s1 w1 ru⟩
        · exact h1.elim
      | _ => exact (show False from ro).elim
    · exact h1.elim
  · exact h1.elim
/-- one or the other -/
def eAlt (m1 m2 : FE) : FE := fun ρ μ Q Xm => m1 ρ μ Q Xm ∨ m2 ρ μ Q Xm
theorem PM.alt {m1 m2 : FE} (h1 : PM X T E e m1) (h2 : PM X T E e m2) : PM X T E e (eAlt m1 m2) := ⟨fun pins s σ H Q I ⟨P, μ, φ, ρ, Qm, Xm, w, re, gq, gx, h⟩ => by
  rcases h with h | h
  · exact h1.run pins s σ H Q I ⟨P, μ, φ, ρ, Qm, Xm, w, re, gq, gx, h⟩
  · exact h2.run pins s σ H Q I ⟨P, μ, φ, ρ, Qm, Xm, w, re, gq, gx, h⟩⟩
end
end Mz

namespace Mz
open PySem PySem.Spec PyProof.Rows L2 AzX ClX LamX Hz He Az
/-! ### own operators -/
/-- the type of a value -/
def tyD (K : PySem.W.Frag) (d : D) (μ : MS) : Option Value := match d with
  | .non => some (.type "NoneType")
  | .bl _ => some (.type "bool")
  | .int _ => some (.type "int")
  | .str _ => some (.type "str")
  | .tup _ => some (.type "tuple")
  | .lst _ => some (.type "list")
  | .wls _ => some (.type "list")
  | .dict _ => some (.type "dict")
  | .ins c _ => some (.ref (ca K c))
  | .ref a => (match μ a with
    | some (.lst _) => some (.type "list")
    | some (.dict _) => some (.type "dict")
    | some (.ins c _) => some (.ref (ca K c))
    | none => none)
  | _ => none
section
variable {X : Cx} {T : Tx} {E : XK} {pins : List (Addr × Obj)} {σ : L2.St} {H P φ : Hp} {s : Shared} {μ : MS} {v : V} {u : Value} {d : D} {t : Value}
theorem rd_list {a : Addr} {vs : List V} (I : Inv X pins σ H s) (h : SqL X.K H a vs) : PySem.W.Looks (model X.prog X.w) s.heap (typeOf (.ref a)) (.type "list") := by
  rcases h with (h | ⟨o, h⟩) | ⟨o, its, n, h, hc, _⟩
  · obtain ⟨_, i, n, _, e⟩ := I.hok a _ h
    exact ty_obj e
  · obtain ⟨_, _, i, n, _, e⟩ := I.hok a _ h
    exact ty_obj e
  · have := ty_obj (X := X) (s := s) (I.kIn a o h)
    rw [hc] at this
    exact this
theorem rd_tup {a : Addr} {vs : List V} (I : Inv X pins σ H s) (h : SqT X.K H a vs) : PySem.W.Looks (model X.prog X.w) s.heap (typeOf (.ref a)) (.type "tuple") := by
  have istup : ∀ {vs : Array Value}, IsTup s.heap a vs → PySem.W.Looks (model X.prog X.w) s.heap (typeOf (.ref a)) (.type "tuple") := fun ⟨o, e, c, _⟩ => by
    have := ty_obj (X := X) (s := s) e
    rw [c] at this
    exact this
  rcases h with (h | ⟨o, h⟩) | ⟨o, its, n, h, hc, _⟩
  · obtain ⟨_, i, _, e⟩ := I.hok a _ h
    exact istup e
  · obtain ⟨_, _, i, _, e⟩ := I.hok a _ h
    exact istup e
  · have := ty_obj (X := X) (s := s) (I.kIn a o h)
    rw [hc] at this
    exact this
theorem tyD_looks (I : Inv X pins σ H s) (w : Wd X.K T P μ φ H) (rx : RelV v u) (r : Rep X.K P v d) (h : tyD X.K d μ = some t) : PySem.W.Looks (model X.prog X.w) s.heap (typeOf u) t := by
  cases r with
  | non => cases rx; cases h; exact PySem.W.Looks.of_pure rfl
  | bl b => cases rx; cases h; exact PySem.W.Looks.of_pure rfl
  | int i => obtain ⟨_, rfl⟩ := rx; cases h; exact PySem.W.Looks.of_pure rfl
  | str x => obtain ⟨_, rfl⟩ := rx; cases h; exact PySem.W.Looks.of_pure rfl
  | ty n => cases h
  | tup h1 r => cases rx; cases h; exact rd_tup I (TuA.sq w.sub h1)
  | lst h1 r => cases rx; cases h; exact rd_list I (SqL.of (w.sub _ _ h1))
  | wls h1 r => cases rx; cases h; exact rd_list I (SqL.same w.sub h1)
  | dict h1 e r =>
    cases rx; cases h
    obtain ⟨_, _, vs, _, o, es, ep, e1, hx, _⟩ := I.hok _ _ (w.sub _ _ h1)
    have := ty_obj (X := X) (s := s) e1
    rw [hx.1] at this
    exact this
  | ins h1 e r =>
    cases rx; cases h
    obtain ⟨od, J⟩ := inst_of I (w.sub _ _ h1)
    exact J.type
  | exc h1 hd e r => cases h
  | ref a =>
    cases rx
    unfold tyD at h
    dsimp only at h
    split at h
    · rename_i ds q
      cases h
      obtain ⟨_, o, ho, ro⟩ := w.cel a _ q
      cases o with
      | lst vs => exact rd_list I (SqL.of ho)
      | _ => exact (show False from ro).elim
    · rename_i ds q
      cases h
      obtain ⟨_, o, ho, ro⟩ := w.cel a _ q
      cases o with
      | dK vs =>
        obtain ⟨_, _, vs, _, o, es, ep, e1, hx, _⟩ := I.hok _ _ ho
        have := ty_obj (X := X) (s := s) e1
        rw [hx.1] at this
        exact this
      | _ => exact (show False from ro).elim
    · rename_i c fs q
      cases h
      obtain ⟨_, o, ho, ro⟩ := w.cel a _ q
      cases o with
      | ins C dx vs =>
        obtain ⟨rfl, _⟩ : C = ca X.K c ∧ _ := ro
        obtain ⟨od, J⟩ := inst_of I ho
        exact J.type
      | _ => exact (show False from ro).elim
    · cases h
theorem OpM.of {f : Value → Value → Sem Value} {m : M2}
    (h : ∀ (pins : List (Addr × Obj)) (s : Shared) (σ : L2.St) (H : Hp) (x y : V) (v u : Value) (Q : VK) (P : Hp) (μ : MS) (φ : Hp) (d1 d2 : D) (Qm : D → MS → Prop) (Xm : MX), Inv X pins σ H s → RelV x v → RelV y u → Wd X.K T P μ φ H → Rep X.K P x d1 → Rep X.K P y d2 → Go X.K T (Rep X.K) P φ Qm Q → GoX X.K T P φ Xm E → m d1 d2 μ Qm Xm →
      wpAny (model X.prog X.w) X.A (f v u) (EP X pins σ Q) X.xe s) : OpM X T E f m :=
  ⟨fun x y H Q => ∃ P μ φ d1 d2 Qm Xm, Wd X.K T P μ φ H ∧ Rep X.K P x d1 ∧ Rep X.K P y d2 ∧ Go X.K T (Rep X.K) P φ Qm Q ∧ GoX X.K T P φ Xm E ∧ m d1 d2 μ Qm Xm,
    fun pins s σ H x y v u Q I rx ry ⟨P, μ, φ, d1, d2, Qm, Xm, w, r1, r2, gq, gx, hm⟩ => h pins s σ H x y v u Q P μ φ d1 d2 Qm Xm I rx ry w r1 r2 gq gx hm,
    fun P μ φ H x y d1 d2 Qm Xm Q w r1 r2 gq gx hm => ⟨P, μ, φ, d1, d2, Qm, Xm, w, r1, r2, gq, gx, hm⟩⟩
/-- what may stand beside an instance of c in an operator -/
def yOk (c : String) : D → Prop
  | .ins c' _ => c' = c
  | .ref _ => False
  | .exc _ _ => False
  | .ty _ => False
  | _ => True
abbrev btys : List String := ["int", "bool", "NoneType", "str", "tuple", "list", "dict"]
structure OpTs (K : PySem.W.Frag) (c nm : String) : Prop where
  ts : ∀ t, t ∈ btys → OpT K (ca K c) nm t
theorem yOk_ty {K : PySem.W.Frag} {c : String} (h : yOk c d) : (∃ fs, d = .ins c fs) ∨ ∃ t, t ∈ btys ∧ tyD K d μ = some (.type t) := by
  cases d with
  | ins c' fs => cases (show c' = c from h); exact .inl ⟨fs, rfl⟩
  | ref a => exact h.elim
  | exc c fs => exact h.elim
  | ty n => exact h.elim
  | non => exact .inr ⟨_, by decide, rfl⟩
  | bl b => exact .inr ⟨_, by decide, rfl⟩
  | int i => exact .inr ⟨_, by decide, rfl⟩
  | str x => exact .inr ⟨_, by decide, rfl⟩
  | tup ds => exact .inr ⟨_, by decide, rfl⟩
  | lst ds => exact .inr ⟨_, by decide, rfl⟩
  | wls ds => exact .inr ⟨_, by decide, rfl⟩
  | dict ds => exact .inr ⟨_, by decide, rfl⟩
section
variable {c nm : String} {f g : Addr} {k : Nat} {ps : List Str} {fM : FM} {op : Operator} {cop : CmpOp} {C : Addr}
def mOwn (c : String) (fM : FM) : M2 := fun d1 d2 μ Q Xm => match d1 with
  | .ins c' _ => c' = c ∧ yOk c d2 ∧ fM [d1, d2] μ Q Xm
  | _ => False
theorem rep_ins {K : PySem.W.Frag} {c : String} {fs : List (Str × D)} (w : Wd K T P μ φ H) (r : Rep K P v (.ins c fs)) : ∃ a dx vs, v = .ref a ∧ H a = some (.ins (ca K c) dx vs) := by
  cases r with
  | ins h1 e r => exact ⟨_, _, _, rfl, w.sub _ _ h1⟩
theorem opm_own (oc : OpC X.K (ca X.K c) op.info.2 f g) (ot : OpTs X.K c op.info.2) (D : DnM X.prog X.w X.K X.mg X.base T k f ps [] fM) (hr : Room k X.A) (hx : Passes (L2.CX X.prog X.w) X E) : OpM X T E (binaryOp op) (mOwn c fM) := by
  obtain ⟨fd, F, b⟩ := D.b0
  refine OpM.of fun pins s σ H x y v u Q P μ φ d1 d2 Qm Xm I rx ry w r1 r2 gq gx h => ?_
  unfold mOwn at h
  split at h
  · rename_i c' fs
    obtain ⟨rfl, hy, h⟩ := h
    obtain ⟨a, dx, vs, rfl, ha⟩ := rep_ins w r1
    cases (show v = Value.ref a from rx)
    obtain ⟨od, J⟩ := inst_of I ha
    have one := run_back (us := [.ref a, u]) (vs := [.ref a, y]) F hr b hx I (.cons rfl (.cons ry .nil)) (show spF X.K T fM [.ref a, y] H Q E from ⟨P, μ, φ, _, Qm, Xm, w, .cons r1 (.cons r2 .nil), gq, gx, h⟩)
    rcases yOk_ty (K := X.K) (μ := μ) hy with ⟨fs2, rfl⟩ | ⟨t, ht, hty⟩
    · obtain ⟨a2, dx2, vs2, rfl, ha2⟩ := rep_ins w r2
      cases (show u = Value.ref a2 from ry)
      obtain ⟨od2, J2⟩ := inst_of I ha2
      exact bin_of1 (bin1_same I.kIn J J2.type oc.first oc.m oc.fn one)
    · obtain ⟨fo, ro, h1, h2, h3⟩ := ot.ts t ht
      exact bin_of1 (bin1_type I.kIn J (tyD_looks I w ry r2 hty) oc.first oc.m oc.fn oc.r (.inr ⟨g, rfl⟩) h1 h2 h3 one)
  · exact h.elim
def mOwnR (c : String) (fM : FM) : M2 := fun d1 d2 μ Q Xm => match d1, d2 with
  | .int _, .ins c' _ => c' = c ∧ fM [d2, d1] μ Q Xm
  | _, _ => False
theorem opm_ownR {id name : String} {gi : Int → Int → Sem Fin} (oc : OpC X.K (ca X.K c) op.info.2 g f) (hfi : fillsNumberSlot (.type "int") op.info.2 = pure true) (hsl : Slot "int" (PySem.dunder op.info.2) id) (hen : entryFor table id = some (Builtin.Int.intBinary name gi false)) (har : ∀ a b, argsOk id ⟨[a, b], []⟩)
    (D : DnM X.prog X.w X.K X.mg X.base T k f ps [] fM) (hr : Room k X.A) (hx : Passes (L2.CX X.prog X.w) X E) : OpM X T E (binaryOp op) (mOwnR c fM) := by
  obtain ⟨fd, F, b⟩ := D.b0
  refine OpM.of fun pins s σ H x y v u Q P μ φ d1 d2 Qm Xm I rx ry w r1 r2 gq gx h => ?_
  unfold mOwnR at h
  split at h
  · rename_i i c' fs
    obtain ⟨rfl, h⟩ := h
    cases r1
    obtain ⟨a, dx, vs, rfl, ha⟩ := rep_ins w r2
    obtain ⟨t, rfl⟩ := rx
    cases (show u = Value.ref a from ry)
    obtain ⟨od, J⟩ := inst_of I ha
    have one := run_back (us := [.ref a, .int i t]) (vs := [.ref a, .int i]) F hr b hx I (.cons rfl (.cons ⟨t, rfl⟩ .nil)) (show spF X.K T fM [.ref a, .int i] H Q E from ⟨P, μ, φ, _, Qm, Xm, w, .cons r2 (.cons (.int i) .nil), gq, gx, h⟩)
    exact bin_of1 (bin1_refl I.kIn J (fun p z => nomatch z) oc.first hfi hsl hen (har _ _) oc.m oc.r oc.rfn oc.noInt one)
  · exact h.elim
theorem add_ownR (oc : OpC X.K (ca X.K c) "add" g f) (D : DnM X.prog X.w X.K X.mg X.base T k f ps [] fM) (hr : Room k X.A) (hx : Passes (L2.CX X.prog X.w) X E) : OpM X T E (binaryOp .Add) (mOwnR c fM) :=
  opm_ownR (op := .Add) oc PySem.F.fills_int_add PySem.F.slot_int_add PySem.F.entry_int_add (fun _ _ => PySem.F.args_int_add_2 _ _) D hr hx
theorem sub_ownR (oc : OpC X.K (ca X.K c) "sub" g f) (D : DnM X.prog X.w X.K X.mg X.base T k f ps [] fM) (hr : Room k X.A) (hx : Passes (L2.CX X.prog X.w) X E) : OpM X T E (binaryOp .Sub) (mOwnR c fM) :=
  opm_ownR (op := .Sub) oc (by kernel_rfl) PySem.F.slot_int_sub PySem.F.entry_int_sub (fun _ _ => PySem.F.args_int_sub_2 _ _) D hr hx
theorem mul_ownR (oc : OpC X.K (ca X.K c) "mul" g f) (D : DnM X.prog X.w X.K X.mg X.base T k f ps [] fM) (hr : Room k X.A) (hx : Passes (L2.CX X.prog X.w) X E) : OpM X T E (binaryOp .Mult) (mOwnR c fM) :=
  opm_ownR (op := .Mult) oc (by kernel_rfl) PySem.F.slot_int_mul PySem.F.entry_int_mul (fun _ _ => PySem.F.args_int_mul_2 _ _) D hr hx
theorem mod_ownR (oc : OpC X.K (ca X.K c) "mod" g f) (D : DnM X.prog X.w X.K X.mg X.base T k f ps [] fM) (hr : Room k X.A) (hx : Passes (L2.CX X.prog X.w) X E) : OpM X T E (binaryOp .Mod) (mOwnR c fM) :=
  opm_ownR (op := .Mod) oc (by kernel_rfl) PySem.F.slot_int_mod PySem.F.entry_int_mod (fun _ _ => PySem.F.args_int_mod_2 _ _) D hr hx
/-! comparisons -/
/-- no subclass of c comes ahead -/
structure NoF (K : PySem.W.Frag) (c : String) (others : List String) : Prop where
  ts : ∀ t, t ∈ btys → PySem.W.subIn K (.type t) (.ref (ca K c)) = some false
  os : ∀ c', c' ∈ others → PySem.W.subIn K (.ref (ca K c')) (.ref (ca K c)) = some false
def cOk (c : String) (others : List String) : D → Prop
  | .ins c' _ => c' = c ∨ c' ∈ others
  | d => yOk c d
theorem cOk_ty {K : PySem.W.Frag} {others : List String} (nf : NoF K c others) (h : cOk c others d) : ∃ tb, tyD K d μ = some tb ∧ PySem.W.notFirst K (ca K c) tb = true := by
  have tyc : ∀ t, t ∈ btys → tyD K d μ = some (.type t) → ∃ tb, tyD K d μ = some tb ∧ PySem.W.notFirst K (ca K c) tb = true := fun t ht e => ⟨_, e, by unfold PySem.W.notFirst; simp [nf.ts t ht]⟩
  cases d with
  | ins c' fs =>
    refine ⟨_, rfl, ?_⟩
    rcases h with rfl | h
    · unfold PySem.W.notFirst; simp
    · unfold PySem.W.notFirst; simp [nf.os c' h]
  | ref a => exact (show False from h).elim
  | exc c fs => exact (show False from h).elim
  | ty n => exact (show False from h).elim
  | non => exact tyc _ (by decide) rfl
  | bl b => exact tyc _ (by decide) rfl
  | int i => exact tyc _ (by decide) rfl
  | str x => exact tyc _ (by decide) rfl
  | tup ds => exact tyc _ (by decide) rfl
  | lst ds => exact tyc _ (by decide) rfl
  | wls ds => exact tyc _ (by decide) rfl
  | dict ds => exact tyc _ (by decide) rfl
def mCmpO (c : String) (others : List String) (fM : FM) : M2 := fun d1 d2 μ Q Xm => match d1 with
  | .ins c' _ => c' = c ∧ cOk c others d2 ∧ fM [d1, d2] μ Q Xm
  | _ => False
theorem opm_cmp {others : List String} (hop : compareOp cop = richCompare cop) (cc : CmC X.K (ca X.K c) (cmpInfo cop).2.1 f) (nf : NoF X.K c others) (D : DnM X.prog X.w X.K X.mg X.base T k f ps [] fM) (hr : Room k X.A) (hx : Passes (L2.CX X.prog X.w) X E) : OpM X T E (compareOp cop) (mCmpO c others fM) := by
  obtain ⟨fd, F, b⟩ := D.b0
  refine OpM.of fun pins s σ H x y v u Q P μ φ d1 d2 Qm Xm I rx ry w r1 r2 gq gx h => ?_
  unfold mCmpO at h
  split at h
  · rename_i c' fs
    obtain ⟨rfl, hy, h⟩ := h
    obtain ⟨a, dx, vs, rfl, ha⟩ := rep_ins w r1
    cases (show v = Value.ref a from rx)
    obtain ⟨od, J⟩ := inst_of I ha
    have hu : X.A.units < cLine := by have := hr.units; omega
    have one := run_back (us := [.ref a, u]) (vs := [.ref a, y]) F hr b hx I (.cons rfl (.cons ry .nil)) (show spF X.K T fM [.ref a, y] H Q E from ⟨P, μ, φ, _, Qm, Xm, w, .cons r1 (.cons r2 .nil), gq, gx, h⟩)
    rw [hop]
    obtain ⟨tb, hty, hn⟩ := cOk_ty (μ := μ) nf hy
    exact AzX.cmp_own hu I.kIn J (tyD_looks I w ry r2 hty) hn cc.m cc.fn one
  · exact h.elim
theorem opm_cmpR {id name : String} {gi : Int → Int → Sem Fin} (hop : compareOp cop = richCompare cop) (hsl : Slot "int" (cmpInfo cop).2.1 id) (hen : entryFor table id = some (Builtin.Int.intBinary name gi false)) (har : ∀ a b, argsOk id ⟨[a, b], []⟩)
    (cc : CmC X.K (ca X.K c) (cmpInfo cop).2.2 f) (hs : PySem.W.subIn X.K (.ref (ca X.K c)) (.type "int") = some false) (D : DnM X.prog X.w X.K X.mg X.base T k f ps [] fM) (hr : Room k X.A) (hx : Passes (L2.CX X.prog X.w) X E) : OpM X T E (compareOp cop) (mOwnR c fM) := by
  obtain ⟨fd, F, b⟩ := D.b0
  refine OpM.of fun pins s σ H x y v u Q P μ φ d1 d2 Qm Xm I rx ry w r1 r2 gq gx h => ?_
  unfold mOwnR at h
  split at h
  · rename_i i c' fs
    obtain ⟨rfl, h⟩ := h
    cases r1
    obtain ⟨a, dx, vs, rfl, ha⟩ := rep_ins w r2
    obtain ⟨t, rfl⟩ := rx
    cases (show u = Value.ref a from ry)
    obtain ⟨od, J⟩ := inst_of I ha
    have hu : X.A.units < cLine := by have := hr.units; omega
    have one := run_back (us := [.ref a, .int i t]) (vs := [.ref a, .int i]) F hr b hx I (.cons rfl (.cons ⟨t, rfl⟩ .nil)) (show spF X.K T fM [.ref a, .int i] H Q E from ⟨P, μ, φ, _, Qm, Xm, w, .cons r2 (.cons (.int i) .nil), gq, gx, h⟩)
    rw [hop]
    exact AzX.cmp_refl hu I.kIn J (fun p z => nomatch z) hsl hen (har _ _) cc.m cc.fn hs one
  · exact h.elim
section
variable {others : List String} (nf : NoF X.K c others) (D : DnM X.prog X.w X.K X.mg X.base T k f ps [] fM) (hr : Room k X.A) (hx : Passes (L2.CX X.prog X.w) X E) (hs : PySem.W.subIn X.K (.ref (ca X.K c)) (.type "int") = some false)
include nf D hr hx in
theorem lt_own (cc : CmC X.K (ca X.K c) "__lt__" f) : OpM X T E (compareOp .Lt) (mCmpO c others fM) := opm_cmp (cop := .Lt) rfl cc nf D hr hx
include nf D hr hx in
theorem le_own (cc : CmC X.K (ca X.K c) "__le__" f) : OpM X T E (compareOp .LtE) (mCmpO c others fM) := opm_cmp (cop := .LtE) rfl cc nf D hr hx
include nf D hr hx in
theorem gt_own (cc : CmC X.K (ca X.K c) "__gt__" f) : OpM X T E (compareOp .Gt) (mCmpO c others fM) := opm_cmp (cop := .Gt) rfl cc nf D hr hx
include nf D hr hx in
theorem ge_own (cc : CmC X.K (ca X.K c) "__ge__" f) : OpM X T E (compareOp .GtE) (mCmpO c others fM) := opm_cmp (cop := .GtE) rfl cc nf D hr hx
include nf D hr hx in
theorem eq_own (cc : CmC X.K (ca X.K c) "__eq__" f) : OpM X T E (compareOp .Eq) (mCmpO c others fM) := opm_cmp (cop := .Eq) rfl cc nf D hr hx
include hs D hr hx in
theorem lt_ownR (cc : CmC X.K (ca X.K c) "__gt__" f) : OpM X T E (compareOp .Lt) (mOwnR c fM) := opm_cmpR (cop := .Lt) rfl PySem.F.slot_int_lt PySem.F.entry_int_lt (fun _ _ => PySem.F.args_int_lt_2 _ _) cc hs D hr hx
include hs D hr hx in
theorem le_ownR (cc : CmC X.K (ca X.K c) "__ge__" f) : OpM X T E (compareOp .LtE) (mOwnR c fM) := opm_cmpR (cop := .LtE) rfl PySem.F.slot_int_le PySem.F.entry_int_le (fun _ _ => PySem.F.args_int_le_2 _ _) cc hs D hr hx
include hs D hr hx in
theorem gt_ownR (cc : CmC X.K (ca X.K c) "__lt__" f) : OpM X T E (compareOp .Gt) (mOwnR c fM) := opm_cmpR (cop := .Gt) rfl PySem.F.slot_int_gt PySem.F.entry_int_gt (fun _ _ => PySem.F.args_int_gt_2 _ _) cc hs D hr hx
include hs D hr hx in
theorem ge_ownR (cc : CmC X.K (ca X.K c) "__le__" f) : OpM X T E (compareOp .GtE) (mOwnR c fM) := opm_cmpR (cop := .GtE) rfl PySem.F.slot_int_ge PySem.F.entry_int_ge (fun _ _ => PySem.F.args_int_ge_2 _ _) cc hs D hr hx
include hs D hr hx in
theorem eq_ownR (cc : CmC X.K (ca X.K c) "__eq__" f) : OpM X T E (compareOp .Eq) (mOwnR c fM) := opm_cmpR (cop := .Eq) rfl PySem.F.slot_int_eq PySem.F.entry_int_eq (fun _ _ => PySem.F.args_int_eq_2 _ _) cc hs D hr hx
end
/-- != by an own __eq__ -/
def kNotM (Q : D → MS → Prop) : D → MS → Prop := fun d μ => match d with
  | .bl b => Q (.bl (!b)) μ
  | _ => False
def mNeO (c : String) (others : List String) (fM : FM) : M2 := fun d1 d2 μ Q Xm => match d1 with
  | .ins c' _ => c' = c ∧ cOk c others d2 ∧ fM [d1, d2] μ (kNotM Q) Xm
  | _ => False
def mNeR (c : String) (fM : FM) : M2 := fun d1 d2 μ Q Xm => match d1, d2 with
  | .int _, .ins c' _ => c' = c ∧ fM [d2, d1] μ (kNotM Q) Xm
  | _, _ => False
theorem go_not {K : PySem.W.Frag} {Qm : D → MS → Prop} {Q : VK} (gq : Go K T (Rep K) P φ Qm Q) : Go K T (Rep K) P φ (kNotM Qm) (kNot Q) := fun d μ h P' H' v s w r => by
  unfold kNotM at h
  split at h
  · cases r; exact ⟨_, rfl, gq _ _ h P' H' _ s w (.bl _)⟩
  · exact h.elim
theorem ne_own {others : List String} (nf : NoF X.K c others) (N : NeC X.K (ca X.K c) f) (D : DnM X.prog X.w X.K X.mg X.base T k f ps [] fM) (hr : Room (k + 1) X.A) (hx : Passes (L2.CX X.prog X.w) X E) : OpM X T E (compareOp .NotEq) (mNeO c others fM) := by
  obtain ⟨fd, F, b⟩ := D.b0
  refine OpM.of fun pins s σ H x y v u Q P μ φ d1 d2 Qm Xm I rx ry w r1 r2 gq gx h => ?_
  unfold mNeO at h
  split at h
  · rename_i c' fs
    obtain ⟨rfl, hy, h⟩ := h
    obtain ⟨a, dx, vs, rfl, ha⟩ := rep_ins w r1
    cases (show v = Value.ref a from rx)
    obtain ⟨od, J⟩ := inst_of I ha
    have hu : X.A.units + 1 < cLine := by have := hr.units; omega
    have one : wpAny (model X.prog X.w) X.A.in1 (call (.ref f) [.ref a, u]) (NeB2 (EP X pins σ Q)) X.xe s :=
      wpAny_mono (run_in (A := X.A.in1) (us := [.ref a, u]) (vs := [.ref a, y]) F hr.in1 rfl b hx I (.cons rfl (.cons ry .nil)) (show spF X.K T fM [.ref a, y] H (kNot Q) E from ⟨P, μ, φ, _, _, Xm, w, .cons r1 (.cons r2 .nil), go_not gq, gx, h⟩)) (fun _ _ z => ne_back z) fun _ _ z => z
    show wpAny _ _ (richCompare .NotEq (.ref a) u) _ _ _
    obtain ⟨tb, hty, hn⟩ := cOk_ty (μ := μ) nf hy
    exact AzX.ne_own hu I.kIn J (tyD_looks I w ry r2 hty) hn N.ob N.ne N.eq N.fn one
  · exact h.elim
theorem ne_ownR (N : NeC X.K (ca X.K c) f) (D : DnM X.prog X.w X.K X.mg X.base T k f ps [] fM) (hr : Room (k + 1) X.A) (hx : Passes (L2.CX X.prog X.w) X E) : OpM X T E (compareOp .NotEq) (mNeR c fM) := by
  obtain ⟨fd, F, b⟩ := D.b0
  refine ⟨_, Az.ne_ownR N F hr b hx, fun P μ φ H x y d1 d2 Qm Xm Q w r1 r2 gq gx h => ?_⟩
  unfold mNeR at h
  split at h
  · rename_i i c' fs
    obtain ⟨rfl, h⟩ := h
    cases r1
    obtain ⟨a, dx, vs, rfl, ha⟩ := rep_ins w r2
    exact ⟨i, a, dx, vs, rfl, rfl, ha, P, μ, φ, _, _, Xm, w, .cons r2 (.cons (.int i) .nil), go_not gq, gx, h⟩
  · exact h.elim
/-- -x -/
def mOwnU (c : String) (fM : FM) : M1 := fun d μ Q Xm => match d with
  | .ins c' _ => c' = c ∧ fM [d] μ Q Xm
  | _ => False
theorem neg_own (cc : CmC X.K (ca X.K c) "__neg__" f) (D : DnM X.prog X.w X.K X.mg X.base T k f ps [] fM) (hr : Room k X.A) (hx : Passes (L2.CX X.prog X.w) X E) : UnM X T E (unaryOp .USub) (mOwnU c fM) := by
  obtain ⟨fd, F, b⟩ := D.b0
  refine ⟨_, un_negO cc.m cc.fn F hr b hx, fun P μ φ H x d1 Qm Xm Q w r1 gq gx h => ?_⟩
  unfold mOwnU at h
  split at h
  · rename_i c' fs
    obtain ⟨rfl, h⟩ := h
    obtain ⟨a, dx, vs, rfl, ha⟩ := rep_ins w r1
    exact ⟨a, dx, vs, rfl, ha, P, μ, φ, _, Qm, Xm, w, .cons r1 .nil, gq, gx, h⟩
  · exact h.elim
/-- truth by __bool__ -/
def kBlM (Q : Bool → MS → Prop) : D → MS → Prop := fun d μ => match d with
  | .bl b => Q b μ
  | _ => False
theorem go_bl {K : PySem.W.Frag} {Qm : Bool → MS → Prop} {Q : Bool → Hp → Prop} (gq : Go K T (fun _ a b => a = b) P φ Qm Q) : Go K T (Rep K) P φ (kBlM Qm) (kBl Q) := fun d μ h P' H' v s w r => by
  unfold kBlM at h
  split at h
  · cases r; exact ⟨_, rfl, gq _ _ h P' H' _ s w rfl⟩
  · exact h.elim
def mTruO (c : String) (fM : FM) : D → MS → (Bool → MS → Prop) → MX → Prop := fun d μ Q Xm => match d with
  | .ins c' _ => c' = c ∧ fM [d] μ (kBlM Q) Xm
  | _ => False
theorem tru_ownM (cc : CmC X.K (ca X.K c) "__bool__" f) (D : DnM X.prog X.w X.K X.mg X.base T k f ps [] fM) (hr : Room k X.A) (hx : Passes (L2.CX X.prog X.w) X E) : TruM X T E (mTruO c fM) := by
  obtain ⟨fd, F, b⟩ := D.b0
  refine ⟨_, Az.tru_own cc.m cc.fn F hr b hx, fun P μ φ H x d1 Qm Xm Q w r1 gq gx h => ?_⟩
  unfold mTruO at h
  split at h
  · rename_i c' fs
    obtain ⟨rfl, h⟩ := h
    obtain ⟨a, dx, vs, rfl, ha⟩ := rep_ins w r1
    exact ⟨a, dx, vs, rfl, ha, P, μ, φ, _, _, Xm, w, .cons r1 .nil, go_bl gq, gx, h⟩
  · exact h.elim
/-! ### built-in functions by values -/
def CallM (X : Cx) (T : Tx) (E : XK) (f : Value) (m : FM) : Prop := ∃ r : List V → Hp → VK → Prop, CallR X f r ∧ ∀ P μ φ H xs ds Qm Xm Q, Wd X.K T P μ φ H → Reps X.K P xs ds → Go X.K T (Rep X.K) P φ Qm Q → GoX X.K T P φ Xm E → m ds μ Qm Xm → r xs H Q
def fAlt (m1 m2 : FM) : FM := fun ds μ Q X => m1 ds μ Q X ∨ m2 ds μ Q X
theorem CallM.alt {f : Value} {m1 m2 : FM} (h1 : CallM X T E f m1) (h2 : CallM X T E f m2) : CallM X T E f (fAlt m1 m2) := by
  obtain ⟨r1, o1, k1⟩ := h1
  obtain ⟨r2, o2, k2⟩ := h2
  refine ⟨fun xs H Q => r1 xs H Q ∨ r2 xs H Q, fun pins s σ H xs us Q I rx h => h.elim (o1 pins s σ H xs us Q I rx) (o2 pins s σ H xs us Q I rx), fun P μ φ H xs ds Qm Xm Q w r gq gx h => ?_⟩
  exact h.imp (k1 P μ φ H xs ds Qm Xm Q w r gq gx) (k2 P μ φ H xs ds Qm Xm Q w r gq gx)
def mBoolO (c : String) (fM : FM) : FM := fun ds μ Q Xm => match ds with
  | [.ins c' fs] => c' = c ∧ fM [.ins c' fs] μ (kBlM fun b μ' => Q (.bl b) μ') Xm
  | _ => False
theorem bool_own (cc : CmC X.K (ca X.K c) "__bool__" f) (D : DnM X.prog X.w X.K X.mg X.base T k f ps [] fM) (hr : Room (k + 2) X.A) (hx : Passes (L2.CX X.prog X.w) X E) : CallM X T E (.type "bool") (mBoolO c fM) := by
  obtain ⟨fd, F, b⟩ := D.b0
  refine ⟨_, call_boolO cc.m cc.fn F hr b hx, fun P μ φ H xs ds Qm Xm Q w r gq gx h => ?_⟩
  unfold mBoolO at h
  split at h
  · rename_i c' fs
    obtain ⟨rfl, h⟩ := h
    cases r with
    | cons r1 rn =>
      cases rn
      obtain ⟨a, dx, vs, rfl, ha⟩ := rep_ins w r1
      exact ⟨a, dx, vs, rfl, ha, P, μ, φ, _, _, Xm, w, .cons r1 .nil, go_bl fun bb μ' h P' H' v s w r => by subst r; exact gq _ _ h P' H' _ s w (.bl _), gx, h⟩
  · exact h.elim
/-- str(x) by __str__ -/
def kStrM (Q : D → MS → Prop) : D → MS → Prop := fun d μ => match d with
  | .str x => Q (.str x) μ
  | _ => False
def mStrO (c : String) (fM : FM) : FM := fun ds μ Q Xm => match ds with
  | [.ins c' fs] => c' = c ∧ fM [.ins c' fs] μ (kStrM Q) Xm
  | _ => False
theorem str_own (cc : CmC X.K (ca X.K c) "__str__" f) (D : DnM X.prog X.w X.K X.mg X.base T k f ps [] fM) (hr : Room (k + 2) X.A) (hx : Passes (L2.CX X.prog X.w) X E) : CallM X T E (.type "str") (mStrO c fM) := by
  obtain ⟨fd, F, b⟩ := D.b0
  refine ⟨_, call_strO cc.m cc.fn F hr b hx, fun P μ φ H xs ds Qm Xm Q w r gq gx h => ?_⟩
  unfold mStrO at h
  split at h
  · rename_i c' fs
    obtain ⟨rfl, h⟩ := h
    cases r with
    | cons r1 rn =>
      cases rn
      obtain ⟨a, dx, vs, rfl, ha⟩ := rep_ins w r1
      refine ⟨a, dx, vs, rfl, ha, P, μ, φ, _, _, Xm, w, .cons r1 .nil, fun d μ' h P' H' v s w r => ?_, gx, h⟩
      unfold kStrM at h
      split at h
      · cases r; exact ⟨_, rfl, gq _ _ h P' H' _ s w (.str _)⟩
      · exact h.elim
  · exact h.elim
end
section
variable {x : Str} {ma : FA} {fM : FM} {id ty : String} {e : Expr} {es : List Expr} {p pos : Pos}
theorem cb_of {K : PySem.W.Frag} {r : List V → Hp → VK → Prop} {Q : VK} (k : ∀ P μ φ H xs ds Qm Xm Q, Wd K T P μ φ H → Reps K P xs ds → Go K T (Rep K) P φ Qm Q → GoX K T P φ Xm E → fM ds μ Qm Xm → r xs H Q) (h : lE K T E (mCall fM [] ma) σ H Q) : tCB r (lA K T E ma) σ H Q := by
  obtain ⟨P, μ, φ, ρ, Qm, Xm, w, re, gq, gx, h⟩ := h
  refine ⟨P, μ, φ, ρ, _, Xm, w, re, fun ds μ1 h1 P1 H1 xs s1 w1 r1 => ?_, gx, h⟩
  rw [List.append_nil] at h1
  exact k P1 μ1 φ H1 xs ds Qm Xm Q w1 r1 (gq.mono s1) (gx.mono s1) h1
theorem pm_callB (hc : CallM X T E (.builtin id) fM) (hg : Gl X x) (hm : X.mg x = none) (hv : bootBuiltins x = some (.builtin id)) (ha : PAM X T E (e :: es) ma) (hn : x ≠ "__name__" := by decide) (hdb : (x == ("__debug__" : Str)) = false := by decide)
    (he : starEach (e :: es) X.env = (false, eval e X.env) :: starEach es X.env := by rfl) (hpl : (backTo pos (starEach es X.env)).any (·.1) = false := by rfl) : PM X T E (.Call (.Name x p) (e :: es) [] pos) (mCall fM [] ma) := by
  obtain ⟨r, hr, k⟩ := hc
  exact PE.imp (pe_callB hr hg hm hv ha hn hdb he hpl) fun σ H Q h => cb_of k h
theorem pm_callTy (hc : CallM X T E (.type ty) fM) (hg : Gl X x) (hm : X.mg x = none) (hv : bootBuiltins x = some (.type ty)) (ha : PAM X T E (e :: es) ma) (hn : x ≠ "__name__" := by decide) (hdb : (x == ("__debug__" : Str)) = false := by decide)
    (he : starEach (e :: es) X.env = (false, eval e X.env) :: starEach es X.env := by rfl) (hpl : (backTo pos (starEach es X.env)).any (·.1) = false := by rfl) : PM X T E (.Call (.Name x p) (e :: es) [] pos) (mCall fM [] ma) := by
  obtain ⟨r, hr, k⟩ := hc
  exact PE.imp (pe_callTy hr hg hm hv ha hn hdb he hpl) fun σ H Q h => cb_of k h
end
end
end Mz

namespace Mz
open PySem PySem.Spec PyProof.Rows L2 AzX ClX LamX Hz He Az
/-! ### operators of built-in values -/
section
variable {X : Cx} {T : Tx} {E : XK}
def mII (C : Int → Int → Prop) (g : Int → Int → D) : M2 := fun d1 d2 μ Q _ => match d1, d2 with
  | .int i, .int j => C i j ∧ Q (g i j) μ
  | _, _ => False
def mII0 (g : Int → Int → D) : M2 := fun d1 d2 μ Q _ => match d1, d2 with
  | .int i, .int j => Q (g i j) μ
  | _, _ => False
theorem opm_II {f : Value → Value → Sem Value} {C : Int → Int → Prop} {g : Int → Int → V} {gd : Int → Int → D} (h : OpR X f (rI C g)) (hg : ∀ i j P, Rep X.K P (g i j) (gd i j)) : OpM X T E f (mII C gd) := by
  refine ⟨_, h, fun P μ φ H x y d1 d2 Qm Xm Q w r1 r2 gq gx h => ?_⟩
  unfold mII at h
  split at h
  · cases r1; cases r2
    exact ⟨_, _, rfl, rfl, h.1, gq.here w (hg _ _ _) h.2⟩
  · exact h.elim
theorem opm_II0 {f : Value → Value → Sem Value} {g : Int → Int → V} {gd : Int → Int → D} (h : OpR X f (rI0 g)) (hg : ∀ i j P, Rep X.K P (g i j) (gd i j)) : OpM X T E f (mII0 gd) := by
  refine ⟨_, h, fun P μ φ H x y d1 d2 Qm Xm Q w r1 r2 gq gx h => ?_⟩
  unfold mII0 at h
  split at h
  · cases r1; cases r2
    exact ⟨_, _, rfl, rfl, gq.here w (hg _ _ _) h⟩
  · exact h.elim
/-- a product that Python makes -/
def CMulE (i j : Int) : Prop := CMul i j ∨ CMulW i j
theorem op_mulE : OpR X (binaryOp .Mult) (rI CMulE fun i j => .int (i * j)) := opI fun _ _ _ _ _ _ _ hc q => mul_int q (hc.elim CMul.ok CMulW.ok)
abbrev mAdd : M2 := mII0 fun i j => .int (i + j)
abbrev mSub : M2 := mII0 fun i j => .int (i - j)
abbrev mMul : M2 := mII CMulE fun i j => .int (i * j)
abbrev mFdiv : M2 := mII (fun _ j => j ≠ 0 ∧ j.natAbs.log2 < 9000) fun i j => .int (i.fdiv j)
abbrev mMod : M2 := mII (fun _ j => j ≠ 0) fun i j => .int (i.fmod j)
theorem ipow_ex : ∃ f : Int → Nat → Int, ∀ i n, f i n = i ^ n := ⟨fun i n => i ^ n, fun _ _ => rfl⟩
/-- a power that nothing unfolds -/
noncomputable def ipow : Int → Nat → Int := Classical.choose ipow_ex
theorem ipow_eq (i : Int) (n : Nat) : ipow i n = i ^ n := Classical.choose_spec ipow_ex i n
abbrev mPow : M2 := mII CPow fun i j => .int (ipow i j.toNat)
abbrev mLt : M2 := mII0 fun i j => .bl (decide (i < j))
abbrev mLe : M2 := mII0 fun i j => .bl (decide (i ≤ j))
abbrev mGt : M2 := mII0 fun i j => .bl (decide (j < i))
abbrev mGe : M2 := mII0 fun i j => .bl (decide (j ≤ i))
theorem o_add : OpM X T E (binaryOp .Add) mAdd := opm_II0 op_add fun _ _ _ => .int _
theorem o_sub : OpM X T E (binaryOp .Sub) mSub := opm_II0 op_sub fun _ _ _ => .int _
theorem o_mul : OpM X T E (binaryOp .Mult) mMul := opm_II op_mulE fun _ _ _ => .int _
theorem o_fdiv : OpM X T E (binaryOp .FloorDiv) mFdiv := opm_II op_fdivNW fun _ _ _ => .int _
theorem o_mod : OpM X T E (binaryOp .Mod) mMod := opm_II op_modN fun _ _ _ => .int _
theorem o_pow : OpM X T E (binaryOp .Pow) mPow := opm_II op_pow fun i j P => by rw [ipow_eq]; exact .int _
theorem o_lt : OpM X T E (compareOp .Lt) mLt := opm_II0 op_lt fun _ _ _ => .bl _
theorem o_le : OpM X T E (compareOp .LtE) mLe := opm_II0 op_le fun _ _ _ => .bl _
theorem o_gt : OpM X T E (compareOp .Gt) mGt := opm_II0 op_gt fun _ _ _ => .bl _
theorem o_ge : OpM X T E (compareOp .GtE) mGe := opm_II0 op_ge fun _ _ _ => .bl _
theorem o_iadd : OpM X T E (inplaceOp .Add) mAdd := opm_II0 iop_add fun _ _ _ => .int _
theorem o_isub : OpM X T E (inplaceOp .Sub) mSub := opm_II0 iop_sub fun _ _ _ => .int _
def mNeg : M1 := fun d μ Q _ => match d with
  | .int i => Q (.int (-i)) μ
  | _ => False
theorem u_neg : UnM X T E (unaryOp .USub) mNeg := by
  refine ⟨_, un_neg, fun P μ φ H x d1 Qm Xm Q w r1 gq gx h => ?_⟩
  unfold mNeg at h
  split at h
  · cases r1; exact ⟨_, rfl, gq.here w (.int _) h⟩
  · exact h.elim
/-- texts -/
def mAddS : M2 := fun d1 d2 μ Q _ => match d1, d2 with
  | .str x, .str y => x.length + y.length ≤ sizeLine ∧ Q (.str (x ++ y)) μ
  | _, _ => False
theorem o_addS : OpM X T E (binaryOp .Add) mAddS := by
  refine ⟨_, op_add_str, fun P μ φ H x y d1 d2 Qm Xm Q w r1 r2 gq gx h => ?_⟩
  unfold mAddS at h
  split at h
  · cases r1; cases r2; exact ⟨_, _, rfl, rfl, h.1, gq.here w (.str _) h.2⟩
  · exact h.elim
/-- is None -/
def noneD : D → Bool
  | .non => true
  | _ => false
def mIsN : M2 := fun d1 d2 μ Q _ => match d2 with
  | .non => Q (.bl (noneD d1)) μ
  | _ => False
def mNotN : M2 := fun d1 d2 μ Q _ => match d2 with
  | .non => Q (.bl (!noneD d1)) μ
  | _ => False
theorem non_of {K : PySem.W.Frag} {P : Hp} {v : V} {d : D} (r : Rep K P v d) : decide (v = .non) = noneD d := by cases r <;> simp [noneD]
theorem o_isN : OpM X T E (compareOp .Is) mIsN := by
  refine ⟨_, op_isN, fun P μ φ H x y d1 d2 Qm Xm Q w r1 r2 gq gx h => ?_⟩
  unfold mIsN at h
  split at h
  · cases r2; exact ⟨rfl, by rw [non_of r1]; exact gq.here w (.bl _) h⟩
  · exact h.elim
theorem o_notN : OpM X T E (compareOp .IsNot) mNotN := by
  refine ⟨_, op_notN, fun P μ φ H x y d1 d2 Qm Xm Q w r1 r2 gq gx h => ?_⟩
  unfold mNotN at h
  split at h
  · cases r2
    exact ⟨rfl, by rw [non_of r1]; exact gq.here w (.bl _) h⟩
  · exact h.elim
/-- is, of bools -/
def mIsB : M2 := fun d1 d2 μ Q _ => match d1, d2 with
  | .bl a, .bl b => Q (.bl (decide (a = b))) μ
  | _, _ => False
theorem o_isB : OpM X T E (compareOp .Is) mIsB := by
  refine ⟨_, op_isBl, fun P μ φ H x y d1 d2 Qm Xm Q w r1 r2 gq gx h => ?_⟩
  unfold mIsB at h
  split at h
  · cases r1; cases r2; exact ⟨_, _, rfl, rfl, gq.here w (.bl _) h⟩
  · exact h.elim
/-! == of data -/
mutual
def dPy : D → Option PyData
  | .non => some .none
  | .bl b => some (.bool b)
  | .int i => some (.int i)
  | .str x => some (.str x)
  | .tup ds => (dPys ds).map .tuple
  | .lst ds => (dPys ds).map .list
  | .wls ds => (dPys ds).map .list
  | .ty _ => none
  | .ref _ => none
  | .dict _ => none
  | .ins _ _ => none
  | .exc _ _ => none
def dPys : List D → Option (List PyData)
  | [] => some []
  | d :: ds => match dPy d, dPys ds with
    | some p, some ps => some (p :: ps)
    | _, _ => none
end
mutual
theorem dp_of {K : PySem.W.Frag} {P H : Hp} (s : Same P H) : ∀ {v : V} {d : D} {p : PyData}, Rep K P v d → dPy d = some p → Dp K H v p
  | _, _, _, .non, e => by simp only [dPy, Option.some.injEq] at e; subst e; exact .non
  | _, _, _, .bl b, e => by simp only [dPy, Option.some.injEq] at e; subst e; exact .bl b
  | _, _, _, .int i, e => by simp only [dPy, Option.some.injEq] at e; subst e; exact .int i
  | _, _, _, .str x, e => by simp only [dPy, Option.some.injEq] at e; subst e; exact .str x
  | _, _, _, .ty n, e => by simp [dPy] at e
  | _, _, _, .ref a, e => by simp [dPy] at e
  | _, _, _, .tup h r, e => by
    simp only [dPy, Option.map_eq_some_iff] at e
    obtain ⟨ps, e1, rfl⟩ := e
    exact .tup (TuA.sq s h) (dps_of s r e1)
  | _, _, _, .lst h r, e => by
    simp only [dPy, Option.map_eq_some_iff] at e
    obtain ⟨ps, e1, rfl⟩ := e
    exact .lst (SqL.of (s _ _ h)) (dps_of s r e1)
  | _, _, _, .wls h r, e => by
    simp only [dPy, Option.map_eq_some_iff] at e
    obtain ⟨ps, e1, rfl⟩ := e
    exact .lst (SqL.same s h) (dps_of s r e1)
  | _, _, _, .dict _ _ _, e => by simp [dPy] at e
  | _, _, _, .ins _ _ _, e => by simp [dPy] at e
  | _, _, _, .exc _ _ _ _, e => by simp [dPy] at e
theorem dps_of {K : PySem.W.Frag} {P H : Hp} (s : Same P H) : ∀ {vs : List V} {ds : List D} {ps : List PyData}, Reps K P vs ds → dPys ds = some ps → DpAll K H vs ps
  | _, _, _, .nil, e => by simp only [dPys, Option.some.injEq] at e; subst e; exact .nil
  | _, _, _, .cons h t, e => by
    unfold dPys at e
    split at e
    · rename_i p ps e1 e2
      cases e
      exact .cons (dp_of s h e1) (dps_of s t e2)
    · cases e
end
/-- .., a list that may change, too -/
def dPm (d : D) (μ : MS) : Option PyData := match d with
  | .ref a => (match μ a with
    | some (.lst ds) => (dPys ds).map .list
    | _ => none)
  | d => dPy d
theorem dpm_of {K : PySem.W.Frag} {T : Tx} {P φ H : Hp} {μ : MS} (w : Wd K T P μ φ H) {v : V} {d : D} {p : PyData} (r : Rep K P v d) (e : dPm d μ = some p) : Dp K H v p := by
  cases d with
  | ref a =>
    cases r
    unfold dPm at e
    dsimp only at e
    split at e
    · rename_i ds q
      obtain ⟨_, o, ho, ro⟩ := w.cel a _ q
      cases o with
      | lst vs =>
        simp only [Option.map_eq_some_iff] at e
        obtain ⟨ps, e1, rfl⟩ := e
        exact .lst (SqL.of ho) (dps_of w.sub (show Reps K P vs ds from ro) e1)
      | _ => exact (show False from ro).elim
    · cases e
  | _ => exact dp_of w.sub r e
def mEqD : M2 := fun d1 d2 μ Q _ => match dPm d1 μ, dPm d2 μ with
  | some p, some q => SeqAt.shaped p = true ∧ SeqAt.shaped q = true ∧ Q (.bl (PyData.eqv p q)) μ
  | _, _ => False
def mNeD : M2 := fun d1 d2 μ Q _ => match dPm d1 μ, dPm d2 μ with
  | some p, some q => SeqAt.shaped p = true ∧ SeqAt.shaped q = true ∧ Q (.bl (!PyData.eqv p q)) μ
  | _, _ => False
theorem o_eqD (hu : X.A.units + 64 < cLine) : OpM X T E (compareOp .Eq) mEqD := by
  refine ⟨_, op_eqD hu, fun P μ φ H x y d1 d2 Qm Xm Q w r1 r2 gq gx h => ?_⟩
  unfold mEqD at h
  split at h
  · rename_i p q e1 e2
    exact ⟨p, q, dpm_of w r1 e1, dpm_of w r2 e2, h.1, h.2.1, gq.here w (.bl _) h.2.2⟩
  · exact h.elim
theorem o_neD (hu : X.A.units + 64 < cLine) : OpM X T E (compareOp .NotEq) mNeD := by
  refine ⟨_, op_neD hu, fun P μ φ H x y d1 d2 Qm Xm Q w r1 r2 gq gx h => ?_⟩
  unfold mNeD at h
  split at h
  · rename_i p q e1 e2
    exact ⟨p, q, dpm_of w r1 e1, dpm_of w r2 e2, h.1, h.2.1, gq.here w (.bl _) h.2.2⟩
  · exact h.elim
/-! repr of data -/
mutual
def noDict : PyData → Bool
  | .dict _ => false
  | .list xs => noDicts xs
  | .tuple xs => noDicts xs
  | _ => true
def noDicts : List PyData → Bool
  | [] => true
  | x :: xs => noDict x && noDicts xs
end
/-- a dict of plain values, as data -/
def atD : D → Option PyData
  | .non => some .none
  | .bl b => some (.bool b)
  | .int i => some (.int i)
  | .str x => some (.str x)
  | _ => none
def atDs : List D → Option (List PyData)
  | [] => some []
  | d :: ds => match atD d, atDs ds with
    | some p, some ps => some (p :: ps)
    | _, _ => none
theorem atDs_of {K : PySem.W.Frag} {P : Hp} : ∀ {vs : List V} {ds : List D} {ps : List PyData}, Reps K P vs ds → atDs ds = some ps → vs.map atomD = ps.map some
  | _, _, _, .nil, e => by simp only [atDs, Option.some.injEq] at e; subst e; rfl
  | _, _, _, .cons h t, e => by
    unfold atDs at e
    split at e
    · rename_i p ps e1 e2
      cases e
      have ih := atDs_of t e2
      simp only [List.map_cons, ih, List.cons.injEq, and_true]
      cases h <;> simp_all [atD, atomD]
    · cases e
/-- what repr shows of it -/
def dRp (d : D) : Option PyData := match d with
  | .dict kvs => (atDs (kvs.map (·.2))).map fun ps => .dict ((kvs.map fun kv => keyD kv.1).zip ps)
  | d => (dPy d).bind fun p => if p.hasDict = false then some p else none
theorem dt_of {K : PySem.W.Frag} {P H : Hp} (s : Same P H) {v : V} {d : D} {p : PyData} (r : Rep K P v d) (e : dRp d = some p) : Dt K H v p := by
  have base : (dPy d).bind (fun p => if p.hasDict = false then some p else none) = some p → Dt K H v p := fun e => by
    cases q : dPy d with
    | none => rw [q] at e; cases e
    | some p' =>
      rw [q] at e
      simp only [Option.bind_some] at e
      split at e
      · rename_i hd
        cases e
        exact .of (dp_of s r q) hd
      · cases e
  cases d with
  | dict kvs =>
    cases r with
    | dict h e1 rr =>
      simp only [dRp, Option.map_eq_some_iff] at e
      obtain ⟨ps, e2, rfl⟩ := e
      have h2 := atDs_of rr e2
      have h3 := Dt.dct (K := K) (H := H) (ds := ps) (s _ _ h) (by rw [List.map_map] at h2; exact h2)
      have h4 : ∀ (a : List (Key × V)) (b : List (Key × D)), a.map (·.1) = b.map (·.1) → a.map (fun kv => keyD kv.1) = b.map fun kv => keyD kv.1 := fun a b z => by
        have := congrArg (List.map keyD) z
        simpa [List.map_map, Function.comp_def] using this
      rw [h4 _ _ e1] at h3
      exact h3
  | _ => exact base e
def mRepr : FM := fun ds μ Q _ => match ds with
  | [d] => (match dRp d with
    | some p => p.showable = true ∧ p.depth ≤ 20 ∧ p.shown.length ≤ sizeLine ∧ Q (.str p.shown) μ
    | none => False)
  | _ => False
theorem one_of {K : PySem.W.Frag} {P : Hp} {xs : List V} {d : D} (r : Reps K P xs [d]) : ∃ v, xs = [v] ∧ Rep K P v d := by
  cases r with
  | cons h t => cases t; exact ⟨_, rfl, h⟩
theorem two_of' {K : PySem.W.Frag} {P : Hp} {xs : List V} {d e : D} (r : Reps K P xs [d, e]) : ∃ v u, xs = [v, u] ∧ Rep K P v d ∧ Rep K P u e := by
  cases r with
  | cons h t =>
    obtain ⟨u, rfl, h2⟩ := one_of t
    exact ⟨_, _, rfl, h, h2⟩
theorem c_repr {k : Nat} (hr : Room k X.A) (hg : X.A.guards = some []) : CallM X T E (.builtin "repr") mRepr := by
  refine ⟨_, c_rep hr hg, fun P μ φ H xs ds Qm Xm Q w r gq gx h => ?_⟩
  unfold mRepr at h
  split at h
  · rename_i d
    obtain ⟨v, rfl, rv⟩ := one_of r
    split at h
    · rename_i p e
      exact ⟨v, p, rfl, dt_of w.sub rv e, h.1, h.2.1, h.2.2.1, gq.here w (.str _) h.2.2.2⟩
    · exact h.elim
  · exact h.elim
/-! isinstance -/
/-- what the classes must have for isinstance of their instances -/
structure ClsT (K : PySem.W.Frag) (c : String) : Prop where
  cls : Cls K (ca K c)
  ha : PySem.W.findIn K (.ref (ca K c)) "__class__" = some (some (.builtin "object.__class__"))
  hn : PySem.W.specialIn K (.builtin "object.__class__") "__get__" = some (some (.builtin "getset_descriptor.__get__"))
  ht : PySem.W.takesIn K (.builtin "object.__class__") = some true
  hm : PySem.W.mroIn K (ca K c) (.type "object") = some true
def clsD : D → Option Value
  | .ty n => some (.type n)
  | .ref a => some (.ref a)
  | _ => none
def clsDs : List D → Option (List Value)
  | [] => some []
  | d :: ds => match clsD d, clsDs ds with
    | some p, some ps => some (p :: ps)
    | _, _ => none
def needT (K : PySem.W.Frag) (d : D) (μ : MS) : Prop := match d with
  | .ins c _ => ClsT K c
  | .exc c _ => ExcC K (ca K c)
  | .ref a => (match μ a with
    | some (.ins c _) => ClsT K c
    | _ => True)
  | _ => True
/-- the type, an error's too -/
def tyI (K : PySem.W.Frag) (d : D) (μ : MS) : Option Value := match d with
  | .exc c _ => some (.ref (ca K c))
  | d => tyD K d μ
def mIsi (K : PySem.W.Frag) : FM := fun ds μ Q _ => match ds with
  | [d, .tup cs] => needT K d μ ∧ (match tyD K d μ, clsDs cs with
    | some t, some us => (match PySem.W.kitAny K t us with
      | some b => Q (.bl b) μ
      | none => False)
    | _, _ => False)
  | [d, c] => needT K d μ ∧ (match tyI K d μ, clsD c with
    | some t, some u => (match PySem.W.kitOne K t u with
      | some b => Q (.bl b) μ
      | none => False)
    | _, _ => False)
  | _ => False
theorem tyD_x {P φ H : Hp} {μ : MS} {v : V} {d : D} {t : Value} (w : Wd X.K T P μ φ H) (r : Rep X.K P v d) (h : tyD X.K d μ = some t) (n : needT X.K d μ) : TyX X.K H v t := by
  cases r with
  | non => cases h; exact (.base .non)
  | bl b => cases h; exact (.base (.bl b))
  | int i => cases h; exact (.base (.int i))
  | str x => cases h; exact (.base (.str x))
  | ty n => cases h
  | tup h1 r =>
    cases h
    rcases TuA.same w.sub h1 with h | ⟨o, its, n, h, hc, _⟩
    · exact (.base (.tup h))
    · exact (.kTuple h hc)
  | lst h1 r => cases h; exact .base (.lst (w.sub _ _ h1))
  | wls h1 r =>
    cases h
    rcases SqL.same w.sub h1 with (h | ⟨o, h⟩) | ⟨o, its, n, h, hc, _⟩
    · exact (.base (.lst h))
    · exact (.base (.frz h))
    · exact (.kList h hc)
  | dict h1 e r => cases h; exact (.base (.dK (w.sub _ _ h1)))
  | @ins a dx c vs ds h1 e r =>
    cases h
    have n : ClsT X.K c := n
    exact (.base (.ins (w.sub _ _ h1) n.cls n.ha n.hn n.ht n.hm))
  | exc h1 hd e r => cases h
  | ref a =>
    unfold tyD at h
    unfold needT at n
    dsimp only at h n
    split at h
    · rename_i ds q
      cases h
      obtain ⟨_, o, ho, ro⟩ := w.cel a _ q
      cases o with
      | lst vs => exact (.base (.lst ho))
      | _ => exact (show False from ro).elim
    · rename_i ds q
      cases h
      obtain ⟨_, o, ho, ro⟩ := w.cel a _ q
      cases o with
      | dK vs => exact (.base (.dK ho))
      | _ => exact (show False from ro).elim
    · rename_i c fs q
      cases h
      obtain ⟨_, o, ho, ro⟩ := w.cel a _ q
      cases o with
      | ins C dx vs =>
        obtain ⟨rfl, _⟩ : C = ca X.K c ∧ _ := ro
        rw [q] at n
        have n : ClsT X.K c := n
        exact (.base (.ins ho n.cls n.ha n.hn n.ht n.hm))
      | _ => exact (show False from ro).elim
    · cases h
theorem tyI_x {P φ H : Hp} {μ : MS} {v : V} {d : D} {t : Value} (w : Wd X.K T P μ φ H) (r : Rep X.K P v d) (h : tyI X.K d μ = some t) (n : needT X.K d μ) : TyX X.K H v t ∨ ∃ a c, v = .ref a ∧ t = .ref (ca X.K c) ∧ IsX H a (ca X.K c) ∧ ExcC X.K (ca X.K c) := by
  cases d with
  | exc c fs =>
    cases h
    cases r with
    | exc h1 hd e r => exact .inr ⟨_, c, rfl, rfl, .dict (w.sub _ _ h1) (w.sub _ _ hd), n⟩
  | _ => exact .inl (tyD_x w r h n)
theorem clsD_of {K : PySem.W.Frag} {P : Hp} {v : V} {d : D} {u : Value} (r : Rep K P v d) (h : clsD d = some u) : ClsV v u := by
  cases r <;> cases h
  · exact .ty _
  · exact .own _
theorem clsDs_of {K : PySem.W.Frag} {P : Hp} : ∀ {vs : List V} {ds : List D} {us : List Value}, Reps K P vs ds → clsDs ds = some us → Paired ClsV vs us
  | _, _, _, .nil, e => by simp only [clsDs, Option.some.injEq] at e; subst e; exact .nil
  | _, _, _, .cons h t, e => by
    unfold clsDs at e
    split at e
    · rename_i p ps e1 e2
      cases e
      exact .cons (clsD_of h e1) (clsDs_of t e2)
    · cases e
theorem isi_or {r1 r2 : List V → Hp → VK → Prop} {f : Value} (h1 : CallR X f r1) (h2 : CallR X f r2) : CallR X f (fun xs H Q => r1 xs H Q ∨ r2 xs H Q) := fun pins s σ H xs us Q I r h => h.elim (h1 pins s σ H xs us Q I r) (h2 pins s σ H xs us Q I r)
/-- a tuple of classes must be laid, not written in the top -/
theorem c_isi : CallM X T E (.builtin "isinstance") (fun ds μ Q Xm => mIsi X.K ds μ Q Xm) := by
  refine ⟨_, isi_or (isi_or call_isi call_isX) (isi_or call_isiT call_isiK), fun P μ φ H xs ds Qm Xm Q w r gq gx h => ?_⟩
  dsimp only at h
  unfold mIsi at h
  split at h
  · rename_i d cs
    obtain ⟨v, u, rfl, rv, ru⟩ := two_of' r
    obtain ⟨n, h⟩ := h
    split at h
    · rename_i t us e1 e2
      split at h
      · rename_i b hb
        cases ru with
        | @tup a ws _ hT rr =>
        have cv := clsDs_of rr e2
        have go := gq.here w (.bl b) h
        have tx := tyD_x w rv e1 n
        rcases TuA.same w.sub hT with hh | ⟨o, its, nn, hh, hc, hdt, hsz, rvs⟩
        · exact .inr (.inl ⟨v, a, ws, t, us, b, rfl, hh, cv, tx, hb, go⟩)
        · have e3 := ClsV.all cv rvs
          obtain ⟨oc, od, dt, sl⟩ := o
          simp only at hc hdt
          subst hc hdt
          exact .inr (.inr ⟨v, a, od, us, nn, sl, t, b, rfl, by rw [← e3]; exact hh, tx, hb, go⟩)
      · exact h.elim
    · exact h.elim
  · rename_i d c hne
    obtain ⟨v, u, rfl, rv, ru⟩ := two_of' r
    obtain ⟨n, h⟩ := h
    split at h
    · rename_i t u' e1 e2
      split at h
      · rename_i b hb
        have cv := clsD_of ru e2
        have go := gq.here w (.bl b) h
        rcases tyI_x w rv e1 n with tx | ⟨a', c', rfl, rfl, ix, ec⟩
        · exact .inl (.inl ⟨v, u, t, u', b, rfl, cv, tx, hb, go⟩)
        · exact .inl (.inr ⟨a', _, u, u', b, rfl, ix, ec, cv, hb, go⟩)
      · exact h.elim
    · exact h.elim
  · exact h.elim
end
end Mz

namespace Mz
open PySem PySem.Spec PyProof.Rows L2 AzX ClX LamX Hz He Az
section
variable {X : Cx} {T : Tx} {E : XK}
/-- the sequence of items that d is -/
def seqD (d : D) (μ : MS) : Option (List D) := match d with
  | .lst ds => some ds
  | .wls ds => some ds
  | .tup ds => some ds
  | .ref a => (match μ a with
    | some (.lst ds) => some ds
    | _ => none)
  | _ => none
theorem seqD_of {K : PySem.W.Frag} {P φ H : Hp} {μ : MS} {v : V} {d : D} {ds : List D} (w : Wd K T P μ φ H) (r : Rep K P v d) (h : seqD d μ = some ds) : ∃ a vs, v = .ref a ∧ (SqL K H a vs ∨ SqT K H a vs) ∧ Reps K P vs ds := by
  cases r with
  | tup h1 rr => cases h; exact ⟨_, _, rfl, .inr (TuA.sq w.sub h1), rr⟩
  | lst h1 rr => cases h; exact ⟨_, _, rfl, .inl (SqL.of (w.sub _ _ h1)), rr⟩
  | wls h1 rr => cases h; exact ⟨_, _, rfl, .inl (SqL.same w.sub h1), rr⟩
  | ref a =>
    unfold seqD at h
    dsimp only at h
    split at h
    · rename_i xs q
      cases h
      obtain ⟨_, o, ho, ro⟩ := w.cel a _ q
      cases o with
      | lst vs => exact ⟨a, vs, rfl, .inl (SqL.of ho), ro⟩
      | _ => exact (show False from ro).elim
    · cases h
  | _ => cases h
/-! built-in functions -/
def mInt : FM := fun ds μ Q _ => match ds with
  | [.int i] => Q (.int i) μ
  | [.bl b] => Q (.int (if b then 1 else 0)) μ
  | _ => False
theorem f_int : CallM X T E (.type "int") mInt := by
  refine ⟨_, c_int, fun P μ φ H xs ds Qm Xm Q w r gq gx h => ?_⟩
  unfold mInt at h
  split at h
  · obtain ⟨v, rfl, rv⟩ := one_of r
    cases rv; exact .inl ⟨_, rfl, gq.here w (.int _) h⟩
  · obtain ⟨v, rfl, rv⟩ := one_of r
    cases rv; exact .inr ⟨_, rfl, gq.here w (.int _) h⟩
  · exact h.elim
/-- int(a text) -/
def mIntS : FM := fun ds μ Q _ => match ds with
  | [.str x] => (match PySem.intText? x with
    | some n => x.length ≤ 640 ∧ Q (.int n) μ
    | none => False)
  | _ => False
theorem f_intS : CallM X T E (.type "int") mIntS := by
  refine ⟨_, call_int_str, fun P μ φ H xs ds Qm Xm Q w r gq gx h => ?_⟩
  unfold mIntS at h
  split at h
  · obtain ⟨v, rfl, rv⟩ := one_of r
    cases rv
    split at h
    · rename_i n e
      exact ⟨_, n, rfl, e, h.1, gq.here w (.int _) h.2⟩
    · exact h.elim
  · exact h.elim
def mAbs : FM := fun ds μ Q _ => match ds with
  | [.int i] => Q (.int (if i < 0 then -i else i)) μ
  | _ => False
theorem f_abs : CallM X T E (.builtin "abs") mAbs := by
  refine ⟨_, c_abs, fun P μ φ H xs ds Qm Xm Q w r gq gx h => ?_⟩
  unfold mAbs at h
  split at h
  · obtain ⟨v, rfl, rv⟩ := one_of r
    cases rv; exact ⟨_, rfl, gq.here w (.int _) h⟩
  · exact h.elim
def mLen : FM := fun ds μ Q _ => match ds with
  | [.str x] => x.length ≤ sizeLine ∧ Q (.int x.length) μ
  | [d] => (match seqD d μ with
    | some xs => Q (.int xs.length) μ
    | none => False)
  | _ => False
theorem f_len : CallM X T E (.builtin "len") mLen := by
  refine ⟨_, call_len, fun P μ φ H xs ds Qm Xm Q w r gq gx h => ?_⟩
  unfold mLen at h
  split at h
  · obtain ⟨v, rfl, rv⟩ := one_of r
    cases rv; exact ⟨_, _, rfl, ⟨h.1, rfl⟩, gq.here w (.int _) h.2⟩
  · obtain ⟨v, rfl, rv⟩ := one_of r
    split at h
    · rename_i zs e
      obtain ⟨a, vs, rfl, hs, rr⟩ := seqD_of w rv e
      refine ⟨_, vs.length, rfl, hs.imp (fun h => ⟨vs, h, rfl⟩) (fun h => ⟨vs, h, rfl⟩), ?_⟩
      rw [rr.length]
      exact gq.here w (.int _) h
    · exact h.elim
  · exact h.elim
def mListF : FM := fun ds μ Q _ => match ds with
  | [d] => (match seqD d μ with
    | some xs => Q (.lst xs) μ
    | none => False)
  | _ => False
theorem f_list : CallM X T E (.type "list") mListF := by
  refine ⟨_, c_list, fun P μ φ H xs ds Qm Xm Q w r gq gx h => ?_⟩
  unfold mListF at h
  split at h
  · obtain ⟨v, rfl, rv⟩ := one_of r
    split at h
    · rename_i zs e
      obtain ⟨a, vs, rfl, hs, rr⟩ := seqD_of w rv e
      refine ⟨a, vs, rfl, hs, fun l hl => ?_⟩
      obtain ⟨w2, s2⟩ := w.grow (o := .lst vs) hl
      exact gq _ _ h _ _ _ s2 w2 (.lst upd_same (rr.mono s2))
    · exact h.elim
  · exact h.elim
def mListM : FM := fun ds μ Q _ => match ds with
  | [d] => (match seqD d μ with
    | some xs => ∀ p, μ p = none → Q (.ref p) (put μ p (.lst xs))
    | none => False)
  | _ => False
theorem f_listM : CallM X T E (.type "list") mListM := by
  refine ⟨_, c_list, fun P μ φ H xs ds Qm Xm Q w r gq gx h => ?_⟩
  unfold mListM at h
  split at h
  · obtain ⟨v, rfl, rv⟩ := one_of r
    split at h
    · rename_i zs e
      obtain ⟨a, vs, rfl, hs, rr⟩ := seqD_of w rv e
      refine ⟨a, vs, rfl, hs, fun l hl => ?_⟩
      exact gq _ _ (h l (w.free hl)) _ _ _ (Same.refl _) (w.cell hl (o := .lst vs) (show RepO X.K P (.lst vs) (.lst zs) from rr)) (.ref l)
    · exact h.elim
  · exact h.elim
/-- the items of a list -/
def lsD (d : D) (μ : MS) : Option (List D) := match d with
  | .lst ds => some ds
  | .wls ds => some ds
  | .ref a => (match μ a with
    | some (.lst ds) => some ds
    | _ => none)
  | _ => none
theorem lsD_of {K : PySem.W.Frag} {P φ H : Hp} {μ : MS} {v : V} {d : D} {ds : List D} (w : Wd K T P μ φ H) (r : Rep K P v d) (h : lsD d μ = some ds) : ∃ a vs, v = .ref a ∧ SqL K H a vs ∧ Reps K P vs ds := by
  cases r with
  | lst h1 rr => cases h; exact ⟨_, _, rfl, SqL.of (w.sub _ _ h1), rr⟩
  | wls h1 rr => cases h; exact ⟨_, _, rfl, SqL.same w.sub h1, rr⟩
  | ref a =>
    unfold lsD at h
    dsimp only at h
    split at h
    · rename_i xs q
      cases h
      obtain ⟨_, o, ho, ro⟩ := w.cel a _ q
      cases o with
      | lst vs => exact ⟨a, vs, rfl, SqL.of ho, ro⟩
      | _ => exact (show False from ro).elim
    · cases h
  | _ => cases h
def mTupF : FM := fun ds μ Q _ => match ds with
  | [.tup xs] => Q (.tup xs) μ
  | [d] => (match lsD d μ with
    | some xs => Q (.tup xs) μ
    | none => False)
  | _ => False
theorem f_tuple : CallM X T E (.type "tuple") mTupF := by
  refine ⟨_, call_tuple_of, fun P μ φ H xs ds Qm Xm Q w r gq gx h => ?_⟩
  unfold mTupF at h
  split at h
  · obtain ⟨v, rfl, rv⟩ := one_of r
    cases rv with
    | tup h1 rr => exact ⟨_, _, rfl, .inr ⟨TuA.sq w.sub h1, gq.here w (.tup h1 rr) h⟩⟩
  · obtain ⟨v, rfl, rv⟩ := one_of r
    split at h
    · rename_i zs e
      obtain ⟨a, vs, rfl, hs, rr⟩ := lsD_of w rv e
      refine ⟨a, vs, rfl, .inl ⟨hs, fun l hl => ?_⟩⟩
      obtain ⟨w2, s2⟩ := w.grow (o := .tup vs) hl
      exact gq _ _ h _ _ _ s2 w2 (.tup (.inl upd_same) (rr.mono s2))
    · exact h.elim
  · exact h.elim
def mBool1 : FM := fun ds μ Q _ => match ds with
  | [.int i] => Q (.bl (i != 0)) μ
  | [.bl b] => Q (.bl b) μ
  | _ => False
theorem f_bool : CallM X T E (.type "bool") mBool1 := by
  refine ⟨_, call_bool1, fun P μ φ H xs ds Qm Xm Q w r gq gx h => ?_⟩
  unfold mBool1 at h
  split at h
  · obtain ⟨v, rfl, rv⟩ := one_of r
    cases rv; exact .inl ⟨_, rfl, gq.here w (.bl _) h⟩
  · obtain ⟨v, rfl, rv⟩ := one_of r
    cases rv; exact .inr ⟨_, rfl, gq.here w (.bl _) h⟩
  · exact h.elim
def mStrI : FM := fun ds μ Q _ => match ds with
  | [.int i] => i.natAbs.log2 < 1920 ∧ Q (.str (toString i : String)) μ
  | _ => False
theorem f_strI : CallM X T E (.type "str") mStrI := by
  refine ⟨_, call_str_int, fun P μ φ H xs ds Qm Xm Q w r gq gx h => ?_⟩
  unfold mStrI at h
  split at h
  · obtain ⟨v, rfl, rv⟩ := one_of r
    cases rv; exact ⟨_, rfl, h.1, gq.here w (.str _) h.2⟩
  · exact h.elim
/-! subscripts -/
def IxM (X : Cx) (T : Tx) (E : XK) (m : M2) : Prop := ∃ r : R2, IxR X r ∧ ∀ P μ φ H x y d1 d2 Qm Xm Q, Wd X.K T P μ φ H → Rep X.K P x d1 → Rep X.K P y d2 → Go X.K T (Rep X.K) P φ Qm Q → GoX X.K T P φ Xm E → m d1 d2 μ Qm Xm → r x y H Q
theorem IxM.alt {m1 m2 : M2} (h1 : IxM X T E m1) (h2 : IxM X T E m2) : IxM X T E (mAlt m1 m2) := by
  obtain ⟨r1, o1, k1⟩ := h1
  obtain ⟨r2, o2, k2⟩ := h2
  refine ⟨_, o1.or o2, fun P μ φ H x y d1 d2 Qm Xm Q w r1 r2 gq gx h => ?_⟩
  exact h.imp (k1 P μ φ H x y d1 d2 Qm Xm Q w r1 r2 gq gx) (k2 P μ φ H x y d1 d2 Qm Xm Q w r1 r2 gq gx)
theorem pm_ix {a b : Expr} {ma mb : FE} {m : M2} {pos : Pos} (hi : IxM X T E m) (ha : PM X T E a ma) (hb : PM X T E b mb) (hs : PlainIx b) : PM X T E (.Subscript a b pos) (mOp m ma mb) := by
  obtain ⟨r, hr, k⟩ := hi
  refine PE.imp (pe_ix hr ha hb hs) fun σ H Q ⟨P, μ, φ, ρ, Qm, Xm, w, re, gq, gx, h⟩ => ?_
  exact two_of w re gx h fun P' μ' H' x y d1 d2 s w' r1 r2 h' => k P' μ' φ H' x y d1 d2 Qm Xm Q w' r1 r2 (gq.mono s) (gx.mono s) h'
theorem atI_of {K : PySem.W.Frag} {P : Hp} {vs : List V} {ds : List D} {i : Int} {d : D} (r : Reps K P vs ds) (h : atI ds i = some d) : ∃ v, atI vs i = some v ∧ Rep K P v d := by
  unfold atI at h ⊢
  rw [r.length]
  cases q : ixN ds.length i with
  | none => rw [q] at h; cases h
  | some j =>
    rw [q] at h
    exact r.get h
def mIx : M2 := fun d1 d2 μ Q _ => match d2 with
  | .int i => (match seqD d1 μ with
    | some ds => (match atI ds i with
      | some d => Q d μ
      | none => False)
    | none => False)
  | _ => False
theorem i_seq : IxM X T E mIx := by
  refine ⟨_, ix_list.or ix_tup, fun P μ φ H x y d1 d2 Qm Xm Q w r1 r2 gq gx h => ?_⟩
  unfold mIx at h
  split at h
  · rename_i i
    cases r2
    split at h
    · rename_i ds e
      obtain ⟨a, vs, rfl, hs, rr⟩ := seqD_of w r1 e
      split at h
      · rename_i d hd
        obtain ⟨v, hv, rv⟩ := atI_of rr hd
        exact hs.imp (fun hs => ⟨a, vs, i, v, rfl, rfl, hs, hv, gq.here w rv h⟩) (fun hs => ⟨a, vs, i, v, rfl, rfl, hs, hv, gq.here w rv h⟩)
      · exact h.elim
    · exact h.elim
  · exact h.elim
def mIxS : M2 := fun d1 d2 μ Q _ => match d1, d2 with
  | .str z, .int i => z.length ≤ sizeLine ∧ (match atI z.cps.toList i with
    | some c => Q (.str ⟨#[c]⟩) μ
    | none => False)
  | _, _ => False
theorem i_str : IxM X T E mIxS := by
  refine ⟨_, ix_str, fun P μ φ H x y d1 d2 Qm Xm Q w r1 r2 gq gx h => ?_⟩
  unfold mIxS at h
  split at h
  · cases r1; cases r2
    obtain ⟨hz, h⟩ := h
    split at h
    · rename_i c e
      exact ⟨_, _, c, rfl, rfl, hz, e, gq.here w (.str _) h⟩
    · exact h.elim
  · exact h.elim
/-! slices -/
abbrev FO := MEnv → MS → (Option Int → MS → Prop) → MX → Prop
def lO (K : PySem.W.Frag) (T : Tx) (E : XK) (m : FO) : TO := fun σ H Q => ∃ P μ φ ρ Qm Xm, Wd K T P μ φ H ∧ REnv K P σ ρ ∧ Go K T (fun _ a b => a = b) P φ Qm Q ∧ GoX K T P φ Xm E ∧ m ρ μ Qm Xm
abbrev POM (X : Cx) (T : Tx) (E : XK) (e : Option Expr) (m : FO) : Prop := PO X e (lO X.K T E m)
theorem PO.imp {e : Option Expr} {t t' : TO} (h : PO X e t) (k : ∀ σ H Q, t' σ H Q → t σ H Q) : PO X e t' := ⟨fun pins s σ H Q I q => h.run pins s σ H Q I (k σ H Q q)⟩
def oNone : FO := fun _ μ Q _ => Q none μ
def oSome (me : FE) : FO := fun ρ μ Q Xm => me ρ μ (fun d μ1 => match d with
  | .int i => Q (some i) μ1
  | _ => False) Xm
theorem pom_none : POM X T E none oNone := PO.imp po_none fun σ H Q ⟨P, μ, φ, ρ, Qm, Xm, w, re, gq, gx, h⟩ => gq.here w rfl h
theorem pom_some {e : Expr} {me : FE} (he : PM X T E e me) : POM X T E (some e) (oSome me) := by
  refine PO.imp (po_some he) fun σ H Q ⟨P, μ, φ, ρ, Qm, Xm, w, re, gq, gx, h⟩ => ?_
  refine ⟨P, μ, φ, ρ, _, Xm, w, re, fun d1 μ1 h1 P1 H1 x s1 w1 r1 => ?_, gx, h⟩
  split at h1
  · cases r1; exact ⟨_, rfl, gq _ _ h1 P1 H1 _ s1 w1 rfl⟩
  · exact h1.elim
abbrev MSl := D → Option Int → Option Int → MS → (D → MS → Prop) → MX → Prop
def SlM (X : Cx) (T : Tx) (E : XK) (m : MSl) : Prop := ∃ r : V → Option Int → Option Int → Hp → VK → Prop, SlR X r ∧ ∀ P μ φ H x lo hi d Qm Xm Q, Wd X.K T P μ φ H → Rep X.K P x d → Go X.K T (Rep X.K) P φ Qm Q → GoX X.K T P φ Xm E → m d lo hi μ Qm Xm → r x lo hi H Q
def lAlt (m1 m2 : MSl) : MSl := fun d lo hi μ Q X => m1 d lo hi μ Q X ∨ m2 d lo hi μ Q X
theorem SlM.alt {m1 m2 : MSl} (h1 : SlM X T E m1) (h2 : SlM X T E m2) : SlM X T E (lAlt m1 m2) := by
  obtain ⟨r1, o1, k1⟩ := h1
  obtain ⟨r2, o2, k2⟩ := h2
  refine ⟨_, o1.or o2, fun P μ φ H x lo hi d Qm Xm Q w r gq gx h => ?_⟩
  exact h.imp (k1 P μ φ H x lo hi d Qm Xm Q w r gq gx) (k2 P μ φ H x lo hi d Qm Xm Q w r gq gx)
def mSl (m : MSl) (me : FE) (ml mh : FO) : FE := fun ρ μ Q Xm => me ρ μ (fun d μ1 => ml ρ μ1 (fun lo μ2 => mh ρ μ2 (fun hi μ3 => m d lo hi μ3 Q Xm) Xm) Xm) Xm
theorem pm_slice {e : Expr} {lo hi : Option Expr} {me : FE} {ml mh : FO} {m : MSl} {p2 pos : Pos} (hr : SlM X T E m) (he : PM X T E e me) (hl : POM X T E lo ml) (hh : POM X T E hi mh) : PM X T E (.Subscript e (.Slice lo hi none p2) pos) (mSl m me ml mh) := by
  obtain ⟨r, hr, k⟩ := hr
  refine PE.imp (pe_slice hr he hl hh) fun σ H Q ⟨P, μ, φ, ρ, Qm, Xm, w, re, gq, gx, h⟩ => ?_
  refine ⟨P, μ, φ, ρ, _, Xm, w, re, fun d μ1 h1 P1 H1 x s1 w1 r1 => ?_, gx, h⟩
  refine ⟨P1, μ1, φ, ρ, _, Xm, w1, re.mono s1, fun l μ2 h2 P2 H2 l' s2 w2 e2 => ?_, gx.mono s1, h1⟩
  subst e2
  refine ⟨P2, μ2, φ, ρ, _, Xm, w2, re.mono (s1.trans s2), fun u μ3 h3 P3 H3 u' s3 w3 e3 => ?_, gx.mono (s1.trans s2), h2⟩
  subst e3
  have s := (s1.trans s2).trans s3
  exact k P3 μ3 φ H3 x _ _ d Qm Xm Q w3 (r1.mono (s2.trans s3)) (gq.mono s) (gx.mono s) h3
/-- the part of a list -/
def cutD (xs : List D) (lo hi : Option Int) : List D := (xs.drop (HT.sIx xs.length 0 lo)).take (HT.sIx xs.length xs.length hi - HT.sIx xs.length 0 lo)
theorem cut_of {K : PySem.W.Frag} {P : Hp} {vs : List V} {ds : List D} (r : Reps K P vs ds) (lo hi : Option Int) : Reps K P (cutV vs lo hi) (cutD ds lo hi) := by
  unfold cutV cutD
  rw [r.length]
  exact (r.drop _).take _
def mSlL : MSl := fun d lo hi μ Q _ => match lsD d μ with
  | some ds => Q (.lst (cutD ds lo hi)) μ
  | none => False
theorem s_list : SlM X T E mSlL := by
  refine ⟨_, sl_list, fun P μ φ H x lo hi d Qm Xm Q w r gq gx h => ?_⟩
  unfold mSlL at h
  split at h
  · rename_i ds e
    obtain ⟨a, vs, rfl, hs, rr⟩ := lsD_of w r e
    refine ⟨a, vs, rfl, hs, fun p hp => ?_⟩
    obtain ⟨w2, s2⟩ := w.grow (o := .lst (cutV vs lo hi)) hp
    exact gq _ _ h _ _ _ s2 w2 (.lst upd_same ((cut_of rr lo hi).mono s2))
  · exact h.elim
def mSlS : MSl := fun d lo hi μ Q _ => match d with
  | .str z => z.length ≤ sizeLine ∧ Q (.str (Txt.slice z lo hi)) μ
  | _ => False
theorem s_str : SlM X T E mSlS := by
  refine ⟨_, C8.sl_txt, fun P μ φ H x lo hi d Qm Xm Q w r gq gx h => ?_⟩
  unfold mSlS at h
  split at h
  · cases r; exact ⟨_, rfl, h.1, gq.here w (.str _) h.2⟩
  · exact h.elim
/-! methods of built-in types -/
def isT (ty : String) (d : D) (μ : MS) : Prop := match d with
  | .str _ => ty = "str"
  | .lst _ => ty = "list"
  | .wls _ => ty = "list"
  | .dict _ => ty = "dict"
  | .ref a => (match μ a with
    | some (.lst _) => ty = "list"
    | some (.dict _) => ty = "dict"
    | _ => False)
  | _ => False
theorem isT_of {K : PySem.W.Frag} {P φ H : Hp} {μ : MS} {v : V} {d : D} {ty : String} (w : Wd K T P μ φ H) (r : Rep K P v d) (h : isT ty d μ) : L2.tyV K ty v H := by
  cases r with
  | str x => exact h
  | lst h1 rr => exact .inl ⟨h, _, SqL.of (w.sub _ _ h1)⟩
  | wls h1 rr => exact .inl ⟨h, _, SqL.same w.sub h1⟩
  | dict h1 e rr => exact .inr (.inr (.inl ⟨h, .inl ⟨_, w.sub _ _ h1⟩⟩))
  | ref a =>
    unfold isT at h
    dsimp only at h
    split at h
    · rename_i xs q
      obtain ⟨_, o, ho, ro⟩ := w.cel a _ q
      cases o with
      | lst vs => exact .inl ⟨h, _, SqL.of ho⟩
      | _ => exact (show False from ro).elim
    · rename_i xs q
      obtain ⟨_, o, ho, ro⟩ := w.cel a _ q
      cases o with
      | dK vs => exact .inr (.inr (.inl ⟨h, .inl ⟨_, ho⟩⟩))
      | _ => exact (show False from ro).elim
    · exact h.elim
  | _ => exact h.elim
abbrev MM := D → List D → MS → (D → MS → Prop) → MX → Prop
def MtMM (X : Cx) (T : Tx) (E : XK) (id : String) (m : MM) : Prop := ∃ r : V → List V → Hp → VK → Prop, MtR X id r ∧ ∀ P μ φ H x xs d ds Qm Xm Q, Wd X.K T P μ φ H → Rep X.K P x d → Reps X.K P xs ds → Go X.K T (Rep X.K) P φ Qm Q → GoX X.K T P φ Xm E → m d ds μ Qm Xm → r x xs H Q
def bAlt (m1 m2 : MM) : MM := fun d ds μ Q X => m1 d ds μ Q X ∨ m2 d ds μ Q X
theorem MtMM.alt {id : String} {m1 m2 : MM} (h1 : MtMM X T E id m1) (h2 : MtMM X T E id m2) : MtMM X T E id (bAlt m1 m2) := by
  obtain ⟨r1, o1, k1⟩ := h1
  obtain ⟨r2, o2, k2⟩ := h2
  refine ⟨_, o1.or o2, fun P μ φ H x xs d ds Qm Xm Q w r1 r2 gq gx h => ?_⟩
  exact h.imp (k1 P μ φ H x xs d ds Qm Xm Q w r1 r2 gq gx) (k2 P μ φ H x xs d ds Qm Xm Q w r1 r2 gq gx)
def mBM (ty : String) (m : MM) (mo : FE) (ma : FA) : FE := fun ρ μ Q Xm => mo ρ μ (fun d μ1 => isT ty d μ1 ∧ ma ρ μ1 (fun ds μ2 => m d ds μ2 Q Xm) Xm) Xm
theorem pm_bm {ty id : String} {name : Str} {m : MM} {o e : Expr} {es : List Expr} {mo : FE} {ma : FA} {apos cpos : Pos} (pa : PlainAttrs ty) (slot : Slot ty name id) (hty : typeOf (.builtin id) = pure (.type "method_descriptor")) (hm : MtMM X T E id m) (ho : PM X T E o mo) (ha : PAM X T E (e :: es) ma)
    (hbase : attributeBase o name X.env (eval o X.env) = eval o X.env := by rfl)
    (hfew : ((backTo cpos (starEach (e :: es) X.env)).all (fun x => !x.1) && (backToKw cpos (keywordEach [] X.env)).all (fun x => x.1.isSome)
      && decide ((e :: es).length + ([] : List Keyword).length + (if ([] : List Keyword).isEmpty then 0 else 1) < 30)) = true := by rfl)
    (hline : (apos.endLine == cpos.line) = true := by rfl) (hs : starEach (e :: es) X.env = (false, eval e X.env) :: starEach es X.env := by rfl) (hplain : (backTo cpos (starEach es X.env)).any (·.1) = false := by rfl) :
    PM X T E (.Call (.Attribute o name apos) (e :: es) [] cpos) (mBM ty m mo ma) := by
  obtain ⟨r, hr, k⟩ := hm
  refine PE.imp (pe_bm pa slot hty hr ho ha hbase hfew hline hs hplain) fun σ H Q ⟨P, μ, φ, ρ, Qm, Xm, w, re, gq, gx, h⟩ => ?_
  refine ⟨P, μ, φ, ρ, _, Xm, w, re, fun d μ1 ⟨ht, h1⟩ P1 H1 x s1 w1 r1 => ⟨isT_of w1 r1 ht, ?_⟩, gx, h⟩
  refine ⟨P1, μ1, φ, ρ, _, Xm, w1, re.mono s1, fun ds μ2 h2 P2 H2 xs s2 w2 r2 => ?_, gx.mono s1, h1⟩
  exact k P2 μ2 φ H2 x xs d ds Qm Xm Q w2 (r1.mono s2) r2 (gq.mono (s1.trans s2)) (gx.mono (s1.trans s2)) h2
theorem pm_bm0 {ty id : String} {name : Str} {m : MM} {o : Expr} {mo : FE} {apos cpos : Pos} (pa : PlainAttrs ty) (slot : Slot ty name id) (hty : typeOf (.builtin id) = pure (.type "method_descriptor")) (hm : MtMM X T E id m) (ho : PM X T E o mo)
    (hbase : attributeBase o name X.env (eval o X.env) = eval o X.env := by rfl) (hline : (apos.endLine == cpos.line) = true := by rfl) : PM X T E (.Call (.Attribute o name apos) [] [] cpos) (mBM ty m mo mNil) := by
  obtain ⟨r, hr, k⟩ := hm
  refine PE.imp (pe_bm0 pa slot hty hr ho hbase hline) fun σ H Q ⟨P, μ, φ, ρ, Qm, Xm, w, re, gq, gx, h⟩ => ?_
  exact ⟨P, μ, φ, ρ, _, Xm, w, re, fun d μ1 ⟨ht, h1⟩ P1 H1 x s1 w1 r1 => ⟨isT_of w1 r1 ht, k P1 μ1 φ H1 x [] d [] Qm Xm Q w1 r1 .nil (gq.mono s1) (gx.mono s1) h1⟩, gx, h⟩
def bAppend : MM := fun d ds μ Q _ => match d, ds with
  | .ref a, [x] => (match μ a with
    | some (.lst xs) => xs.length < sizeLine ∧ Q .non (put μ a (.lst (xs ++ [x])))
    | _ => False)
  | _, _ => False
theorem t_append : MtMM X T E "list.append" bAppend := by
  refine ⟨_, mt_append, fun P μ φ H x xs d ds Qm Xm Q w r1 r2 gq gx h => ?_⟩
  unfold bAppend at h
  split at h
  · rename_i a y
    cases r1
    obtain ⟨v, rfl, rv⟩ := one_of r2
    split at h
    · rename_i zs q
      obtain ⟨_, o, ho, ro⟩ := w.cel a _ q
      cases o with
      | lst vs =>
        have rr : Reps X.K P vs zs := ro
        exact ⟨a, vs, v, rfl, rfl, ho, by rw [rr.length]; exact h.1, gq _ _ h.2 _ _ _ (Same.refl _) (w.put q ho (show RepO X.K P (.lst (vs ++ [v])) (.lst (zs ++ [y])) from rr.app (.cons rv .nil))) .non⟩
      | _ => exact (show False from ro).elim
    · exact h.elim
  · exact h.elim
theorem reps_str {K : PySem.W.Frag} {P : Hp} : ∀ (ys : List Str), Reps K P (ys.map V.str) (ys.map D.str)
  | [] => .nil
  | y :: ys => .cons (.str y) (reps_str ys)
def bSplit : MM := fun d ds μ Q _ => match d, ds with
  | .str a, [.str b] => (b.length == 0) = false ∧ a.length + 2 ≤ sizeLine ∧ Q (.lst ((Txt.split a b).map .str)) μ
  | _, _ => False
theorem t_split : MtMM X T E "str.split" bSplit := by
  refine ⟨_, mt_split, fun P μ φ H x xs d ds Qm Xm Q w r1 r2 gq gx h => ?_⟩
  unfold bSplit at h
  split at h
  · obtain ⟨v, rfl, rv⟩ := one_of r2
    cases r1; cases rv
    refine ⟨_, _, rfl, rfl, h.1, h.2.1, fun p hp => ?_⟩
    obtain ⟨w2, s2⟩ := w.grow (o := .lst ((Txt.split _ _).map V.str)) hp
    exact gq _ _ h.2.2 _ _ _ s2 w2 (.lst upd_same (reps_str _))
  · exact h.elim
def bStarts : MM := fun d ds μ Q _ => match d, ds with
  | .str a, [.str b] => Q (.bl (Txt.startswith a b)) μ
  | _, _ => False
theorem t_startswith : MtMM X T E "str.startswith" bStarts := by
  refine ⟨_, mt_startswith, fun P μ φ H x xs d ds Qm Xm Q w r1 r2 gq gx h => ?_⟩
  unfold bStarts at h
  split at h
  · obtain ⟨v, rfl, rv⟩ := one_of r2
    cases r1; cases rv
    exact ⟨_, _, rfl, rfl, gq.here w (.bl _) h⟩
  · exact h.elim
/-- sequences of texts -/
def strsD : List D → Option (List Str)
  | [] => some []
  | .str x :: ds => (strsD ds).map (x :: ·)
  | _ => none
theorem strs_of {K : PySem.W.Frag} {P : Hp} : ∀ {vs : List V} {ds : List D} {ys : List Str}, Reps K P vs ds → strsD ds = some ys → vs = ys.map V.str
  | _, _, _, .nil, e => by simp only [strsD, Option.some.injEq] at e; subst e; rfl
  | _, _, _, .cons (d := .str x) h t, e => by
    simp only [strsD, Option.map_eq_some_iff] at e
    obtain ⟨zs, e1, rfl⟩ := e
    cases h
    rw [strs_of t e1]; rfl
  | _, _, _, .cons (d := .non) h t, e => by cases e
  | _, _, _, .cons (d := .bl _) h t, e => by cases e
  | _, _, _, .cons (d := .int _) h t, e => by cases e
  | _, _, _, .cons (d := .ty _) h t, e => by cases e
  | _, _, _, .cons (d := .ref _) h t, e => by cases e
  | _, _, _, .cons (d := .tup _) h t, e => by cases e
  | _, _, _, .cons (d := .lst _) h t, e => by cases e
  | _, _, _, .cons (d := .wls _) h t, e => by cases e
  | _, _, _, .cons (d := .dict _) h t, e => by cases e
  | _, _, _, .cons (d := .ins _ _) h t, e => by cases e
  | _, _, _, .cons (d := .exc _ _) h t, e => by cases e
def bJoin : MM := fun d ds μ Q _ => match d, ds with
  | .str a, [s] => (match seqD s μ with
    | some xs => (match strsD xs with
      | some ys => (ys.map (·.length)).sum + ys.length * a.length ≤ 16777216 ∧ Q (.str (Txt.join a ys)) μ
      | none => False)
    | none => False)
  | _, _ => False
theorem t_join : MtMM X T E "str.join" bJoin := by
  refine ⟨_, mt_join, fun P μ φ H x xs d ds Qm Xm Q w r1 r2 gq gx h => ?_⟩
  unfold bJoin at h
  split at h
  · obtain ⟨v, rfl, rv⟩ := one_of r2
    cases r1
    split at h
    · rename_i zs e
      obtain ⟨p, vs, rfl, hs, rr⟩ := seqD_of w rv e
      split at h
      · rename_i ys e2
        have e3 := strs_of rr e2
        subst e3
        exact ⟨_, p, ys, rfl, rfl, hs, h.1, gq.here w (.str _) h.2⟩
      · exact h.elim
    · exact h.elim
  · exact h.elim
/-! texts with parts -/
def mFmt (me : FE) : FE := fun ρ μ Q Xm => me ρ μ (fun d μ1 => match d with
  | .str y => y.length ≤ sizeLine ∧ Q (.str y) μ1
  | .int i => i.natAbs.log2 < 1920 ∧ Q (.str (toString i : String)) μ1
  | _ => False) Xm
theorem pm_fmt {e : Expr} {me : FE} {pos : Pos} (he : PM X T E e me) : PM X T E (.FormattedValue e (-1) none pos) (mFmt me) := by
  refine PE.imp (pe_fmt he) fun σ H Q ⟨P, μ, φ, ρ, Qm, Xm, w, re, gq, gx, h⟩ => ?_
  refine ⟨P, μ, φ, ρ, _, Xm, w, re, fun d μ1 h1 P1 H1 x s1 w1 r1 => ?_, gx, h⟩
  split at h1
  · cases r1; exact .inl ⟨_, rfl, h1.1, gq _ _ h1.2 P1 H1 _ s1 w1 (.str _)⟩
  · cases r1; exact .inr ⟨_, rfl, h1.1, gq _ _ h1.2 P1 H1 _ s1 w1 (.str _)⟩
  · exact h1.elim
def mJs : List FE → Str → MEnv → MS → (Str → MS → Prop) → MX → Prop
  | [], acc, _, μ, Q, _ => Q acc μ
  | m :: ms, acc, ρ, μ, Q, Xm => m ρ μ (fun d μ1 => match d with
    | .str y => (acc ++ y).length ≤ sizeLine ∧ mJs ms (acc ++ y) ρ μ1 Q Xm
    | _ => False) Xm
inductive PJM (X : Cx) (T : Tx) (E : XK) : List Expr → List FE → Prop where
  | nil : PJM X T E [] []
  | cons {e : Expr} {m : FE} {es : List Expr} {ms : List FE} (h : PM X T E e m) (r : PJM X T E es ms) : PJM X T E (e :: es) (m :: ms)
theorem PJM.pj {es : List Expr} {ms : List FE} (h : PJM X T E es ms) : PJ X es (ms.map (lE X.K T E)) := by
  induction h with
  | nil => exact .nil
  | cons h _ ih => exact .cons h ih
theorem js_of {K : PySem.W.Frag} : ∀ {ms : List FE} {acc : Str} {σ : L2.St} {H : Hp} {Q : Str → Hp → Prop}, (∃ P μ φ ρ Qm Xm, Wd K T P μ φ H ∧ REnv K P σ ρ ∧ Go K T (fun _ a b => a = b) P φ Qm Q ∧ GoX K T P φ Xm E ∧ mJs ms acc ρ μ Qm Xm) → tJs (ms.map (lE K T E)) acc σ H Q
  | [], acc, σ, H, Q, ⟨P, μ, φ, ρ, Qm, Xm, w, re, gq, gx, h⟩ => gq.here w rfl h
  | m :: ms, acc, σ, H, Q, ⟨P, μ, φ, ρ, Qm, Xm, w, re, gq, gx, h⟩ => by
    refine ⟨P, μ, φ, ρ, _, Xm, w, re, fun d μ1 h1 P1 H1 x s1 w1 r1 => ?_, gx, h⟩
    split at h1
    · cases r1
      exact ⟨_, rfl, h1.1, js_of ⟨P1, μ1, φ, ρ, Qm, Xm, w1, re.mono s1, gq.mono s1, gx.mono s1, h1.2⟩⟩
    · exact h1.elim
def mJoined (ms : List FE) : FE := fun ρ μ Q Xm => mJs ms Str.empty ρ μ (fun s μ' => Q (.str s) μ') Xm
theorem pm_joined {v1 v2 : Expr} {rest : List Expr} {ms : List FE} {pos : Pos} (h : PJM X T E (v1 :: v2 :: rest) ms) : PM X T E (.JoinedStr (v1 :: v2 :: rest) pos) (mJoined ms) := by
  refine PE.imp (pe_joined h.pj) fun σ H Q ⟨P, μ, φ, ρ, Qm, Xm, w, re, gq, gx, h⟩ => ?_
  refine js_of ⟨P, μ, φ, ρ, _, Xm, w, re, fun s μ' h1 P1 H1 x s1 w1 e1 => ?_, gx, h⟩
  subst e1
  exact gq _ _ h1 P1 H1 _ s1 w1 (.str _)
theorem pm_joined1 {e : Expr} {me : FE} {pos : Pos} (he : PM X T E e me) : PM X T E (.JoinedStr [e] pos) me := pe_joined1 he
/-! list + list, list * int -/
/-- the items of a list that was made -/
def mdD (d : D) (μ : MS) : Option (List D) := match d with
  | .lst ds => some ds
  | .ref a => (match μ a with
    | some (.lst ds) => some ds
    | _ => none)
  | _ => none
theorem mdD_of {K : PySem.W.Frag} {P φ H : Hp} {μ : MS} {v : V} {d : D} {ds : List D} (w : Wd K T P μ φ H) (r : Rep K P v d) (h : mdD d μ = some ds) : ∃ a vs, v = .ref a ∧ H a = some (.lst vs) ∧ Reps K P vs ds := by
  cases r with
  | lst h1 rr => cases h; exact ⟨_, _, rfl, w.sub _ _ h1, rr⟩
  | ref a =>
    unfold mdD at h
    dsimp only at h
    split at h
    · rename_i xs q
      cases h
      obtain ⟨_, o, ho, ro⟩ := w.cel a _ q
      cases o with
      | lst vs => exact ⟨a, vs, rfl, ho, ro⟩
      | _ => exact (show False from ro).elim
    · cases h
  | _ => cases h
def mCatL : M2 := fun d1 d2 μ Q _ => match mdD d1 μ, mdD d2 μ with
  | some xs, some ys => xs.length + ys.length ≤ sizeLine ∧ Q (.lst (xs ++ ys)) μ
  | _, _ => False
theorem o_catL : OpM X T E (binaryOp .Add) mCatL := by
  refine ⟨_, op_cat, fun P μ φ H x y d1 d2 Qm Xm Q w r1 r2 gq gx h => ?_⟩
  unfold mCatL at h
  split at h
  · rename_i xs ys e1 e2
    obtain ⟨a, vs, rfl, ha, ra⟩ := mdD_of w r1 e1
    obtain ⟨b, us, rfl, hb, rb⟩ := mdD_of w r2 e2
    refine ⟨a, b, vs, us, rfl, rfl, ha, hb, by rw [ra.length, rb.length]; exact h.1, fun p hp => ?_⟩
    obtain ⟨w2, s2⟩ := w.grow (o := .lst (vs ++ us)) hp
    exact gq _ _ h.2 _ _ _ s2 w2 (.lst upd_same ((ra.app rb).mono s2))
  · exact h.elim
theorem reps_flat {K : PySem.W.Frag} {P : Hp} {vs : List V} {ds : List D} (r : Reps K P vs ds) : ∀ n : Nat, Reps K P (List.replicate n vs).flatten (List.replicate n ds).flatten
  | 0 => .nil
  | n + 1 => by
    rw [List.replicate_succ, List.replicate_succ, List.flatten_cons, List.flatten_cons]
    exact r.app (reps_flat r n)
def mRepL : M2 := fun d1 d2 μ Q _ => match mdD d1 μ, d2 with
  | some xs, .int k => -(2 ^ 63) ≤ k ∧ k < 2 ^ 63 ∧ xs.length * k.toNat ≤ sizeLine ∧ Q (.lst (List.replicate k.toNat xs).flatten) μ
  | _, _ => False
theorem o_repL : OpM X T E (binaryOp .Mult) mRepL := by
  refine ⟨_, op_rep, fun P μ φ H x y d1 d2 Qm Xm Q w r1 r2 gq gx h => ?_⟩
  unfold mRepL at h
  split at h
  · rename_i xs k e1
    cases r2
    obtain ⟨a, vs, rfl, ha, ra⟩ := mdD_of w r1 e1
    refine ⟨a, k, vs, rfl, rfl, ha, h.1, h.2.1, by rw [ra.length]; exact h.2.2.1, fun p hp => ?_⟩
    obtain ⟨w2, s2⟩ := w.grow (o := .lst (List.replicate k.toNat vs).flatten) hp
    exact gq _ _ h.2.2.2 _ _ _ s2 w2 (.lst upd_same ((reps_flat ra _).mono s2))
  · exact h.elim
/-! x in xs -/
/-- plain values: compared at once -/
def flD : D → Option V
  | .non => some .non
  | .bl b => some (.bl b)
  | .int i => some (.int i)
  | .str x => some (.str x)
  | _ => none
def flDs : List D → Option (List V)
  | [] => some []
  | d :: ds => match flD d, flDs ds with
    | some v, some vs => some (v :: vs)
    | _, _ => none
theorem fl_of {K : PySem.W.Frag} {P : Hp} {v u : V} {d : D} (r : Rep K P v d) (h : flD d = some u) : v = u := by
  cases r <;> cases h <;> rfl
theorem fls_of {K : PySem.W.Frag} {P : Hp} : ∀ {vs : List V} {ds : List D} {us : List V}, Reps K P vs ds → flDs ds = some us → vs = us
  | _, _, _, .nil, e => by simp only [flDs, Option.some.injEq] at e; exact e
  | _, _, _, .cons h t, e => by
    unfold flDs at e
    split at e
    · rename_i v vs e1 e2
      cases e
      rw [fl_of h e1, fls_of t e2]
    · cases e
def mIn (neg : Bool) : M2 := fun d1 d2 μ Q _ => match flD d1, seqD d2 μ with
  | some v, some ds => (match flDs ds with
    | some vs => flatV v = true ∧ vs.all flatV = true ∧ Q (.bl (if neg then !inV v vs else inV v vs)) μ
    | none => False)
  | _, _ => False
theorem o_in : OpM X T E (compareOp .In) (mIn false) := by
  refine ⟨_, op_in_seq, fun P μ φ H x y d1 d2 Qm Xm Q w r1 r2 gq gx h => ?_⟩
  unfold mIn at h
  split at h
  · rename_i v ds e1 e2
    obtain ⟨a, vs, rfl, hs, rr⟩ := seqD_of w r2 e2
    split at h
    · rename_i us e3
      have e4 := fls_of rr e3
      have e5 := fl_of r1 e1
      subst e4 e5
      exact ⟨a, _, rfl, hs, h.1, h.2.1, gq.here w (.bl _) h.2.2⟩
    · exact h.elim
  · exact h.elim
theorem o_notIn : OpM X T E (compareOp .NotIn) (mIn true) := by
  refine ⟨_, op_notIn_seq, fun P μ φ H x y d1 d2 Qm Xm Q w r1 r2 gq gx h => ?_⟩
  unfold mIn at h
  split at h
  · rename_i v ds e1 e2
    obtain ⟨a, vs, rfl, hs, rr⟩ := seqD_of w r2 e2
    split at h
    · rename_i us e3
      have e4 := fls_of rr e3
      have e5 := fl_of r1 e1
      subst e4 e5
      exact ⟨a, _, rfl, hs, h.1, h.2.1, gq.here w (.bl _) h.2.2⟩
    · exact h.elim
  · exact h.elim
/-- a sign in a text -/
def mInS (neg : Bool) : M2 := fun d1 d2 μ Q _ => match d1, d2 with
  | .str x, .str z => (match x.cps.toList with
    | [c] => Q (.bl (if neg then !decide (c ∈ z.cps.toList) else decide (c ∈ z.cps.toList))) μ
    | _ => False)
  | _, _ => False
theorem o_inS : OpM X T E (compareOp .In) (mInS false) := by
  refine ⟨_, op_in_sign, fun P μ φ H x y d1 d2 Qm Xm Q w r1 r2 gq gx h => ?_⟩
  unfold mInS at h
  split at h
  · rename_i x z
    split at h
    · rename_i c e
      cases r1; cases r2
      refine ⟨c, z, ?_, rfl, gq.here w (.bl _) h⟩
      obtain ⟨⟨l⟩⟩ := x
      simp only at e
      subst e
      rfl
    · exact h.elim
  · exact h.elim
end
end Mz

namespace Mz
open PySem PySem.Spec PyProof.Rows L2 AzX ClX LamX Hz He Az
section
variable {X : Cx} {T : Tx} {E : XK} {pos : Pos}
/-! raising -/
def sRaise (c : String) (names : List Str) (ma : FA) : FS := fun e ρ μ => ma ρ μ (fun ds μ1 => ds.length = names.length ∧ e.ex c (names.zip ds) μ1) e.ex
theorem repF_zip {K : PySem.W.Frag} {P : Hp} : ∀ {names : List Str} {vs : List V} {ds : List D}, Reps K P vs ds → RepF K P (names.zip vs) (names.zip ds)
  | [], _, _, _ => ⟨rfl, .nil⟩
  | _ :: _, _, _, .nil => ⟨rfl, .nil⟩
  | n :: ns, _, _, .cons h t => by
    obtain ⟨a, b⟩ := repF_zip (names := ns) t
    exact ⟨by simp [a], .cons h b⟩
theorem psm_raise {c : String} {names : List Str} {k : Nat} {x : Str} {p pos2 : Pos} {e : Expr} {es : List Expr} {ma : FA} (hc : X.calm = true) (tk : Takes X (fun cls d _ H => E cls d H)) (B : ErrT X.prog X.w X.K X.mg (ca X.K c) names) (hr : Room k X.A) (hg : Gl X x) (hm : X.mg x = some (.ref (ca X.K c))) (ha : PAM X T E (e :: es) ma)
    (hdb : (x == ("__debug__" : Str)) = false := by decide) (he : starEach (e :: es) X.env = (false, eval e X.env) :: starEach es X.env := by rfl) (hpl : (backTo pos (starEach es X.env)).any (·.1) = false := by rfl) :
    PSM X T E (.Raise (some (.Call (.Name x p) (e :: es) [] pos)) none pos2) (sRaise c names ma) := by
  refine PS.imp (ps_raiseEx (fs := names) hc tk (B.mks X.base) (raises_own B.r1 B.r2) hr hg hm B.kp ha hdb he hpl) fun D σ H ⟨P, μ, φ, ρ, e, w, re, ge, h⟩ => ?_
  refine ⟨P, μ, φ, ρ, _, _, w, re, fun ds μ1 ⟨hl, h1⟩ P1 H1 vs s1 w1 r1 => ⟨by rw [r1.length]; exact hl, fun d hd => ?_⟩, ge.ex, h⟩
  obtain ⟨w2, s2⟩ := w1.grow (o := .xd (names.zip vs)) hd
  exact ge.ex _ _ _ h1 _ _ d _ (s1.trans s2) w2 upd_same (repF_zip (r1.mono s2))
/-! a field of a caught error -/
def mXat (K : PySem.W.Frag) (mo : FE) (f : Str) : FE := fun ρ μ Q Xm => mo ρ μ (fun d μ1 => match d with
  | .exc c fs => XfC K (ca K c) ∧ PySem.W.findIn K (.ref (ca K c)) f = some none ∧ (match lkF f fs with
    | some v => Q v μ1
    | none => False)
  | _ => False) Xm
theorem pm_xat {o : Expr} {mo : FE} {m : Str} (ho : PM X T E o mo) (hb : attributeBase o m X.env (eval o X.env) = eval o X.env := by rfl) : PM X T E (.Attribute o m pos) (mXat X.K mo m) := by
  refine PE.imp (pe_xat ho hb) fun σ H Q ⟨P, μ, φ, ρ, Qm, Xm, w, re, gq, gx, h⟩ => ?_
  refine ⟨P, μ, φ, ρ, _, Xm, w, re, fun d μ1 h1 P1 H1 v s1 w1 r1 => ?_, gx, h⟩
  split at h1
  · rename_i c fs
    obtain ⟨k1, k2, h1⟩ := h1
    cases r1 with
    | exc h2 hd e1 rr =>
      split at h1
      · rename_i v' hv
        obtain ⟨u, hu, ru⟩ := RepF.look ⟨e1, rr⟩ hv
        exact ⟨_, _, _, _, u, rfl, w1.sub _ _ h2, k1, k2, w1.sub _ _ hd, hu, gq _ _ h1 P1 H1 _ s1 w1 ru⟩
      · exact h1.elim
  · exact h1.elim
/-! try .. except X as n -/
def isErr (K : PySem.W.Frag) (c : String) (cv : Value) : Option Bool := PySem.W.exmOne K (.ref (ca K c)) cv
def sTry (K : PySem.W.Frag) (cv : Value) (N i : Nat) (mb ms : FS) : FS := fun e ρ μ => mb { e with ex := fun cn fs μ' => match isErr K cn cv with
    | some true => ms { nx := fun ρ' μ'' => e.nx (ρ'.set i none) μ'', rt := e.rt, ex := fun _ _ _ => False, bk := fun ρ' μ'' => e.bk (ρ'.set i none) μ'', ct := fun ρ' μ'' => e.ct (ρ'.set i none) μ'' } ((List.replicate N none).set i (some (.exc cn fs))) μ'
    | some false => e.ex cn fs μ'
    | none => False } ρ μ
theorem REnv.none (K : PySem.W.Frag) (P : Hp) (σ : L2.St) : REnv K P σ (List.replicate σ.length none) := ⟨by simp, fun i d e => by
  rw [List.getElem?_replicate] at e
  split at e <;> cases e⟩
theorem psm_try {x n : Str} {c : Value} {i : Nat} {body suite : List Stmt} {b₀ : Stmt} {np pos' : Pos} {mb ms : FS} (hs : X.stack = X.env :: X.outer) (hf : X.env.frame = some X.env.locals) (hN : X.N.Nodup) (hi : X.N[i]? = some n) (hln : X.env.kindOf n = some .local) (hc : Names X x c) (tk : Takes X (fun cls d _ H => E cls d H))
    (hb : ∀ (pn : List (Addr × Obj)) (xe : Value → Shared → Prop) (E' : XK), Takes (X.tr pn xe) (fun cls d σ H => σ.length = X.N.length → E' cls d H) → PassesOwn (model X.prog X.w) X.A X.env xe → PSsM (X.tr pn xe) T E' body mb)
    (hsu : ∀ (a : Addr) (pn : List (Addr × Obj)), PSsM (kSuite X a pn) T E0 (b₀ :: suite) ms) :
    PSM X T E (.Try body [.ExceptHandler (some (.Name x np)) (some n) (b₀ :: suite) pos'] [] [] pos) (sTry X.K c X.N.length i mb ms) := by
  refine PS.imp (ps_try_keep (i := i) (c := c) (Wout := fun cls d _ H => E cls d H) (tb := fun W => lS X.K T (fun cls d H' => ∀ σ' : L2.St, σ'.length = X.N.length → W cls d σ' H') mb) (ts := fun a => lS X.K T E0 ms) hs hf hN hi hln hc tk
    (fun W pn xe tk' po => hb pn xe _ (fun u s' xx => tk' u s' (by
      obtain ⟨a, B, sI, pins, σ, H, cls, d, e, I, nb, up, sky, na, os, ag, w⟩ := xx
      exact ⟨a, B, sI, pins, σ, H, cls, d, e, I, nb, up, sky, na, os, ag, w I.len σ I.len⟩)) po) hsu) fun D σ H ⟨P, μ, φ, ρ, e, w, re, ge, h⟩ => ?_
  refine ⟨P, μ, φ, ρ, { e with ex := fun cn fs μ' => match isErr X.K cn c with
    | some true => ms { nx := fun ρ' μ'' => e.nx (ρ'.set i none) μ'', rt := e.rt, ex := fun _ _ _ => False, bk := fun ρ' μ'' => e.bk (ρ'.set i none) μ'', ct := fun ρ' μ'' => e.ct (ρ'.set i none) μ'' } ((List.replicate X.N.length none).set i (some (.exc cn fs))) μ'
    | some false => e.ex cn fs μ'
    | none => False }, w, re, ⟨ge.nx, ge.rt, ge.bk, ge.ct, ?_⟩, h⟩
  intro cn fs μ' hx P' H' dd vs s' w' hdd rf σ' hl
  dsimp only at hx
  split at hx
  · rename_i q
    refine ⟨true, q, fun _ a ha => ?_, fun z => by cases z⟩
    obtain ⟨w2, s2⟩ := w'.grow (o := ExG (.ref (ca X.K cn)) (some dd) a) ha (fun ps z => by unfold ExG at z; cases z)
    have rr : Rep X.K (upd P' a (ExG (.ref (ca X.K cn)) (some dd) a)) (.ref a) (.exc cn fs) := by
      have rf2 := rf.mono s2
      exact .exc upd_same (s2 _ _ hdd) rf2.1 rf2.2
    have re2 : REnv X.K (upd P' a (ExG (.ref (ca X.K cn)) (some dd) a)) (σ'.set i (some (.ref a))) ((List.replicate X.N.length none).set i (some (.exc cn fs))) := by
      rw [← hl]
      exact (REnv.none X.K _ σ').set i rr
    have sa := s'.trans s2
    refine ⟨_, μ', φ, _, { nx := fun ρ' μ'' => e.nx (ρ'.set i none) μ'', rt := e.rt, ex := fun _ _ _ => False, bk := fun ρ' μ'' => e.bk (ρ'.set i none) μ'', ct := fun ρ' μ'' => e.ct (ρ'.set i none) μ'' }, w2, re2, ⟨fun ρ1 μ1 h1 P1 H1 σ1 s1 w1 r1 => ge.nx _ _ h1 P1 H1 _ (sa.trans s1) w1 (r1.forget i Option.none), ge.rt.mono sa, fun ρ1 μ1 h1 P1 H1 σ1 s1 w1 r1 => ge.bk _ _ h1 P1 H1 _ (sa.trans s1) w1 (r1.forget i Option.none), fun ρ1 μ1 h1 P1 H1 σ1 s1 w1 r1 => ge.ct _ _ h1 P1 H1 _ (sa.trans s1) w1 (r1.forget i Option.none), GoX.false⟩, hx⟩
  · rename_i q
    exact ⟨false, q, fun z => (by cases z), fun _ => ge.ex _ _ _ hx P' H' dd vs s' w' hdd rf⟩
  · exact hx.elim
end
/-! ### list comprehensions -/
/-- the target of a comprehension: it stores its own names alone -/
def GRw (K : PySem.W.Frag) (T : Tx) (vs : List Nat) (g : TG) (gm : FG) : Prop := ∀ P μ φ v d σ ρ H (k : MEnv → MS → Prop) (Q : L2.St → Hp → Prop), Wd K T P μ φ H → Rep K P v d → REnv K P σ ρ → gm d ρ μ k (fun _ _ _ => False) →
  (∀ ρ2 σ2, k ρ2 μ → REnv K P σ2 ρ2 → wipe σ2 vs = wipe σ vs → Q σ2 H) → g v σ H Q
def GsRw (K : PySem.W.Frag) (T : Tx) (vs : List Nat) (g : TGs) (gm : FGs) : Prop := ∀ P μ φ us ds σ ρ H (k : MEnv → MS → Prop) (Q : L2.St → Hp → Prop), Wd K T P μ φ H → Reps K P us ds → REnv K P σ ρ → gm ds ρ μ k (fun _ _ _ => False) →
  (∀ ρ2 σ2, k ρ2 μ → REnv K P σ2 ρ2 → wipe σ2 vs = wipe σ vs → Q σ2 H) → g us σ H Q
theorem wipe_set {i : Nat} {x : Option V} : ∀ {vs : List Nat} {σ : L2.St}, i ∈ vs → wipe (σ.set i x) vs = wipe σ vs
  | v :: vs, σ, h => by
    unfold wipe
    by_cases hi : i ∈ vs
    · rw [wipe_set hi]
    · have e : i = v := by
        rcases List.mem_cons.mp h with h | h
        · exact h
        · exact (hi h).elim
      subst e
      have com : ∀ {us : List Nat} {σ : L2.St}, i ∉ us → wipe (σ.set i x) us = (wipe σ us).set i x := fun {us} => by
        induction us with
        | nil => intro σ _; rfl
        | cons u us ih =>
          intro σ hu
          have h1 : i ≠ u := fun z => hu (by rw [z]; exact List.mem_cons_self)
          have h2 : i ∉ us := fun z => hu (List.mem_cons_of_mem _ z)
          unfold wipe
          rw [ih h2, List.set_comm _ _ h1]
      rw [com hi, List.set_set]
theorem wipe_wipe : ∀ {vs : List Nat} {σ : L2.St}, wipe (wipe σ vs) vs = wipe σ vs
  | [], σ => rfl
  | v :: vs, σ => by
    show wipe ((wipe σ vs).set v none) (v :: vs) = _
    rw [wipe_set List.mem_cons_self]
    show (wipe (wipe σ vs) vs).set v none = (wipe σ vs).set v none
    rw [wipe_wipe]
theorem grw_name {K : PySem.W.Frag} {T : Tx} {vs : List Nat} {i : Nat} (hi : i ∈ vs) : GRw K T vs (gName i) (gmName i) := fun P μ φ v d σ ρ H k Q w r re h hk => hk _ _ h (re.set i r) (wipe_set hi)
theorem gsrw_nil {K : PySem.W.Frag} {T : Tx} {vs : List Nat} : GsRw K T vs gNil gmNil := fun P μ φ us ds σ ρ H k Q w r re h hk => by
  cases r with
  | nil => exact ⟨rfl, hk _ _ h re rfl⟩
  | cons _ _ => exact h.elim
theorem gsrw_cons {K : PySem.W.Frag} {T : Tx} {vs : List Nat} {g : TG} {gs : TGs} {gm : FG} {gms : FGs} {i : Nat} (hg : i ∈ vs) (h2 : GsRw K T vs gs gms) : GsRw K T vs (gCons (gName i) gs) (gmCons (gmName i) gms) := fun P μ φ us ds σ ρ H k Q w r re h hk => by
  cases r with
  | nil => exact h.elim
  | cons r1 rr =>
    refine ⟨_, _, rfl, ?_⟩
    exact h2 P μ φ _ _ _ _ H k Q w rr (re.set i r1) h fun ρ2 σ2 hk2 re2 e2 => hk ρ2 σ2 hk2 re2 (e2.trans (wipe_set hg))
theorem grw_tup {K : PySem.W.Frag} {T : Tx} {vs : List Nat} {n : Nat} {gs : TGs} {gms : FGs} (h2 : GsRw K T vs gs gms) : GRw K T vs (gTup K n gs) (gmTup n gms) := fun P μ φ v d σ ρ H k Q w r re h hk => by
  unfold gmTup at h
  split at h
  · cases r with
    | tup h1 rr => exact ⟨_, _, rfl, TuA.sq w.sub h1, by rw [rr.length]; exact h.1, h2 P μ φ _ _ σ ρ H k Q w rr re h.2 hk⟩
  · exact h.elim
def wipeM (ρ : MEnv) : List Nat → MEnv
  | [] => ρ
  | v :: vs => (wipeM ρ vs).set v none
theorem REnv.wipe {K : PySem.W.Frag} {P : Hp} {σ : L2.St} {ρ : MEnv} (r : REnv K P σ ρ) : ∀ vs : List Nat, REnv K P (L2.wipe σ vs) (wipeM ρ vs)
  | [] => r
  | v :: vs => (REnv.wipe r vs).forget v Option.none
def goLc (g : FG) (tt : FT) (el : FE) (ρ0 : MEnv) : List D → List D → MS → (List D → MS → Prop) → Prop
  | [], acc, μ, k => k acc μ
  | d :: ds, acc, μ, k => g d ρ0 μ (fun ρ2 μ2 => tt ρ2 μ2 (fun b μ3 => if b = true then el ρ2 μ3 (fun y μ4 => acc.length < sizeLine ∧ goLc g tt el ρ0 ds (acc ++ [y]) μ4 k) (fun _ _ _ => False) else goLc g tt el ρ0 ds acc μ3 k) (fun _ _ _ => False)) (fun _ _ _ => False)
def mLc (it : FI) (g : FG) (tt : FT) (el : FE) (vs : List Nat) : FE := fun ρ μ Q Xm => it ρ μ (fun ds μ1 => goLc g tt el (wipeM ρ vs) ds [] μ1 (fun acc μ2 => Q (.lst acc) μ2)) Xm
def mYes : FT := fun _ μ Q _ => Q true μ
def PTsM (X : Cx) (T : Tx) (E : XK) (ifs : List Expr) (m : FT) : Prop := PTs X ifs (lT X.K T E m)
section
variable {X : Cx} {T : Tx} {E : XK} {pos : Pos}
theorem ptsm_nil : PTsM X T E [] mYes := ⟨fun pins s σ H Q I ⟨P, μ, φ, ρ, Qm, Xm, w, re, gq, gx, h⟩ => pts_nil.run pins s σ H Q I (gq.here w rfl h)⟩
theorem ptsm_one {c : Expr} {m : FT} (h : PTM X T E c m) : PTsM X T E [c] m := pts_one h
theorem Wd.hide {K : PySem.W.Frag} {P φ H : Hp} {μ : MS} {a : Addr} {xs : List V} (w : Wd K T P μ φ H) (ha : H a = none) : Wd K T P μ (upd φ a (.lst xs)) (upd H a (.lst xs)) := by
  have np : P a = none := w.sub.free ha
  have nm : μ a = none := w.free ha
  refine ⟨fun b u h => ?_, fun b c2 h => ?_, w.tab.ext fun b u h => ?_, fun q hq => ?_, w.low, w.nt, fun b u h => ?_, fun b u h => ?_⟩
  · have hb : b ≠ a := fun z => by rw [z, np] at h; cases h
    rw [upd_ne hb]; exact w.sub b u h
  · obtain ⟨h1, o2, h2, h3⟩ := w.cel b c2 h
    have hb : b ≠ a := fun z => by rw [z, ha] at h2; cases h2
    exact ⟨h1, o2, by rw [upd_ne hb]; exact h2, h3⟩
  · have hb : b ≠ a := fun z => by rw [z, ha] at h; cases h
    rw [upd_ne hb]; exact h
  · obtain ⟨ps, h1, _⟩ := w.tab q hq
    have ne : q.1 ≠ a := fun z => by rw [z, ha] at h1; cases h1
    exact ⟨(w.tno q hq).1, (w.tno q hq).2.1, by rw [upd_ne ne]; exact (w.tno q hq).2.2⟩
  · by_cases hb : b = a
    · subst hb; rw [upd_same] at h; cases h; exact ⟨_, rfl⟩
    · rw [upd_ne hb] at h; exact w.nf b u h
  · by_cases hb : b = a
    · subst hb; rw [upd_same] at h; cases h; exact ⟨upd_same, np, nm⟩
    · rw [upd_ne hb] at h
      obtain ⟨h1, h2, h3⟩ := w.frm b u h
      exact ⟨by rw [upd_ne hb]; exact h1, h2, h3⟩
/-- what is hidden is changed -/
theorem Wd.rehide {K : PySem.W.Frag} {P φ H : Hp} {μ : MS} {a : Addr} {xs ys : List V} (w : Wd K T P μ (upd φ a (.lst xs)) H) : Wd K T P μ (upd φ a (.lst ys)) (upd H a (.lst ys)) := by
  obtain ⟨ha, np, nm⟩ := w.frm a _ upd_same
  refine ⟨fun b u h => ?_, fun b c2 h => ?_, fun q hq => ?_, fun q hq => ?_, w.low, w.nt, fun b u h => ?_, fun b u h => ?_⟩
  · have hb : b ≠ a := fun z => by rw [z, np] at h; cases h
    rw [upd_ne hb]; exact w.sub b u h
  · obtain ⟨h1, o2, h2, h3⟩ := w.cel b c2 h
    have hb : b ≠ a := fun z => by rw [z, nm] at h; cases h
    exact ⟨h1, o2, by rw [upd_ne hb]; exact h2, h3⟩
  · obtain ⟨ps, h1, h2, h3⟩ := w.tab q hq
    have ne : q.1 ≠ a := fun z => by rw [z, ha] at h1; cases h1
    refine ⟨ps, by rw [upd_ne ne]; exact h1, h2, fun pos cv hcv => ?_⟩
    obtain ⟨c3, e1, e2⟩ := h3 pos cv hcv
    have ne3 : c3 ≠ a := fun z => by rw [z, ha] at e2; cases e2
    exact ⟨c3, e1, by rw [upd_ne ne3]; exact e2⟩
  · obtain ⟨t1, t2, t3⟩ := w.tno q hq
    have ne : q.1 ≠ a := fun z => by rw [z, upd_same] at t3; cases t3
    rw [upd_ne ne] at t3
    exact ⟨t1, t2, by rw [upd_ne ne]; exact t3⟩
  · by_cases hb : b = a
    · subst hb; rw [upd_same] at h; cases h; exact ⟨_, rfl⟩
    · rw [upd_ne hb] at h; exact w.nf b u (by rw [upd_ne hb]; exact h)
  · by_cases hb : b = a
    · subst hb; rw [upd_same] at h; cases h; exact ⟨upd_same, np, nm⟩
    · rw [upd_ne hb] at h
      obtain ⟨h1, h2, h3⟩ := w.frm b u (by rw [upd_ne hb]; exact h)
      exact ⟨by rw [upd_ne hb]; exact h1, h2, h3⟩
/-- what is hidden stands for ever -/
theorem Wd.show {K : PySem.W.Frag} {P φ H : Hp} {μ : MS} {a : Addr} {o : HO} (w : Wd K T P μ (upd φ a o) H) (ha : φ a = none) : Wd K T (upd P a o) μ φ H ∧ Same P (upd P a o) := by
  obtain ⟨hH, np, nm⟩ := w.frm a _ upd_same
  have ho : ∀ ps, o ≠ .tbl ps := by
    obtain ⟨xs, rfl⟩ := w.nf a o upd_same
    exact fun ps z => (by cases z)
  have s : Same P (upd P a o) := fun b u h => by
    have hb : b ≠ a := fun z => by rw [z, np] at h; cases h
    rw [upd_ne hb]; exact h
  refine ⟨⟨fun b u h => ?_, fun b c2 h => ?_, w.tab, fun q hq => ?_, w.low.trans s, fun b u h => ?_, fun b u h => ?_, fun b u h => ?_⟩, s⟩
  · by_cases hb : b = a
    · subst hb; rw [upd_same] at h; cases h; exact hH
    · rw [upd_ne hb] at h; exact w.sub b u h
  · obtain ⟨h1, o2, h2, h3⟩ := w.cel b c2 h
    have hb : b ≠ a := fun z => by rw [z, nm] at h; cases h
    exact ⟨by rw [upd_ne hb]; exact h1, o2, h2, h3.mono s⟩
  · obtain ⟨t1, t2, t3⟩ := w.tno q hq
    have ne : q.1 ≠ a := fun z => by rw [z, upd_same] at t3; cases t3
    rw [upd_ne ne] at t3
    exact ⟨by rw [upd_ne ne]; exact t1, t2, t3⟩
  · by_cases hb : b = a
    · subst hb; rw [upd_same] at h; cases h; exact ho
    · rw [upd_ne hb] at h; exact w.nt b u h
  · have hb : b ≠ a := fun z => by rw [z, ha] at h; cases h
    exact w.nf b u (by rw [upd_ne hb]; exact h)
  · have hb : b ≠ a := fun z => by rw [z, ha] at h; cases h
    obtain ⟨h1, h2, h3⟩ := w.frm b u (by rw [upd_ne hb]; exact h)
    exact ⟨h1, by rw [upd_ne hb]; exact h2, h3⟩
theorem lc_of {it : FI} {g : TG} {gm : FG} {tt : FT} {el : FE} {vs : List Nat} {K : PySem.W.Frag} (hg : GRw K T vs g gm) {σ : L2.St} {H : Hp} {Q : VK} (h : lE K T E (mLc it gm tt el vs) σ H Q) : tLc (lI K T E it) g (lT K T E0 tt) (lE K T E0 el) vs σ H Q := by
  obtain ⟨P, μ, φ, ρ, Qm, Xm, w, re, gq, gx, h⟩ := h
  refine ⟨P, μ, φ, ρ, _, Xm, w, re, fun ds μ1 h1 P1 H1 J s1 w1 dl D hD => ?_, gx, h⟩
  have hφ : φ D = none := by
    cases q : φ D with
    | none => rfl
    | some o => have := (w1.frm D o q).1; rw [hD] at this; cases this
  refine ⟨fun i m H' => ∃ P' μ' acc accV, Same P1 P' ∧ Wd K T P' μ' (upd φ D (.lst accV)) H' ∧ Reps K P' accV acc ∧ m = ds.length - i ∧ goLc gm tt el (wipeM ρ vs) (ds.drop i) acc μ' (fun acc μ2 => Qm (.lst acc) μ2),
    ⟨_, P1, μ1, [], [], Same.refl _, w1.hide hD, .nil, rfl, by rw [List.drop_zero]; exact h1⟩, ?_⟩
  rintro i m H' ⟨P', μ', acc, accV, s', w', ra, rfl, q⟩
  obtain ⟨dl1, dl2⟩ := dl i P' μ' _ H' s' w'
  cases hd : ds[i]? with
  | none =>
    have z : ds.drop i = [] := List.drop_eq_nil_of_le (List.getElem?_eq_none_iff.mp hd)
    rw [z] at q
    obtain ⟨w2, s2⟩ := w'.show hφ
    exact .inl ⟨dl2 hd, gq _ _ q _ H' _ ((s1.trans s').trans s2) w2 (.lst upd_same (ra.mono s2))⟩
  | some d =>
    obtain ⟨hlt, e1⟩ := List.getElem?_eq_some_iff.mp hd
    have z : ds.drop i = d :: ds.drop (i + 1) := by rw [← e1]; exact (List.getElem_cons_drop hlt).symm
    rw [z] at q
    obtain ⟨go, yl⟩ := dl1 d hd
    refine .inr ⟨go, fun H2 => ∃ m', m' < ds.length - i ∧ ∃ P' μ' acc accV, Same P1 P' ∧ Wd K T P' μ' (upd φ D (.lst accV)) H2 ∧ Reps K P' accV acc ∧ m' = ds.length - (i + 1) ∧ goLc gm tt el (wipeM ρ vs) (ds.drop (i + 1)) acc μ' (fun acc μ2 => Qm (.lst acc) μ2), fun H2 q => q, fun x H2 hy => ?_⟩
    obtain ⟨P2, s2, w2, r2⟩ := yl x H2 hy
    refine hg P2 μ' _ x d _ _ H2 _ _ w2 r2 ((re.mono ((s1.trans s').trans s2)).wipe vs) q fun ρ3 σ3 h3 re3 e3 => ⟨e3.trans wipe_wipe, ?_⟩
    refine ⟨P2, μ', _, ρ3, _, _, w2, re3, fun b μ3 h4 P3 H3 b' s3 w3 eb => ?_, GoX.false, h3⟩
    subst eb
    cases b' with
    | false =>
      rw [if_neg (by decide)] at h4 ⊢
      exact ⟨_, by omega, P3, μ3, acc, accV, (s'.trans s2).trans s3, w3, ra.mono (s2.trans s3), rfl, h4⟩
    | true =>
      rw [if_pos rfl] at h4 ⊢
      refine ⟨P3, μ3, _, ρ3, _, _, w3, re3.mono s3, fun y μ4 ⟨hl, h5⟩ P4 H4 yv s4 w4 ry => ?_, GoX.false, h4⟩
      refine ⟨accV, (w4.frm D _ upd_same).1, by rw [ra.length]; exact hl, _, by omega, P4, μ4, _, _, ((s'.trans s2).trans s3).trans s4, w4.rehide, (ra.mono ((s2.trans s3).trans s4)).app (.cons ry .nil), rfl, h5⟩
theorem pm_lc {elt tg iter : Expr} {ifs : List Expr} {scope : Scope} {own : List (Str × Nat)} {mi : FI} {g : TG} {gm : FG} {tt : FT} {el : FE} (hc : X.calm = true) (hN : X.N.Nodup) (hi : PIM X T E tg iter mi) (ok : BlkOk X.N X.env.scope scope own) (hgm : GRw X.K T (own.map (·.2)) g gm)
    (hg : ∀ (s : Shared) (H : Hp) (C : Addr) (cl : List (Str × Addr)) (fp : List Addr), PG (X.blk s H scope (compEnvC scope cl C X.env) fp) tg g) (ht : ∀ (s : Shared) (H : Hp) (C : Addr) (cl : List (Str × Addr)) (fp : List Addr), PTsM (X.blk s H scope (compEnvC scope cl C X.env) fp) T E0 ifs tt)
    (he : ∀ (s : Shared) (H : Hp) (C : Addr) (cl : List (Str × Addr)) (fp : List Addr), PM (X.blk s H scope (compEnvC scope cl C X.env) fp) T E0 elt el) (hs : ∀ x, foldedSetIterable iter X.env x = pure x := by intro _; rfl) :
    PM X T E (.ListComp elt [⟨tg, iter, ifs, 0⟩] scope pos) (mLc mi gm tt el (own.map (·.2))) := PE.imp (pe_lc (tt := lT X.K T E0 tt) (te := lE X.K T E0 el) hc hN hi ok hg ht he hs) fun σ H Q h => lc_of hgm h
theorem psm_setLc {i : Nat} {y : Str} {py spos : Pos} {elt tg iter : Expr} {ifs : List Expr} {scope : Scope} {own : List (Str × Nat)} {mi : FI} {g : TG} {gm : FG} {tt : FT} {el : FE} (hc : X.calm = true) (hN : X.N.Nodup) (hy : X.N[i]? = some y) (hyl : X.env.scope.names.lookup y = some .local)
    (hsw : swapsWith (.ListComp elt [⟨tg, iter, ifs, 0⟩] scope pos) (some (.Name y py)) spos.line X.env = pure true) (hi : PIM X T E tg iter mi) (ok : BlkOk X.N X.env.scope scope own) (hgm : GRw X.K T (own.map (·.2)) g gm)
    (hg : ∀ (s : Shared) (H : Hp) (C : Addr) (cl : List (Str × Addr)) (fp : List Addr), PG (X.blk s H scope (compEnvC scope cl C X.env) fp) tg g) (ht : ∀ (s : Shared) (H : Hp) (C : Addr) (cl : List (Str × Addr)) (fp : List Addr), PTsM (X.blk s H scope (compEnvC scope cl C X.env) fp) T E0 ifs tt)
    (he : ∀ (s : Shared) (H : Hp) (C : Addr) (cl : List (Str × Addr)) (fp : List Addr), PM (X.blk s H scope (compEnvC scope cl C X.env) fp) T E0 elt el) (hs : ∀ x, foldedSetIterable iter X.env x = pure x := by intro _; rfl) :
    PSM X T E (.Assign [.Name y py] (.ListComp elt [⟨tg, iter, ifs, 0⟩] scope pos) spos) (sSet i (mLc mi gm tt el (own.map (·.2)))) := by
  refine PS.imp (ps_setLc (tt := lT X.K T E0 tt) (te := lE X.K T E0 el) hc hN hy hyl hsw hi ok hg ht he hs) fun D σ H ⟨P, μ, φ, ρ, e, w, re, ge, h⟩ => ?_
  refine lc_of hgm ⟨P, μ, φ, ρ, _, _, w, re, fun d μ1 h1 P1 H1 x s1 w1 r1 => ?_, ge.ex, h⟩
  exact ge.nx _ _ h1 P1 H1 _ s1 w1 ((re.mono s1).set _ r1)
end
end Mz

namespace Mz
open PySem PySem.Spec PyProof.Rows L2 AzX ClX LamX Hz He Az
/-! ### a lambda handed to a def that calls it -/
abbrev TH := MS → (D → MS → Prop) → MX → Prop
/-- a() in the def that got the lambda f -/
def mAsk (f : Addr) (th : TH) : FE := fun ρ μ Q Xm => (match ρ[0]? with
  | some (some (D.ref a)) => a = f
  | _ => False) ∧ th μ Q Xm
def mHeard (N : Nat) (mb : Addr → TH → FS) (m : FE) : FE := fun ρ μ Q _ => ∀ f, mb f (fun μ' Q' X' => m ρ μ' Q' X') { nx := fun _ μ' => Q .non μ', rt := Q, ex := fun _ _ _ => False } (some (.ref f) :: List.replicate (N - 1) none) μ
section
variable {K : PySem.W.Frag} {T T' : Tx} {P φ H H1 : Hp} {μ : MS}
theorem Wd.conv (w : Wd K T P μ φ H) (ht : T'.tabs = T.tabs) (hl : Same T'.low P) : Wd K T' P μ φ H := ⟨w.sub, w.cel, by rw [ht]; exact w.tab, by rw [ht]; exact w.tno, hl, w.nt, w.nf, w.frm⟩
theorem Go.conv {α β : Type} {R : Hp → α → β → Prop} {Qm : β → MS → Prop} {Q : α → Hp → Prop} (g : Go K T R P φ Qm Q) (ht : T'.tabs = T.tabs) (hl : Same T.low P) : Go K T' R P φ Qm Q := fun d μ h P' H' v s w r => g d μ h P' H' v s (w.conv ht.symm (hl.trans s)) r
theorem GoX.conv {Xm : MX} {E : XK} (g : GoX K T P φ Xm E) (ht : T'.tabs = T.tabs) (hl : Same T.low P) : GoX K T' P φ Xm E := fun c fs μ h P' H' dd vs s w => g c fs μ h P' H' dd vs s (w.conv ht.symm (hl.trans s))
theorem Wd.extN (w : Wd K T P μ φ H) (e : ExtN H H1) (t : Tabs T.tabs H1) : Wd K T P μ φ H1 := by
  refine ⟨fun b u h => e b u (w.sub b u h) (w.nt b u h), fun b c h => ?_, t, w.tno, w.low, w.nt, w.nf, fun b u h => ?_⟩
  · obtain ⟨h1, o, h2, h3⟩ := w.cel b c h
    exact ⟨h1, o, e b o h2 (repO_kind h3).2, h3⟩
  · obtain ⟨h1, h2, h3⟩ := w.frm b u h
    obtain ⟨xs, rfl⟩ := w.nf b u h
    exact ⟨e b _ h1 (fun ps z => by cases z), h2, h3⟩
/-- what the def makes of the lambda's reading -/
def TTm (K : PySem.W.Frag) (T : Tx) (N : Nat) (mb : Addr → TH → FS) : (XK → Hp → VK → Prop) → Hp → VK → Prop := fun tl H Q => ∃ P μ φ th Qm, Wd K T P μ φ H ∧ Go K T (Rep K) P φ Qm Q ∧
  (∀ f, mb f th { nx := fun _ μ' => Qm .non μ', rt := Qm, ex := fun _ _ _ => False } (some (.ref f) :: List.replicate (N - 1) none) μ) ∧
  ∀ P' μ' φ' H' E' Q' Qm' Xm', Same P P' → Wd K T P' μ' φ' H' → Go K T (Rep K) P' φ' Qm' Q' → GoX K T P' φ' Xm' E' → th μ' Qm' Xm' → tl E' H' Q'
end
section
variable {X : Cx} {T : Tx} {E : XK} {Ng : List Str} {x a : Str} {sg : Scope} {g : Addr} {cdg : Value} {bg : List Stmt} {mb : Addr → TH → FS}
/-- the context of such a def -/
abbrev hcx (X : Cx) (Ng : List Str) (x : Str) (sg : Scope) (g : Addr) (cdg : Value) (s : Shared) (H : Hp) : Cx := (cxOf C8.CX0 X.prog X.w X.K X.mg X.base Ng x sg g cdg X.A X.stack s H C8.E0).nox
theorem gives_of {q : Str} (hN : 0 < Ng.length)
    (der : ∀ (s : Shared) (H : Hp) (f : Addr) (th : TH) (T' : Tx), T'.tabs = T.tabs →
      (∀ (pn : List (Addr × Obj)) (xe : Value → Shared → Prop) (E' : XK) (p1 p2 : Pos), Takes ((hcx X Ng x sg g cdg s H).tr pn xe) (fun cls d σ H => σ.length = Ng.length → E' cls d H) → PM ((hcx X Ng x sg g cdg s H).tr pn xe) T' E' (.Call (.Name a p1) [] [] p2) (mAsk f th)) →
      PSsM (hcx X Ng x sg g cdg s H) T' E0 bg (mb f th)) : GivesTo X Ng x sg g cdg bg a q (TTm X.K T Ng.length mb) := by
  intro f c' s H Q tl act hc h
  obtain ⟨P, μ, φ, th, Qm, w, gq, hb, snd⟩ := h
  have sP : Same P (upd P c' (CodeO c' q)) := fun b u h => by
    by_cases hb : b = c'
    · subst hb
      have := w.sub _ _ h
      rw [hc] at this; cases this
      exact upd_same
    · rw [upd_ne hb]; exact h
  have w1 : Wd X.K { tabs := T.tabs, low := upd P c' (CodeO c' q) } (upd P c' (CodeO c' q)) μ φ H := by
    refine ⟨fun b u h => ?_, fun b c h => ?_, w.tab, fun p hp => ?_, Same.refl _, fun b u h => ?_, w.nf, fun b u h => ?_⟩
    · by_cases hb : b = c'
      · subst hb; rw [upd_same] at h; cases h; exact hc
      · rw [upd_ne hb] at h; exact w.sub b u h
    · obtain ⟨h1, o, h2, h3⟩ := w.cel b c h
      have hb : b ≠ c' := fun z => by
        rw [z, hc] at h2; cases h2
        exact (repO_kind h3).1 _ rfl
      exact ⟨by rw [upd_ne hb]; exact h1, o, h2, h3.mono sP⟩
    · obtain ⟨ps, h1, _⟩ := w.tab p hp
      have ne : p.1 ≠ c' := fun z => by rw [z, hc] at h1; unfold CodeO at h1; cases h1
      exact ⟨by rw [upd_ne ne]; exact (w.tno p hp).1, (w.tno p hp).2⟩
    · by_cases hb : b = c'
      · subst hb; rw [upd_same] at h; cases h; exact fun ps z => by unfold CodeO at z; cases z
      · rw [upd_ne hb] at h; exact w.nt b u h
    · obtain ⟨h1, h2, h3⟩ := w.frm b u h
      obtain ⟨xs, rfl⟩ := w.nf b u h
      have hb : b ≠ c' := fun z => by rw [z, hc] at h1; unfold CodeO at h1; cases h1
      exact ⟨h1, by rw [upd_ne hb]; exact h2, h3⟩
  have hlow : Same T.low (upd P c' (CodeO c' q)) := w.low.trans sP
  have ask : ∀ (pn : List (Addr × Obj)) (xe : Value → Shared → Prop) (E' : XK) (p1 p2 : Pos), Takes ((hcx X Ng x sg g cdg s H).tr pn xe) (fun cls d σ H => σ.length = Ng.length → E' cls d H) →
      PM ((hcx X Ng x sg g cdg s H).tr pn xe) { tabs := T.tabs, low := upd P c' (CodeO c' q) } E' (.Call (.Name a p1) [] [] p2) (mAsk f th) := fun pn xe E' p1 p2 tk => by
    refine PE.imp (act _ pn xe E' p1 p2 tk (fun cls d σ' H' z _ => z)) fun σZ HZ QZ ⟨P', μ', φ', ρ', Qm', Xm', w', re', gq', gx', hρ, hth⟩ => ?_
    refine ⟨?_, w'.sub _ _ (w'.low _ _ upd_same), ?_⟩
    · split at hρ
      · rename_i b q0
        subst hρ
        obtain ⟨v, h1, h2⟩ := re'.2 0 _ q0
        cases h2
        exact h1
      · exact hρ.elim
    · exact snd P' μ' φ' HZ E' QZ Qm' Xm' (sP.trans w'.low) (w'.conv rfl (hlow.trans w'.low)) (gq'.conv rfl w'.low) (gx'.conv rfl w'.low) hth
  refine ⟨_, der s H f th { tabs := T.tabs, low := upd P c' (CodeO c' q) } rfl ask, _, μ, φ, some (.ref f) :: List.replicate (Ng.length - 1) none, { nx := fun _ μ' => Qm .non μ', rt := Qm, ex := fun _ _ _ => False }, w1, ?_, ?_, hb f⟩
  · have e := start_env (K := X.K) (P := upd P c' (CodeO c' q)) (vs := [.ref f]) (ds := [.ref f]) (.cons (.ref f) .nil) Ng
    exact e
  · have gq1 := (gq.mono sP).conv (T' := { tabs := T.tabs, low := upd P c' (CodeO c' q) }) rfl hlow
    exact ⟨fun ρ' μ' h' P' H' v s' w' _ => gq1 .non μ' h' P' H' .non s' w' .non, gq1, Go.false, Go.false, GoX.false⟩
/-- x(lambda: body) -/
theorem pm_heard {k : Nat} {d : DefZ} {fdH : FuncData} {c Pt : Addr} {params : Arguments} {body : Expr} {scope : Scope} {m : FE} {p lpos pos : Pos} (hg : Gl X d.name) (hm : X.mg d.name = some (.ref (d.at_.ad X.K))) (FH : FnP X.K d fdH) (hdf : d.dfl = []) (hq : d.qual = d.name)
    (hbd : ∀ (kV doc pm : Value) (an : Option Addr) (cdv ct : Value) (us : List Value), us.length = 1 → bindArgs (PySem.W.fnOf d.name d.qual (defArgs d.st) (defBody d.st) (defScope d.st) .none kV doc pm an cdv ct) ⟨us, []⟩ = pure ([a].zip us))
    (Sg : FnScope Ng [a] (defScope d.st)) (hNg : Ng[0]? = some a) (hva : Vis (defScope d.st) a)
    (der : ∀ (cdg : Value) (s : Shared) (H : Hp) (f : Addr) (th : TH) (T' : Tx), T'.tabs = T.tabs → Room (k + 1) ((X.A.deeper (envOfC d.name (defScope d.st) s.heap.objs.size (d.at_.ad X.K) cdg))) →
      (∀ (pn : List (Addr × Obj)) (xe : Value → Shared → Prop) (E' : XK) (p1 p2 : Pos), Takes ((hcx X Ng d.name (defScope d.st) (d.at_.ad X.K) cdg s H).tr pn xe) (fun cls d σ H => σ.length = Ng.length → E' cls d H) → PM ((hcx X Ng d.name (defScope d.st) (d.at_.ad X.K) cdg s H).tr pn xe) T' E' (.Call (.Name a p1) [] [] p2) (mAsk f th)) →
      PSsM (hcx X Ng d.name (defScope d.st) (d.at_.ad X.K) cdg s H) T' E0 (defBody d.st) (mb f th))
    (TB : TabB X.base X.mg c Pt) (hcode : X.env.code = .ref c) (hmT : (Pt, X.env.qual ++ "<lambda>") ∈ T.tabs) (hu : ∀ p ∈ T.tabs, p.1 = Pt → p.2 = X.env.qual ++ "<lambda>") (hr : Room (k + 2) X.A) (L : LamS X.env.scope scope) (hdef : defaultsOf params X.env = ([], []))
    (hbind : ∀ (q : Str) (cl : List (Str × Addr)) (pm cv ctv : Value), bindArgs (PySem.W.kla_fn "<lambda>" q params body scope cl pm cv ctv) ⟨[], []⟩ = pure [])
    (hbody : ∀ (A : Around) (outer : List Env) (s : Shared) (H : Hp) (E : XK) (f c' : Addr), Room k (A.deeper (lamEnv X scope s.heap.objs.size f c')) → PM (lamCx X A outer s H E scope f c') T E body m)
    (hdb : (d.name == ("__debug__" : Str)) = false := by decide) (hd : (a == ("__debug__" : Str)) = false := by decide) (hcd : (a == ("__classdict__" : Str)) = false := by decide) :
    PM X T E (.Call (.Name d.name p) [.Lambda params body scope lpos] [] pos) (mHeard Ng.length mb m) := by
  have hz : d.dvs X.K = [] := by unfold DefZ.dvs; rw [hdf]; rfl
  have F' : FunD X.K d.name d.qual (defArgs d.st) (defBody d.st) (defScope d.st) [] [] (d.at_.ad X.K) fdH := by rw [← hz]; exact FH
  have bH : L2.Binds X.K fdH [a] [] := F'.bindsN (ps := [a]) hbd
  obtain ⟨⟨oc, od, dV, kV, doc, pm, an, cdv, ct, osl, rfl, lk, hcg, hD, _⟩, kp⟩ := F'
  rw [hq] at lk hcg bH
  have hNl : 0 < Ng.length := by
    cases Ng with
    | nil => cases hNg
    | cons _ _ => exact Nat.succ_pos _
  refine PE.imp (pe_lamcall (TT := TTm X.K T Ng.length mb) (t := fun E => lE X.K T E m) (k := k) hg hm kp lk hcg bH Sg hNg hva (gives_of hNl fun s H f th T' hT ask => der cdv s H f th T' hT (hr.deeper _) ask) TB hcode hmT hu hr L hdef hbind hbody hdb hd hcd) fun σ H Q ⟨P, μ, φ, ρ, Qm, Xm, w, re, gq, gx, h⟩ => ?_
  refine ⟨w.tab, fun H1 e t => ⟨P, μ, φ, _, Qm, w.extN e t, gq, h, fun P' μ' φ' H' E' Q' Qm' Xm' s' w' gq' gx' hth => ?_⟩⟩
  exact ⟨P', μ', φ', ρ, Qm', Xm', w', re.mono s', gq', gx', hth⟩
end
end Mz

namespace Mz
open PySem PySem.Spec PyProof.Rows L2 AzX ClX LamX Hz He Az
/-! ### defs called where no repr is under way -/
abbrev DnGM (P : Program) (w : World) (K : PySem.W.Frag) (mg : Str → Option Value) (base : Heap) (T : Tx) (k : Nat) (f : Addr) (ps : List Str) (dvs : List V) (m : FM) : Prop := DnG P w K mg base (L2.CX P w) k f ps dvs (spF K T m)
section
variable {P : Program} {w : World} {K : PySem.W.Frag} {mg : Str → Option Value} {base : Heap} {T : Tx} {k : Nat} {f : Addr} {ps N : List Str} {dvs : List V} {m m' : FM}
theorem DnGM.imp (D : DnGM P w K mg base T k f ps dvs m) (h : ∀ ds μ Q X, m' ds μ Q X → m ds μ Q X) : DnGM P w K mg base T k f ps dvs m' := by
  obtain ⟨kp, fd, G, b⟩ := D
  refine ⟨kp, fd, ⟨fun vs H Q E ⟨P, μ, φ, ds, Qm, Xm, w, r, gq, gx, h1⟩ => G.len vs H Q E ⟨P, μ, φ, ds, Qm, Xm, w, r, gq, gx, h _ _ _ _ h1⟩, fun A outer s H args us vs Q E hr hg e0 hb r hsp => ?_⟩, b⟩
  obtain ⟨P, μ, φ, ds, Qm, Xm, w, r1, gq, gx, h1⟩ := hsp
  exact G.run A outer s H args us vs Q E hr hg e0 hb r ⟨P, μ, φ, ds, Qm, Xm, w, r1, gq, gx, h _ _ _ _ h1⟩
theorem fnGM {d : DefZ} {fd : FuncData} {b : FS} (F : FnP K d fd) (S : FnScope N ps (defScope d.st)) (hd : d.dfl = [])
    (der : ∀ (cdv : Value) (A : Around) (outer : List Env) (s : Shared) (H : Hp) (E : XK), Room k (A.deeper (envOfC d.qual (defScope d.st) s.heap.objs.size (d.at_.ad K) cdv)) → A.guards = some [] →
      PSsM (cxOf (L2.CX P w) P w K mg base N d.qual (defScope d.st) (d.at_.ad K) cdv A outer s H E) T E (defBody d.st) b) :
    FnG P w K mg base (L2.CX P w) (k + 1) (d.at_.ad K) fd ps (spF K T (bodyM ps.length N.length b)) := by
  obtain ⟨oc, od, kV, doc, pm, an, cdv, ct, osl, rfl, lk, hcd⟩ := (fun_of F hd).ex
  refine fn_ofG lk hcd S (fun vs H Q E ⟨P, μ, φ, ds, Qm, Xm, w, r, gq, gx, h⟩ => by rw [r.length]; exact h.1) fun A outer s H vs Q E hr hg h => ?_
  obtain ⟨Pm, μ, φ, ds, Qm, Xm, wd, r, gq, gx, hl, h⟩ := h
  refine ⟨_, der cdv A outer s H E hr hg, Pm, μ, φ, _, { nx := fun _ μ' => Qm .non μ', rt := Qm, ex := Xm }, wd, start_env r N, ⟨?_, gq, Go.false, Go.false, gx⟩, h⟩
  exact fun ρ' μ' h' P' H' v s' w' _ => gq .non μ' h' P' H' .non s' w' .non
theorem fnGM0 {d : DefZ} {fd : FuncData} {b : FS} (F : FnP K d fd) (S : FnScope N ps (defScope d.st)) (hd : d.dfl = []) (hb : ∀ (kV doc pm : Value) (an : Option Addr) (cdv ct : Value) (us : List Value), us.length = ps.length → bindArgs (PySem.W.fnOf d.name d.qual (defArgs d.st) (defBody d.st) (defScope d.st) .none kV doc pm an cdv ct) ⟨us, []⟩ = pure (ps.zip us))
    (der : ∀ (cdv : Value) (A : Around) (outer : List Env) (s : Shared) (H : Hp) (E : XK), Room k (A.deeper (envOfC d.qual (defScope d.st) s.heap.objs.size (d.at_.ad K) cdv)) → A.guards = some [] →
      PSsM (cxOf (L2.CX P w) P w K mg base N d.qual (defScope d.st) (d.at_.ad K) cdv A outer s H E) T E (defBody d.st) b) :
    DnGM P w K mg base T (k + 1) (d.at_.ad K) ps [] (bodyM ps.length N.length b) := dn_mkG F hd hb (fnGM F S hd der)
/-- a def that makes lambdas: its code object is told -/
theorem fnGMC {x : Str} {d : DefZ} {fd : FuncData} {b : FS} (hat : d.at_ = .g x) (F : FnP K d fd) (S : FnScope N ps (defScope d.st)) (hd : d.dfl = []) (hb : ∀ (kV doc pm : Value) (an : Option Addr) (cdv ct : Value) (us : List Value), us.length = ps.length → bindArgs (PySem.W.fnOf d.name d.qual (defArgs d.st) (defBody d.st) (defScope d.st) .none kV doc pm an cdv ct) ⟨us, []⟩ = pure (ps.zip us))
    (der : ∀ (A : Around) (outer : List Env) (s : Shared) (H : Hp) (E : XK), Room k (A.deeper (envOfC d.qual (defScope d.st) s.heap.objs.size (d.at_.ad K) (.ref (cT K (x, none)).1))) → A.guards = some [] →
      PSsM (cxOf (L2.CX P w) P w K mg base N d.qual (defScope d.st) (d.at_.ad K) (.ref (cT K (x, none)).1) A outer s H E) T E (defBody d.st) b) :
    DnGM P w K mg base T (k + 1) (d.at_.ad K) ps [] (bodyM ps.length N.length b) := by
  refine dn_mkG F hd hb ?_
  obtain ⟨oc, od, kV, doc, pm, an, cdv, ct, osl, rfl, lk, hcd⟩ := (fun_of F hd).ex
  obtain ⟨c, rfl⟩ := codeIn_ref hcd
  have e : (cT K (x, none)).1 = c := by
    refine codeOf_eq (p := (x, none)) (K := K) (by
      show K.lookup (ga K x) = _
      have z : d.at_.ad K = ga K x := by rw [hat]; rfl
      rw [← z]
      exact lk) rfl
  rw [e] at der
  refine fn_ofG lk hcd S (fun vs H Q E ⟨P, μ, φ, ds, Qm, Xm, w, r, gq, gx, h⟩ => by rw [r.length]; exact h.1) fun A outer s H vs Q E hr hg h => ?_
  obtain ⟨Pm, μ, φ, ds, Qm, Xm, wd, r, gq, gx, hl, h⟩ := h
  refine ⟨_, der A outer s H E hr hg, Pm, μ, φ, _, { nx := fun _ μ' => Qm .non μ', rt := Qm, ex := Xm }, wd, start_env r N, ⟨?_, gq, Go.false, Go.false, gx⟩, h⟩
  exact fun ρ' μ' h' P' H' v s' w' _ => gq .non μ' h' P' H' .non s' w' .non
end
section
variable {X : Cx} {T : Tx} {E : XK} {k : Nat} {f : Addr} {ps : List Str} {x : Str} {p pos : Pos} {e : Expr} {es : List Expr} {ma : FA} {fM : FM}
theorem pm_callG (D : DnGM X.prog X.w X.K X.mg X.base T k f ps [] fM) (hr : Room k X.A) (hgd : X.A.guards = some []) (hg : Gl X x) (hm : X.mg x = some (.ref f)) (hx : Passes (L2.CX X.prog X.w) X E)
    (ha : PAM X T E (e :: es) ma) (hdb : (x == ("__debug__" : Str)) = false := by decide) (he : starEach (e :: es) X.env = (false, eval e X.env) :: starEach es X.env := by rfl) (hpl : (backTo pos (starEach es X.env)).any (·.1) = false := by rfl) :
    PM X T E (.Call (.Name x p) (e :: es) [] pos) (mCall fM [] ma) := PE.imp (pe_callGD D hr hgd hg hm hx ha hdb he hpl) fun σ H Q h => by
  have := call_of (K := X.K) (dv := []) (fM := fM) (dd := []) (fun _ => .nil) h
  exact this
theorem pmv (i : Nat) {x : Str} {pos : Pos} (hN : X.N[i]? = some x := by rfl) (hv : Vis X.env.scope x := by first | exact Or.inl rfl | exact Or.inr (Or.inl rfl) | exact Or.inr (Or.inr rfl)) (hd : (x == ("__debug__" : Str)) = false := by decide)
    (hcd : (x == ("__classdict__" : Str)) = false := by decide) : PM X T E (.Name x pos) (mVar i) := pm_var hN hv hd hcd
end
/-- a list that is changed no more: a name's value, from here on -/
def sFrz (i : Nat) (m : FS) : FS := fun e ρ μ => match ρ[i]? with
  | some (some (D.ref a)) => (match μ a with
    | some (.lst ds) => m e (ρ.set i (some (.lst ds))) (del μ a)
    | _ => False)
  | _ => False
theorem pssm_frz {X : Cx} {T : Tx} {E : XK} {sts : List Stmt} {m : FS} {i : Nat} (h : PSsM X T E sts m) : PSsM X T E sts (sFrz i m) := by
  refine PSs.imp h fun D σ H ⟨P, μ, φ, ρ, e, w, re, ge, hm⟩ => ?_
  unfold sFrz at hm
  split at hm
  · rename_i a q
    split at hm
    · rename_i ds qa
      obtain ⟨_, o, ho, ro⟩ := w.cel a _ qa
      cases o with
      | lst vs =>
        obtain ⟨w2, s2⟩ := w.frz qa ho
        have rr : Rep X.K (upd P a (.lst vs)) (.ref a) (.lst ds) := .lst upd_same ((show Reps X.K P vs ds from ro).mono s2)
        obtain ⟨v, h1, h2⟩ := re.2 i _ q
        cases h2
        have re2 := (re.mono s2).set i rr
        have e1 : σ.set i (some (.ref a)) = σ := by
          obtain ⟨hl, e0⟩ := List.getElem?_eq_some_iff.mp h1
          rw [← e0]
          exact List.set_getElem_self hl
        rw [e1] at re2
        exact ⟨_, _, φ, _, e, w2, re2, ge.mono s2, hm⟩
      | _ => exact (show False from ro).elim
    · exact hm.elim
  · exact hm.elim
/-! ### facts of the top, as Bools -/
section
variable {K : PySem.W.Frag}
def clsTB (K : PySem.W.Frag) (x : Str) : Bool := (Fa.cls x).ok K && (decide (PySem.W.findIn K (.ref (ga K x)) "__class__" = some (some (.builtin "object.__class__"))) &&
  (decide (PySem.W.specialIn K (.builtin "object.__class__") "__get__" = some (some (.builtin "getset_descriptor.__get__"))) && (decide (PySem.W.takesIn K (.builtin "object.__class__") = some true) && decide (PySem.W.mroIn K (ga K x) (.type "object") = some true))))
theorem clsTB_ok {c : String} (h : clsTB K (c : Str) = true) : ClsT K c := by
  obtain ⟨h1, h⟩ := ba h
  obtain ⟨h2, h⟩ := ba h
  obtain ⟨h3, h⟩ := ba h
  obtain ⟨h4, h5⟩ := ba h
  exact ⟨cls_ok h1, of_decide_eq_true h2, of_decide_eq_true h3, of_decide_eq_true h4, of_decide_eq_true h5⟩
def kitB1 (K : PySem.W.Frag) (t u : Value) (b : Bool) : Bool := decide (PySem.W.kitOne K t u = some b)
theorem kitB1_ok {t u : Value} {b : Bool} (h : kitB1 K t u b = true) : PySem.W.kitOne K t u = some b := of_decide_eq_true h
def someO : Option (Option Value) → Bool
  | some _ => true
  | none => false
def optB (K : PySem.W.Frag) (C : Addr) (nm T : String) : Bool := someO (PySem.W.findIn K (.type T) (PySem.dunder nm)) && (someO (PySem.W.findIn K (.type T) (dunderR nm)) && decide (PySem.W.subIn K (.type T) (.ref C) = some false))
theorem someO_ok {o : Option (Option Value)} (h : someO o = true) : ∃ v, o = some v := by
  cases o with
  | none => cases h
  | some v => exact ⟨v, rfl⟩
theorem optB_ok {C : Addr} {nm T : String} (h : optB K C nm T = true) : OpT K C nm T := by
  obtain ⟨h1, h⟩ := ba h
  obtain ⟨h2, h3⟩ := ba h
  obtain ⟨fo, e1⟩ := someO_ok h1
  obtain ⟨ro, e2⟩ := someO_ok h2
  exact ⟨fo, ro, e1, e2, of_decide_eq_true h3⟩
def optsB (K : PySem.W.Frag) (x : Str) (nm : String) : Bool := btys.all fun t => optB K (ga K x) nm t
theorem optsB_ok {c nm : String} (h : optsB K (c : Str) nm = true) : OpTs K c nm := ⟨fun t ht => optB_ok (List.all_eq_true.mp h t ht)⟩
def refB : Option (Option Value) → Bool
  | some (some (.ref _)) => true
  | _ => false
def opcB (K : PySem.W.Frag) (x : Str) (nm : String) : Bool := PySem.W.selfFirst K (ga K x) && ((decide (PySem.W.findIn K (.ref (ga K x)) (PySem.dunder nm) = some (some (.ref (ma K (ga K x) (PySem.dunder nm))))) && PySem.W.isFn K (.ref (ma K (ga K x) (PySem.dunder nm)))) &&
  ((decide (PySem.W.findIn K (.ref (ga K x)) (dunderR nm) = some (some (.ref (ma K (ga K x) (dunderR nm))))) && PySem.W.isFn K (.ref (ma K (ga K x) (dunderR nm)))) && decide (PySem.W.subIn K (.ref (ga K x)) (.type "int") = some false)))
theorem opcB_ok {c nm : String} (h : opcB K (c : Str) nm = true) : OpC K (ca K c) nm (ma K (ca K c) (PySem.dunder nm)) (ma K (ca K c) (dunderR nm)) := by
  obtain ⟨h1, h⟩ := ba h
  obtain ⟨h2, h⟩ := ba h
  obtain ⟨h3, h4⟩ := ba h
  obtain ⟨a1, a2⟩ := ba h2
  obtain ⟨b1, b2⟩ := ba h3
  exact ⟨h1, of_decide_eq_true a1, a2, of_decide_eq_true b1, b2, of_decide_eq_true h4⟩
def nofB (K : PySem.W.Frag) (x : Str) (others : List String) : Bool := (btys.all fun t => decide (PySem.W.subIn K (.type t) (.ref (ga K x)) = some false)) && others.all fun c => decide (PySem.W.subIn K (.ref (ga K (c : Str))) (.ref (ga K x)) = some false)
theorem nofB_ok {c : String} {others : List String} (h : nofB K (c : Str) others = true) : NoF K c others := by
  obtain ⟨h1, h2⟩ := ba h
  exact ⟨fun t ht => of_decide_eq_true (List.all_eq_true.mp h1 t ht), fun c' hc => of_decide_eq_true (List.all_eq_true.mp h2 c' hc)⟩
def subB (K : PySem.W.Frag) (x : Str) (t : String) : Bool := decide (PySem.W.subIn K (.ref (ga K x)) (.type t) = some false)
theorem subB_ok {x : Str} {t : String} (h : subB K x t = true) : PySem.W.subIn K (.ref (ga K x)) (.type t) = some false := of_decide_eq_true h
/-- a caught error of the class x: its fields, isinstance -/
def xcB (K : PySem.W.Frag) (x : Str) : Bool := catB K x x
theorem xcB_ok {c : String} (h : xcB K (c : Str) = true) : XfC K (ca K c) ∧ ExcC K (ca K c) := by
  obtain ⟨a, _, _⟩ := catB_ok h
  exact ⟨a.xf, a.exc⟩
def exmB (K : PySem.W.Frag) (x S : Str) (b : Bool) : Bool := decide (PySem.W.exmOne K (.ref (ga K x)) (.ref (ga K S)) = some b)
theorem exmB_ok {x S : Str} {b : Bool} (h : exmB K x S b = true) : PySem.W.exmOne K (.ref (ga K x)) (.ref (ga K S)) = some b := of_decide_eq_true h
def prB (K : PySem.W.Frag) (x m : Str) : Bool := decide (PySem.W.findIn K (.ref (ga K x)) m = some (some (.ref (ma K (ga K x) m))))
end
/-! the types that isinstance asks of built-in values -/
theorem kitAny_two {K : PySem.W.Frag} {t u v : Value} {a b : Bool} (h1 : PySem.W.kitOne K t u = some a) (h2 : PySem.W.kitOne K t v = some b) : PySem.W.kitAny K t [u, v] = some (a || b) := by
  cases a <;> cases b <;> simp [PySem.W.kitAny, h1, h2]
end Mz

namespace AzX
open PySem PySem.W PySem.Calls PyProof.Rows
section
variable {prog : Program} {w : World} {A : Around} {E : Value → Shared → Prop} {s : Shared} {K : Frag} {x C f : Addr} {ox : Obj} {od : Option Obj} {nm T : String} {b : Value} {Q : Value → Shared → Prop}
/-- b + a, b a whole number, a of the class -/
theorem bin1_reflG {i : Int} {t : Tok} {fm : Addr} (X : K.In s.heap) (I : InstAt s.heap x ox C od) (two : ∀ {R : Option Value → Shared → Prop}, R none s → wpAny (model prog w) A (tryMethod (.int i t) (PySem.dunder nm) (.ref x)) R E s) (hc : selfFirst K C = true)
    (hfi : fillsNumberSlot (.type "int") nm = pure true)
    (hm : findIn K (.ref C) (PySem.dunder nm) = some (some (.ref fm))) (hs : findIn K (.ref C) (dunderR nm) = some (some (.ref f))) (hf : isFn K (.ref f) = true) (hsub : subIn K (.ref C) (.type "int") = some false)
    (h : wpAny (model prog w) A (call (.ref f) [.ref x, .int i t]) (Back Q) E s) : wpAny (model prog w) A (binaryOp1 nm (.int i t) (.ref x)) (fun r s' => ∃ v, r = some v ∧ Q v s') E s := by
  obtain ⟨cd, rest, hcd, hmr⟩ := ksp_first hc
  have one := try_own X I hs hf h
  obtain ⟨hh, g', d, tt, os⟩ := s
  have L1 : Looks (model prog w) hh (typeOf (.ref x)) (.ref C) := I.type
  have L2 : Looks (model prog w) hh (typeOf (.int i t)) (.type "int") := Looks.of_pure rfl
  have L3 : Looks (model prog w) hh (fillsNumberSlot (.ref C) nm) true := fills_K X hcd hmr hm
  have L4 : Looks (model prog w) hh (fillsNumberSlot (.type "int") nm) true := Looks.of_pure hfi
  have L5 : Looks (model prog w) hh (isSubtype (.ref C) (.type "int")) false := looks_subIn X hsub
  have L7 : Looks (model prog w) hh (numberSlotInPython (.type "int") nm) false := Looks.of_pure rfl
  have hne : (Value.type "int" == Value.ref C) = false := Bool.eq_false_iff.mpr fun q => by cases beq_iff_eq.mp q
  unfold binaryOp1
  refine wpAny_bind (L2.at (wpAny_bind (L1.at (wpAny_bind (L4.at ?_)))))
  simp only [hne, Bool.false_eq_true, if_false]
  ksp_lk
  refine two ?_
  ksp_lk
  refine wpAny_mono one (fun r s' hr' => ?_) fun _ _ e => e
  obtain ⟨v, rfl, hq⟩ := hr'
  ksp_lk
  exact ⟨v, rfl, hq⟩
theorem fdiv_declines {name : String} {f : Int → Int → Sem Fin} {i : Int} {t : Tok} {o : Obj} {R : Fin → Shared → Prop} (hx : s.heap.get? x = some o) (hd : ∀ p, o.data ≠ .prim p) (h : R (.done (.ret .notImplemented)) s) :
    wpAny (model prog w) A (Builtin.exactOperandsForPylong false ⟨[.int i t, .ref x], []⟩ >>= fun _ => Builtin.Int.intBinary name f false ⟨[.int i t, .ref x], []⟩) R E s := by
  have fin : wpAny (model prog w) A (Builtin.Int.intBinary name f false ⟨[.int i t, .ref x], []⟩) R E s := int_declines hx hd h
  generalize Builtin.Int.intBinary name f false ⟨[.int i t, .ref x], []⟩ = last at fin ⊢
  unfold Builtin.exactOperandsForPylong
  refine wpAny_bind ?_
  show wpAny _ _ (if ([Value.int i t, Value.ref x].any Value.onHeap) = true then _ else _) _ _ _
  rw [if_pos (by rfl)]
  show wpAny _ _ (asInt? (.int i t) >>= fun p => asInt? (.ref x) >>= fun q => _) _ _ _
  refine wpAny_bind (wpAny_of_eq (a := some i) rfl ?_)
  refine wpAny_bind ?_
  unfold asInt?
  refine wpAny_bind (wpAny_load hx ?_)
  obtain ⟨oc, od, dt, sl⟩ := o
  cases dt <;> first | exact (hd _ rfl).elim | (exact wpAny_pure (wpAny_pure fin))
theorem fdiv_try {i : Int} {t : Tok} {o : Obj} {R : Option Value → Shared → Prop} (hx : s.heap.get? x = some o) (hd : ∀ p, o.data ≠ .prim p) (h : R none s) : wpAny (model prog w) A (tryMethod (.int i t) (PySem.dunder "floordiv") (.ref x)) R E s := by
  have sl : Slot "int" (PySem.dunder "floordiv") "int.__floordiv__" := PySem.F.slot_int_floordiv
  generalize PySem.dunder "floordiv" = nm at sl ⊢
  refine wpAny_tryMethod_declines (typeIs_int s i t) sl ?_
  refine wpAny_call_entry sl (typeIs_int s i t) PySem.F.entry_int_floordiv ?_ (PySem.F.args_int_floordiv_2 _ _)
  unfold Builtin.«int.__floordiv__»
  exact fdiv_declines hx hd ⟨_, rfl, rfl, h⟩
end
end AzX
namespace Mz
open PySem PySem.Spec PyProof.Rows L2 AzX ClX LamX Hz He Az
section
variable {X : Cx} {T : Tx} {E : XK} {c : String} {f g : Addr} {k : Nat} {ps : List Str} {fM : FM}
theorem fdiv_ownR (oc : OpC X.K (ca X.K c) "floordiv" g f) (D : DnM X.prog X.w X.K X.mg X.base T k f ps [] fM) (hr : Room k X.A) (hx : Passes (L2.CX X.prog X.w) X E) : OpM X T E (binaryOp .FloorDiv) (mOwnR c fM) := by
  obtain ⟨fd, F, b⟩ := D.b0
  refine OpM.of fun pins s σ H x y v u Q P μ φ d1 d2 Qm Xm I rx ry w r1 r2 gq gx h => ?_
  unfold mOwnR at h
  split at h
  · rename_i i c' fs
    obtain ⟨rfl, h⟩ := h
    cases r1
    obtain ⟨a, dx, vs, rfl, ha⟩ := rep_ins w r2
    obtain ⟨t, rfl⟩ := rx
    cases (show u = Value.ref a from ry)
    obtain ⟨od, J⟩ := inst_of I ha
    have one := run_back (us := [.ref a, .int i t]) (vs := [.ref a, .int i]) F hr b hx I (.cons rfl (.cons ⟨t, rfl⟩ .nil)) (show spF X.K T fM [.ref a, .int i] H Q E from ⟨P, μ, φ, _, Qm, Xm, w, .cons r2 (.cons (.int i) .nil), gq, gx, h⟩)
    exact bin_of1 (op := .FloorDiv) (bin1_reflG I.kIn J (fun {R} hR => fdiv_try J.at_ (fun p z => nomatch z) hR) oc.first (by kernel_rfl) oc.m oc.r oc.rfn oc.noInt one)
  · exact h.elim
end
end Mz

namespace Mz
open PySem PySem.Spec PyProof.Rows L2 AzX ClX LamX Hz He Az
section
variable {X : Cx} {T : Tx} {E : XK} {pos : Pos}
def mDict0 : FE := fun _ μ Q _ => Q (.dict []) μ
/-- not x, as a value, by an own truth -/
def mNotT (m : D → MS → (Bool → MS → Prop) → MX → Prop) (ma : FE) : FE := fun ρ μ Q Xm => ma ρ μ (fun d μ1 => m d μ1 (fun k μ2 => Q (.bl (!k)) μ2) Xm) Xm
end
section
variable {X : Cx} {T : Tx} {E : XK} {pos : Pos}
theorem pm_dict0 : PM X T E (.Dict [] [] pos) mDict0 := by
  refine PE.imp pe_dnewK fun σ H Q ⟨P, μ, φ, ρ, Qm, Xm, w, re, gq, gx, h⟩ => ?_
  intro p hp
  obtain ⟨w2, s2⟩ := w.grow (o := .dK []) hp
  exact gq _ _ h _ _ _ s2 w2 (.dict (vs := []) (ds := []) upd_same rfl .nil)
end
/-! == of plain data -/
theorem mEqD_ii {i j : Int} {μ : MS} {Q : D → MS → Prop} {Xm : MX} : mEqD (.int i) (.int j) μ Q Xm = Q (.bl (decide (i = j))) μ := by
  show (_ ∧ _ ∧ Q (.bl (i == j)) μ) = _
  rw [show (i == j) = decide (i = j) from rfl]
  exact propext ⟨fun h => h.2.2, fun h => ⟨rfl, rfl, h⟩⟩
theorem mNeD_ii {i j : Int} {μ : MS} {Q : D → MS → Prop} {Xm : MX} : mNeD (.int i) (.int j) μ Q Xm = Q (.bl (!decide (i = j))) μ := by
  show (_ ∧ _ ∧ Q (.bl (!(i == j))) μ) = _
  rw [show (i == j) = decide (i = j) from rfl]
  exact propext ⟨fun h => h.2.2, fun h => ⟨rfl, rfl, h⟩⟩
/-- plain data, that == looks at -/
def plD (d : D) : Bool := match dPy d with
  | some p => SeqAt.shaped p
  | none => false
def eqD (d1 d2 : D) : Bool := match dPy d1, dPy d2 with
  | some p, some q => PyData.eqv p q
  | _, _ => false
theorem mEqD_pl {d1 d2 : D} {μ : MS} {Q : D → MS → Prop} {Xm : MX} (h1 : plD d1 = true) (h2 : plD d2 = true) (h : Q (.bl (eqD d1 d2)) μ) : mEqD d1 d2 μ Q Xm := by
  unfold plD at h1 h2
  unfold eqD at h
  have a1 : ∀ d p, dPy d = some p → dPm d μ = some p := fun d p e => by
    cases d <;> first | exact e | (simp [dPy] at e)
  unfold mEqD
  split at h1
  · rename_i p e1
    split at h2
    · rename_i q e2
      rw [a1 _ _ e1, a1 _ _ e2]
      rw [e1, e2] at h
      exact ⟨h1, h2, h⟩
    · cases h2
  · cases h1
theorem mNeD_pl {d1 d2 : D} {μ : MS} {Q : D → MS → Prop} {Xm : MX} (h1 : plD d1 = true) (h2 : plD d2 = true) (h : Q (.bl (!eqD d1 d2)) μ) : mNeD d1 d2 μ Q Xm := by
  unfold plD at h1 h2
  unfold eqD at h
  have a1 : ∀ d p, dPy d = some p → dPm d μ = some p := fun d p e => by
    cases d <;> first | exact e | (simp [dPy] at e)
  unfold mNeD
  split at h1
  · rename_i p e1
    split at h2
    · rename_i q e2
      rw [a1 _ _ e1, a1 _ _ e2]
      rw [e1, e2] at h
      exact ⟨h1, h2, h⟩
    · cases h2
  · cases h1
theorem pl_int {i : Int} : plD (.int i) = true := rfl
/-! plain words about trees -/
def isIntD : D → Bool
  | .int _ => true
  | _ => false
/-- anything that may be looked at: of own classes those of the list alone -/
def anyD (cs : List String) : D → Prop
  | .ref _ => False
  | .exc _ _ => False
  | .ty _ => False
  | .ins c _ => c ∈ cs
  | _ => True
/-- the tree of a ratio -/
abbrev ratD (p q : Int) : D := .ins "Ratio" [("over", .int p), ("under", .int q)]
def isNumD : D → Bool
  | .int _ => true
  | .ins c _ => c == "Ratio"
  | _ => false
theorem anyD_non {cs : List String} : anyD cs (.non) = True := rfl
theorem isIntD_non : isIntD (.non) = false := rfl
theorem isNumD_non : isNumD (.non) = false := rfl
theorem anyD_bl {cs : List String} {b : Bool} : anyD cs (.bl b) = True := rfl
theorem isIntD_bl {b : Bool} : isIntD (.bl b) = false := rfl
theorem isNumD_bl {b : Bool} : isNumD (.bl b) = false := rfl
theorem anyD_int {cs : List String} {i : Int} : anyD cs (.int i) = True := rfl
theorem isIntD_int {i : Int} : isIntD (.int i) = true := rfl
theorem isNumD_int {i : Int} : isNumD (.int i) = true := rfl
theorem anyD_str {cs : List String} {x : Str} : anyD cs (.str x) = True := rfl
theorem isIntD_str {x : Str} : isIntD (.str x) = false := rfl
theorem isNumD_str {x : Str} : isNumD (.str x) = false := rfl
theorem anyD_tup {cs : List String} {ds : List D} : anyD cs (.tup ds) = True := rfl
theorem isIntD_tup {ds : List D} : isIntD (.tup ds) = false := rfl
theorem isNumD_tup {ds : List D} : isNumD (.tup ds) = false := rfl
theorem anyD_lst {cs : List String} {ds : List D} : anyD cs (.lst ds) = True := rfl
theorem isIntD_lst {ds : List D} : isIntD (.lst ds) = false := rfl
theorem isNumD_lst {ds : List D} : isNumD (.lst ds) = false := rfl
theorem anyD_wls {cs : List String} {ds : List D} : anyD cs (.wls ds) = True := rfl
theorem isIntD_wls {ds : List D} : isIntD (.wls ds) = false := rfl
theorem isNumD_wls {ds : List D} : isNumD (.wls ds) = false := rfl
theorem anyD_dict {cs : List String} {ps : List (Key × D)} : anyD cs (.dict ps) = True := rfl
theorem isIntD_dict {ps : List (Key × D)} : isIntD (.dict ps) = false := rfl
theorem isNumD_dict {ps : List (Key × D)} : isNumD (.dict ps) = false := rfl
theorem anyD_ins {cs : List String} {c : String} {fs : List (Str × D)} : anyD cs (.ins c fs) = (c ∈ cs) := rfl
theorem isIntD_ins {c : String} {fs : List (Str × D)} : isIntD (.ins c fs) = false := rfl
theorem isNumD_ins {c : String} {fs : List (Str × D)} : isNumD (.ins c fs) = (c == "Ratio") := rfl
theorem yOk_non {c : String} : yOk c (.non) = True := rfl
theorem cOk_non {c : String} {os : List String} : cOk c os (.non) = True := rfl
theorem yOk_bl {c : String} {b : Bool} : yOk c (.bl b) = True := rfl
theorem cOk_bl {c : String} {os : List String} {b : Bool} : cOk c os (.bl b) = True := rfl
theorem yOk_int {c : String} {i : Int} : yOk c (.int i) = True := rfl
theorem cOk_int {c : String} {os : List String} {i : Int} : cOk c os (.int i) = True := rfl
theorem yOk_str {c : String} {x : Str} : yOk c (.str x) = True := rfl
theorem cOk_str {c : String} {os : List String} {x : Str} : cOk c os (.str x) = True := rfl
theorem yOk_tup {c : String} {ds : List D} : yOk c (.tup ds) = True := rfl
theorem cOk_tup {c : String} {os : List String} {ds : List D} : cOk c os (.tup ds) = True := rfl
theorem yOk_lst {c : String} {ds : List D} : yOk c (.lst ds) = True := rfl
theorem cOk_lst {c : String} {os : List String} {ds : List D} : cOk c os (.lst ds) = True := rfl
theorem yOk_wls {c : String} {ds : List D} : yOk c (.wls ds) = True := rfl
theorem cOk_wls {c : String} {os : List String} {ds : List D} : cOk c os (.wls ds) = True := rfl
theorem yOk_dict {c : String} {ps : List (Key × D)} : yOk c (.dict ps) = True := rfl
theorem cOk_dict {c : String} {os : List String} {ps : List (Key × D)} : cOk c os (.dict ps) = True := rfl
theorem yOk_ins {c c' : String} {fs : List (Str × D)} : yOk c (.ins c' fs) = (c' = c) := rfl
theorem cOk_ins {c c' : String} {os : List String} {fs : List (Str × D)} : cOk c os (.ins c' fs) = (c' = c ∨ c' ∈ os) := rfl
theorem cOk_of {c : String} {os cs : List String} {d : D} (h : anyD cs d) (hs : ∀ c', c' ∈ cs → c' = c ∨ c' ∈ os) : cOk c os d := by
  cases d with
  | ins c' fs => exact hs c' h
  | ref a => exact h.elim
  | ty n => exact h.elim
  | exc c fs => exact h.elim
  | _ => trivial
theorem lk_over {p q : D} : lkF "over" [("over", p), ("under", q)] = some p := rfl
theorem lk_under {p q : D} : lkF "under" [("over", p), ("under", q)] = some q := rfl
theorem pt_over {p : D} : ptF "over" p [] = [(("over" : Str), p)] := rfl
theorem pt_under {p q : D} : ptF "under" q [(("over" : Str), p)] = [(("over" : Str), p), (("under" : Str), q)] := rfl
end Mz

/-! Ratios as rational numbers. -/
namespace Mz
open PySem PySem.Spec PyProof.Rows L2 AzX ClX LamX Hz He Az
theorem rat_den_ne (x : Rat) : (x.den : Rat) ≠ 0 := by
  have := x.den_nz
  intro h
  exact this (by exact_mod_cast h)
theorem rat_mul_den (x : Rat) : x * ((x.den : Int) : Rat) = (x.num : Rat) := by
  have h := Rat.mkRat_self x
  rw [Rat.mkRat_eq_div] at h
  have d := rat_den_ne x
  have e : ((x.den : Int) : Rat) = (x.den : Rat) := rfl
  rw [e]
  have h2 : (x.num : Rat) / (x.den : Rat) * (x.den : Rat) = x.num := by
    rw [Rat.div_mul_cancel d]
  rw [h] at h2
  exact h2
theorem rat_gcd (x : Rat) : Int.gcd x.num x.den = 1 := x.reduced
theorem rat_den_pos (x : Rat) : (0 : Int) < x.den := by have := x.den_pos; omega
/-- o / u in lowest terms -/
theorem r_rat {o u : Int} (hu : u ≠ 0) : rO o u = ((o : Rat) / (u : Rat)).num ∧ rU o u = (((o : Rat) / (u : Rat)).den : Int) := by
  have hu' : (u : Rat) ≠ 0 := fun h => hu (Rat.intCast_inj.mp (by rw [h]; rfl))
  obtain ⟨x, hx⟩ : ∃ x : Rat, x = (o : Rat) / (u : Rat) := ⟨_, rfl⟩
  rw [← hx]
  have e1 : x * (u : Rat) = o := by rw [hx, Rat.div_mul_cancel hu']
  have e2 := rat_mul_den x
  have e3 : (x.num : Rat) * (u : Rat) = (o : Rat) * ((x.den : Int) : Rat) := by rw [← e2, ← e1]; grind
  have e4 : x.num * u = o * x.den := Rat.intCast_inj.mp (by rw [Rat.intCast_mul, Rat.intCast_mul]; exact e3)
  have c1 := r_cross (o := o) (u := u) hu
  have e5 : rO o u * (x.den : Int) = x.num * rU o u := by
    have z : (rO o u * (x.den : Int)) * u = (x.num * rU o u) * u := by
      calc (rO o u * (x.den : Int)) * u = (rO o u * u) * x.den := by rw [Int.mul_assoc, Int.mul_comm (x.den : Int) u, ← Int.mul_assoc]
        _ = (o * rU o u) * x.den := by rw [c1]
        _ = (o * x.den) * rU o u := by rw [Int.mul_assoc, Int.mul_comm (rU o u), ← Int.mul_assoc]
        _ = (x.num * u) * rU o u := by rw [e4]
        _ = (x.num * rU o u) * u := by rw [Int.mul_assoc, Int.mul_comm u, ← Int.mul_assoc]
    exact Int.eq_of_mul_eq_mul_right hu z
  exact low_one (rU_pos hu) (rat_den_pos x) (r_cop hu) (rat_gcd x) e5
/-- the size of a rational number -/
structure Sz (n : Nat) (x : Rat) : Prop where
  nu : x.num.natAbs < 2 ^ n
  de : x.den < 2 ^ n
theorem Sz.up {n m : Nat} {x : Rat} (h : n ≤ m) (s : Sz n x) : Sz m x := ⟨Nat.lt_of_lt_of_le s.nu (Nat.pow_le_pow_right (by decide) h), Nat.lt_of_lt_of_le s.de (Nat.pow_le_pow_right (by decide) h)⟩
theorem frac_sz {o u : Int} {n : Nat} (hu : u ≠ 0) (ho : o.natAbs < 2 ^ n) (hn : u.natAbs < 2 ^ n) : Sz n ((o : Rat) / (u : Rat)) := by
  obtain ⟨h1, h2⟩ := r_rat (o := o) (u := u) hu
  have a := rO_le (o := o) (u := u) hu
  have b := rU_le (o := o) (u := u) hu
  rw [h1] at a
  rw [h2] at b
  exact ⟨by omega, by omega⟩
theorem int_frac (i : Int) : ((i : Rat) / ((1 : Int) : Rat)) = (i : Rat) := by
  have : ((1 : Int) : Rat) = 1 := rfl
  rw [this]; grind
theorem Sz.int {n : Nat} {i : Int} (h : i.natAbs < 2 ^ n) (hn : 0 < n := by decide) : Sz n (i : Rat) :=
  ⟨by rw [Rat.num_intCast]; exact h, by rw [Rat.den_intCast]; exact Nat.one_lt_two_pow (by omega)⟩
theorem Sz.neg {n : Nat} {x : Rat} (s : Sz n x) : Sz n (-x) := ⟨by rw [Rat.neg_num, Int.natAbs_neg]; exact s.nu, by rw [Rat.neg_den]; exact s.de⟩
theorem mul_lt_pow {a b n m : Nat} (ha : a < 2 ^ n) (hb : b < 2 ^ m) : a * b < 2 ^ (n + m) := by
  rw [Nat.pow_add]
  exact Nat.mul_lt_mul'' ha hb
theorem rat_eq_frac (x : Rat) : x = (x.num : Rat) / ((x.den : Int) : Rat) := by
  have h := rat_mul_den x
  have d := rat_den_ne x
  have e : ((x.den : Int) : Rat) = (x.den : Rat) := rfl
  rw [e] at h ⊢
  rw [← h, Rat.mul_div_cancel d]
theorem den_ne (x : Rat) : ((x.den : Int) : Rat) ≠ 0 := rat_den_ne x
theorem add_frac (x y : Rat) : x + y = ((x.num * y.den + y.num * x.den : Int) : Rat) / ((x.den * y.den : Int) : Rat) := by
  have hx := rat_mul_den x
  have hy := rat_mul_den y
  have d1 := den_ne x
  have d2 := den_ne y
  rw [Rat.intCast_add, Rat.intCast_mul, Rat.intCast_mul, Rat.intCast_mul, ← hx, ← hy]
  grind
theorem mul_frac (x y : Rat) : x * y = ((x.num * y.num : Int) : Rat) / ((x.den * y.den : Int) : Rat) := by
  have hx := rat_mul_den x
  have hy := rat_mul_den y
  have d1 := den_ne x
  have d2 := den_ne y
  rw [Rat.intCast_mul, Rat.intCast_mul, ← hx, ← hy]
  grind
theorem div_frac (x y : Rat) (h : y ≠ 0) : x / y = ((x.num * y.den : Int) : Rat) / ((x.den * y.num : Int) : Rat) := by
  have hx := rat_mul_den x
  have hy := rat_mul_den y
  have d1 := den_ne x
  have d2 := den_ne y
  rw [Rat.intCast_mul, Rat.intCast_mul, ← hx, ← hy]
  grind
theorem natAbs_add_lt {a b : Int} {n : Nat} (h1 : a.natAbs < 2 ^ n) (h2 : b.natAbs < 2 ^ n) : (a + b).natAbs < 2 ^ (n + 1) := by
  have : (2 : Nat) ^ (n + 1) = 2 * 2 ^ n := by rw [Nat.pow_succ, Nat.mul_comm]
  omega
theorem den_abs {x : Rat} {n : Nat} (s : Sz n x) : ((x.den : Int)).natAbs < 2 ^ n := by have := s.de; omega
theorem dd_ne (x y : Rat) : ((x.den : Int) * (y.den : Int)) ≠ 0 := Int.mul_ne_zero (Int.ne_of_gt (rat_den_pos x)) (Int.ne_of_gt (rat_den_pos y))
theorem Sz.add {n m : Nat} {x y : Rat} (a : Sz n x) (b : Sz m y) : Sz (n + m + 1) (x + y) := by
  rw [add_frac]
  have h1 : (x.num * (y.den : Int)).natAbs < 2 ^ (n + m) := by rw [Int.natAbs_mul]; exact mul_lt_pow a.nu (den_abs b)
  have h2 : (y.num * (x.den : Int)).natAbs < 2 ^ (n + m) := by rw [Int.natAbs_mul, Nat.add_comm n m]; exact mul_lt_pow b.nu (den_abs a)
  have h3 : ((x.den : Int) * (y.den : Int)).natAbs < 2 ^ (n + m) := by rw [Int.natAbs_mul]; exact mul_lt_pow (den_abs a) (den_abs b)
  exact frac_sz (dd_ne x y) (natAbs_add_lt h1 h2) (Nat.lt_of_lt_of_le h3 (Nat.pow_le_pow_right (by decide) (by omega)))
theorem Sz.mul {n m : Nat} {x y : Rat} (a : Sz n x) (b : Sz m y) : Sz (n + m) (x * y) := by
  rw [mul_frac]
  have h1 : (x.num * y.num).natAbs < 2 ^ (n + m) := by rw [Int.natAbs_mul]; exact mul_lt_pow a.nu b.nu
  have h3 : ((x.den : Int) * (y.den : Int)).natAbs < 2 ^ (n + m) := by rw [Int.natAbs_mul]; exact mul_lt_pow (den_abs a) (den_abs b)
  exact frac_sz (dd_ne x y) h1 h3
theorem num_ne {y : Rat} (h : y ≠ 0) : y.num ≠ 0 := fun z => h (Rat.num_eq_zero.mp z)
theorem Sz.div {n m : Nat} {x y : Rat} (a : Sz n x) (b : Sz m y) (hy : y ≠ 0) : Sz (n + m) (x / y) := by
  rw [div_frac x y hy]
  have h1 : (x.num * (y.den : Int)).natAbs < 2 ^ (n + m) := by rw [Int.natAbs_mul]; exact mul_lt_pow a.nu (den_abs b)
  have h3 : ((x.den : Int) * y.num).natAbs < 2 ^ (n + m) := by rw [Int.natAbs_mul]; exact mul_lt_pow (den_abs a) b.nu
  exact frac_sz (Int.mul_ne_zero (Int.ne_of_gt (rat_den_pos x)) (num_ne hy)) h1 h3
theorem Sz.sub {n m : Nat} {x y : Rat} (a : Sz n x) (b : Sz m y) : Sz (n + m + 1) (x - y) := by
  rw [Rat.sub_eq_add_neg]
  exact a.add b.neg
theorem Sz.floor {n : Nat} {x : Rat} (a : Sz n x) : x.floor.natAbs < 2 ^ n := by
  rw [Rat.floor_def]
  exact Nat.lt_of_le_of_lt (Int.natAbs_ediv_le_natAbs _ _) a.nu
/-- the tree of a rational number -/
abbrev ratQ (x : Rat) : D := ratD x.num x.den
/-- what a tree is worth as a ratio -/
def asR : D → Option Rat
  | .ins "Ratio" [(a, .int p), (b, .int q)] => if a = "over" ∧ b = "under" ∧ 0 < q ∧ Int.gcd p q = 1 then some ((p : Rat) / (q : Rat)) else none
  | _ => none
theorem asR_rat (x : Rat) : asR (ratQ x) = some x := by
  show (if ("over" : Str) = "over" ∧ ("under" : Str) = "under" ∧ 0 < (x.den : Int) ∧ Int.gcd x.num x.den = 1 then some ((x.num : Rat) / ((x.den : Int) : Rat)) else none) = some x
  rw [if_pos ⟨rfl, rfl, rat_den_pos x, rat_gcd x⟩, ← rat_eq_frac]
def toQ : D → Option Rat
  | .int i => some (i : Rat)
  | d => asR d
theorem toQ_non : toQ (.non) = none := rfl
theorem toQ_bl {b : Bool} : toQ (.bl b) = none := rfl
theorem toQ_int {i : Int} : toQ (.int i) = some (i : Rat) := rfl
theorem toQ_str {x : Str} : toQ (.str x) = none := rfl
theorem toQ_tup {ds : List D} : toQ (.tup ds) = none := rfl
theorem toQ_lst {ds : List D} : toQ (.lst ds) = none := rfl
theorem toQ_wls {ds : List D} : toQ (.wls ds) = none := rfl
theorem toQ_dict {ps : List (Key × D)} : toQ (.dict ps) = none := rfl
theorem toQ_rat (x : Rat) : toQ (ratQ x) = some x := asR_rat x
theorem asR_of {d : D} {x : Rat} (h : asR d = some x) : d = ratQ x := by
  unfold asR at h
  split at h
  · rename_i a p b q
    split at h
    · rename_i hc
      obtain ⟨rfl, rfl, hq, hg⟩ := hc
      cases h
      have hu : q ≠ 0 := Int.ne_of_gt hq
      obtain ⟨h1, h2⟩ := r_rat (o := p) (u := q) hu
      have s : shd p q = 1 := by unfold shd; rw [if_pos hq, hg]; rfl
      have e1 := rO_mul (o := p) (u := q) hu
      have e2 := rU_mul (o := p) (u := q) hu
      rw [s, Int.mul_one] at e1 e2
      unfold ratQ ratD
      rw [← h1, ← h2, e1, e2]
    · cases h
  · cases h
theorem toQ_of {d : D} {x : Rat} (h : toQ d = some x) : (∃ i : Int, d = .int i ∧ x = i) ∨ d = ratQ x := by
  cases d with
  | int i => cases h; exact .inl ⟨i, rfl, rfl⟩
  | ins c fs => exact .inr (asR_of h)
  | _ => cases h
/-- the value of a number is no number -/
def oddD (cs : List String) (d : D) : Prop := anyD cs d ∧ isNumD d = false
theorem toQ_none {cs : List String} {d : D} (h : oddD cs d) : toQ d = none := by
  obtain ⟨h1, h2⟩ := h
  cases d with
  | int i => cases h2
  | ins c fs =>
    have : (c == "Ratio") = false := h2
    have hc : c ≠ "Ratio" := by simpa using this
    show asR (.ins c fs) = none
    unfold asR
    split
    · rename_i heq; cases heq; exact (hc rfl).elim
    · rfl
  | _ => rfl
theorem gcd_log {o u : Int} (hu : u ≠ 0) (h : u.natAbs < 2 ^ 8000) : (shd o u).natAbs.log2 < 9000 := by
  have h1 : (shd o u).natAbs ≤ u.natAbs := by
    obtain ⟨k, hk⟩ := shd_dvd_u o u
    have hk0 : k ≠ 0 := fun z => hu (by rw [hk, z, Int.mul_zero])
    generalize shd o u = s at hk ⊢
    subst hk
    rw [Int.natAbs_mul]
    exact Nat.le_mul_of_pos_right _ (Nat.pos_of_ne_zero (fun z => hk0 (Int.natAbs_eq_zero.mp z)))
  exact Nat.lt_of_lt_of_le (PySem.Flt.log2_lt_of (by decide) (Nat.lt_of_le_of_lt h1 h)) (by decide)
theorem del_put {μ : MS} {a : Addr} {x : MO} (ha : μ a = none) : del (put μ a x) a = μ := by
  funext b
  by_cases hb : b = a
  · rw [hb, del_same, ha]
  · rw [del_ne hb, put_ne hb]
theorem put_put {μ : MS} {a : Addr} {x y : MO} : put (put μ a x) a y = put μ a y := by
  funext b
  by_cases hb : b = a
  · rw [hb, put_same, put_same]
  · rw [put_ne hb, put_ne hb, put_ne hb]
theorem one_8000 : (1 : Int).natAbs < 2 ^ 8000 := by decide +kernel
theorem den_neI (x : Rat) : (x.den : Int) ≠ 0 := Int.ne_of_gt (rat_den_pos x)
section
variable {x y : Rat}
theorem cmND (a : Sz 3900 x) (b : Sz 3900 y) : CMulE x.num y.den := .inr (Smal.mul a.nu (den_abs b))
theorem cmNN (a : Sz 3900 x) (b : Sz 3900 y) : CMulE x.num y.num := .inr (Smal.mul a.nu b.nu)
theorem cmDD (a : Sz 3900 x) (b : Sz 3900 y) : CMulE (x.den : Int) y.den := .inr (Smal.mul (den_abs a) (den_abs b))
theorem cmDN (a : Sz 3900 x) (b : Sz 3900 y) : CMulE (x.den : Int) y.num := .inr (Smal.mul (den_abs a) b.nu)
theorem ddlt (a : Sz 3900 x) (b : Sz 3900 y) : ((x.den : Int) * (y.den : Int)).natAbs < 2 ^ 8000 := Smal.lt (den_abs a) (den_abs b)
theorem dnlt (a : Sz 3900 x) (b : Sz 3900 y) : ((x.den : Int) * y.num).natAbs < 2 ^ 8000 := Smal.lt (den_abs a) b.nu
theorem dn_ne (x : Rat) (h : y ≠ 0) : (x.den : Int) * y.num ≠ 0 := Int.mul_ne_zero (den_neI x) (num_ne h)
theorem den_log (s : Sz 8000 x) : ((x.den : Int)).natAbs.log2 < 9000 := Nat.lt_of_lt_of_le (PySem.Flt.log2_lt_of (by decide) (den_abs s)) (by decide)
end
theorem neg_frac (x : Rat) : ((-x.num : Int) : Rat) / ((x.den : Int) : Rat) = -x := by
  have h := rat_eq_frac x
  have d := den_ne x
  rw [Rat.intCast_neg]
  grind
theorem floor_fdiv (x : Rat) : Int.fdiv x.num x.den = x.floor := by
  rw [Rat.floor_def, Int.fdiv_eq_ediv_of_nonneg _ (Int.le_of_lt (rat_den_pos x))]
/-- the rest -/
def rmod (x y : Rat) : Rat := x - y * ((x / y).floor : Rat)
theorem fl_sz {n m : Nat} {x y : Rat} (a : Sz n x) (b : Sz m y) (h : y ≠ 0) (hn : 0 < n + m := by decide) : Sz (n + m) (((x / y).floor : Int) : Rat) := Sz.int (a.div b h).floor hn
theorem rmod_sz {n m : Nat} {x y : Rat} (a : Sz n x) (b : Sz m y) (h : y ≠ 0) (hn : 0 < n + m := by decide) : Sz (n + (m + (n + m)) + 1) (rmod x y) := a.sub (b.mul (fl_sz a b h hn))
theorem lt_cross (x y : Rat) : decide (x.num * (y.den : Int) < y.num * (x.den : Int)) = decide (x < y) := by
  refine decide_eq_decide.mpr ?_
  rw [Rat.lt_iff]
theorem le_not (x y : Rat) : decide (x ≤ y) = !decide (y < x) := by
  rw [← decide_not]
  exact decide_eq_decide.mpr (by rw [Rat.not_lt])
theorem eq_cross (x y : Rat) : decide (x = y) = (decide (x.num = y.num) && decide ((x.den : Int) = (y.den : Int))) := by
  rw [← Bool.decide_and]
  refine decide_eq_decide.mpr ⟨fun h => by rw [h]; exact ⟨rfl, rfl⟩, fun ⟨h1, h2⟩ => Rat.ext h1 (by exact_mod_cast h2)⟩
end Mz

/-! The pen: where the laws' numbers come from. -/
namespace Mz
open PySem PySem.Spec PyProof.Rows L2 AzX ClX LamX Hz He Az
abbrev intsD (ns : List Int) : List D := ns.map D.int
/-- the pen, after at most n draws -/
def PenV (v : MO) (n : Nat) : Prop := ∃ (cs : List Int) (spot great : Int), v = .lst [.lst (intsD cs), .int spot, .int great] ∧ 0 ≤ spot ∧ spot ≤ n ∧ 0 ≤ great ∧ cs.length ≤ 63
theorem PenV.le {v : MO} {n m : Nat} (p : PenV v n) (h : n ≤ m) : PenV v m := by
  obtain ⟨cs, spot, great, e, h0, h1, h2, h3⟩ := p
  exact ⟨cs, spot, great, e, h0, by omega, h2, h3⟩
theorem atI_0 {α : Type} {x : α} {xs : List α} : atI (x :: xs) 0 = some x := by
  unfold atI ixN
  simp only [List.length_cons]
  rw [if_pos (by decide), if_pos (by omega)]; rfl
theorem atI_1 {α : Type} {x y : α} {xs : List α} : atI (x :: y :: xs) 1 = some y := by
  unfold atI ixN
  simp only [List.length_cons]
  rw [if_pos (by decide), if_pos (by omega)]; rfl
theorem atI_2 {α : Type} {x y z : α} {xs : List α} : atI (x :: y :: z :: xs) 2 = some z := by
  unfold atI ixN
  simp only [List.length_cons]
  rw [if_pos (by decide), if_pos (by omega)]; rfl
theorem atI_3 {α : Type} {x y z w : α} {xs : List α} : atI (x :: y :: z :: w :: xs) 3 = some w := by
  unfold atI ixN
  simp only [List.length_cons]
  rw [if_pos (by decide), if_pos (by omega)]; rfl
theorem ixN_31 : ixN 3 1 = some 1 := rfl
theorem ixN_32 : ixN 3 2 = some 2 := rfl
theorem ixN_30 : ixN 3 0 = some 0 := rfl
theorem atI_in {α : Type} {xs : List α} {i : Int} (h0 : 0 ≤ i) (h1 : i < xs.length) : ∃ x, atI xs i = some x ∧ x ∈ xs := by
  unfold atI ixN
  rw [if_pos h0, if_pos h1]
  have : i.toNat < xs.length := by omega
  exact ⟨xs[i.toNat], List.getElem?_eq_getElem this, List.getElem_mem this⟩
theorem atI_ints {cs : List Int} {i : Int} (h0 : 0 ≤ i) (h1 : i < cs.length) : ∃ z : Int, atI (intsD cs) i = some (.int z) := by
  obtain ⟨x, e, m⟩ := atI_in (xs := intsD cs) h0 (by rw [List.length_map]; exact h1)
  obtain ⟨z, _, rfl⟩ := List.mem_map.mp m
  exact ⟨z, e⟩
theorem dPys_ints : ∀ cs : List Int, dPys (intsD cs) = some (cs.map PyData.int)
  | [] => rfl
  | c :: cs => by
    show (match dPy (.int c), dPys (intsD cs) with | some p, some ps => some (p :: ps) | _, _ => none) = _
    rw [dPys_ints cs]; rfl
theorem lay_ints : ∀ cs : List Int, PyData.canLayAll0 (cs.map PyData.int) = true
  | [] => by simp [PyData.canLayAll0]
  | c :: cs => by simp [PyData.canLayAll0, PyData.canLay0, lay_ints cs]
theorem depth_ints : ∀ cs : List Int, PyData.depthAll (cs.map PyData.int) ≤ 1
  | [] => by simp [PyData.depthAll]
  | c :: cs => by
    have := depth_ints cs
    simp only [List.map_cons, PyData.depthAll, PyData.depth]
    omega
theorem pl_ints {cs : List Int} : plD (.lst (intsD cs)) = true := by
  unfold plD dPy
  rw [dPys_ints]
  show SeqAt.shaped (.list (cs.map PyData.int)) = true
  have := depth_ints cs
  simp [SeqAt.shaped, PyData.canLay0, PyData.depth, lay_ints cs]
  omega
theorem pl_nil : plD (.lst []) = true := pl_ints (cs := [])
theorem neD_ints_nil {cs : List Int} {μ : MS} {Q : D → MS → Prop} {Xm : MX} : mNeD (.lst (intsD cs)) (.lst []) μ Q Xm = Q (.bl (!cs.isEmpty)) μ := by
  have e : eqD (.lst (intsD cs)) (.lst []) = cs.isEmpty := by
    unfold eqD
    simp only [dPy, dPys_ints, Option.map_some, dPys]
    cases cs with
    | nil => simp [PyData.eqv, PyData.eqvAll]
    | cons c cs => simp [PyData.eqv, PyData.eqvAll]
  refine propext ⟨fun h => ?_, fun h => mNeD_pl pl_ints pl_nil (by rw [e]; exact h)⟩
  unfold mNeD at h
  unfold eqD at e
  simp only [dPm, dPy, dPys_ints, Option.map_some, dPys] at h e
  rw [e] at h
  exact h.2.2
theorem mulW_64 {i j : Int} (hi : i.natAbs < 2 ^ 64) (hj : j.natAbs < 2 ^ 64) : CMulE i j := by
  refine .inr ?_
  unfold CMulW
  have a := PySem.Flt.log2_lt_of (n := i.natAbs) (k := 64) (by decide) hi
  have b := PySem.Flt.log2_lt_of (n := j.natAbs) (k := 64) (by decide) hj
  omega
theorem mulL {i j : Int} (h : -(2 ^ 64) < i ∧ i < 2 ^ 64) : CMulE i j := .inl (.inl h)
theorem mulR {i j : Int} (h : -(2 ^ 64) < j ∧ j < 2 ^ 64) : CMulE i j := .inl (.inr h)
theorem fm0 {a m : Int} (h : 0 < m) : 0 ≤ a.fmod m := Int.fmod_nonneg_of_pos _ h
theorem fm1 {a m : Int} (h : 0 < m) : a.fmod m < m := Int.fmod_lt_of_pos _ h
theorem fd0 {a m : Int} (h : 0 ≤ a) (hm : 0 < m) : 0 ≤ a.fdiv m := by rw [Int.fdiv_eq_ediv_of_nonneg _ (by omega)]; exact Int.ediv_nonneg h (by omega)
/-- the mixed draw -/
theorem mix_leaf {c3 c4 c5 c6 c7 p1 p2 spot z : Int} {R : Prop} (b3 : 0 ≤ c3 ∧ c3 ≤ 1000000) (b4 : 0 ≤ c4 ∧ c4 ≤ 1000000) (b5 : 0 ≤ c5 ∧ c5 ≤ 100000) (b6 : 0 ≤ c6 ∧ c6 ≤ 1000000) (b7 : 0 ≤ c7 ∧ c7 ≤ 1000000) (hp1 : 0 < p1 ∧ p1 < 2147483648) (hp2 : 0 < p2 ∧ p2 < 2147483648) (hs0 : 0 ≤ spot) (hs1 : spot ≤ 100000) (h : R) :
    CMulE c3 spot ∧ CPow (z.fmod p1 + c3 * spot + c4) 5 ∧ CMulE 2 spot ∧ CMulE ((ipow (z.fmod p1 + c3 * spot + c4) (Int.toNat 5)).fmod p2) (2 * spot + c5) ∧ CMulE c6 spot ∧ CMulE (c6 * spot) spot ∧
      CPow ((ipow (z.fmod p1 + c3 * spot + c4) (Int.toNat 5)).fmod p2 * (2 * spot + c5) + c6 * spot * spot + c7) 3 ∧ (Int.natAbs 32).log2 < 9000 ∧ R := by
  have e : (2 : Int) ^ 64 = 18446744073709551616 := by decide
  have n64 : (2 : Nat) ^ 64 = 18446744073709551616 := by decide
  have z0 := fm0 (a := z) hp1.1
  have z1 := fm1 (a := z) hp1.1
  have w := mul_bd (a := c3) (b := spot) 1000000 100000 b3.1 hs0 b3.2 hs1
  have m0 := fm0 (a := ipow (z.fmod p1 + c3 * spot + c4) (Int.toNat 5)) hp2.1
  have m1 := fm1 (a := ipow (z.fmod p1 + c3 * spot + c4) (Int.toNat 5)) hp2.1
  refine ⟨mulL (by omega), ⟨by decide, by decide, by omega⟩, mulL (by omega), mulR (by omega), mulL (by omega), mulR (by omega), ⟨by decide, by decide, ?_⟩, by decide, h⟩
  exact mix_lt m0 (by omega) hs0 hs1 b5 b6 b7
theorem cut60 {ns : List Int} : cutD (intsD ns) none (some 60) = intsD (ns.take 60) := by
  unfold cutD
  have e0 : HT.sIx (intsD ns).length 0 none = 0 := rfl
  have e1 : HT.sIx (intsD ns).length (intsD ns).length (some 60) = min ns.length 60 := by
    unfold HT.sIx
    simp
    omega
  rw [e0, e1, List.drop_zero, Nat.sub_zero]
  show (List.map D.int ns).take _ = (ns.take 60).map D.int
  rw [List.map_take, List.take_eq_take_iff, List.length_map]
  omega
theorem cut63 {ns : List Int} : cutD (intsD ns) none (some 63) = intsD (ns.take 63) := by
  unfold cutD
  have e0 : HT.sIx (intsD ns).length 0 none = 0 := rfl
  have e1 : HT.sIx (intsD ns).length (intsD ns).length (some 63) = min ns.length 63 := by
    unfold HT.sIx
    simp
    omega
  rw [e0, e1, List.drop_zero, Nat.sub_zero]
  show (List.map D.int ns).take _ = (ns.take 63).map D.int
  rw [List.map_take, List.take_eq_take_iff, List.length_map]
  omega
theorem lt_floor1 (q : Rat) : q < ((q.floor : Int) : Rat) + 1 := by
  have h := Rat.lt_floor_add_one q
  rw [Rat.intCast_add] at h
  exact h
theorem rmod_pos {x y : Rat} (h : 0 < y) : 0 ≤ rmod x y ∧ rmod x y < y := by
  have hy : y ≠ 0 := by grind
  have e : (x / y) * y = x := Rat.div_mul_cancel hy
  have h1 := Rat.floor_le (x / y)
  have h2 := lt_floor1 (x / y)
  unfold rmod
  generalize (((x / y).floor : Int) : Rat) = f at h1 h2 ⊢
  generalize x / y = q at e h1 h2
  subst e
  have a := Rat.mul_nonneg (a := y) (b := q - f) (by grind) (by grind)
  have b := Rat.mul_pos (a := y) (b := f + 1 - q) (by grind) (by grind)
  constructor <;> grind
theorem rmod_neg {x y : Rat} (h : y < 0) : y < rmod x y ∧ rmod x y ≤ 0 := by
  have hy : y ≠ 0 := by grind
  have e : (x / y) * y = x := Rat.div_mul_cancel hy
  have h1 := Rat.floor_le (x / y)
  have h2 := lt_floor1 (x / y)
  unfold rmod
  generalize (((x / y).floor : Int) : Rat) = f at h1 h2 ⊢
  generalize x / y = q at e h1 h2
  subst e
  have a := Rat.mul_nonneg (a := -y) (b := q - f) (by grind) (by grind)
  have b := Rat.mul_pos (a := -y) (b := f + 1 - q) (by grind) (by grind)
  constructor <;> grind
theorem floor_unique {q : Rat} {n : Int} (h1 : (n : Rat) ≤ q) (h2 : q < (n : Rat) + 1) : q.floor = n := by
  have a : n ≤ q.floor := Rat.le_floor_iff.mpr h1
  have b := Rat.floor_le q
  have c : ((q.floor : Int) : Rat) < ((n + 1 : Int) : Rat) := by
    rw [Rat.intCast_add]
    have : ((1 : Int) : Rat) = 1 := rfl
    grind
  have d : q.floor < n + 1 := Rat.intCast_lt_intCast.mp c
  omega
/-- the rest of x + y * n -/
theorem floor_shift {x y : Rat} (n : Int) (hy : y ≠ 0) : ((x + y * (n : Rat)) / y).floor = (x / y).floor + n := by
  have h1 := Rat.floor_le (x / y)
  have h2 := lt_floor1 (x / y)
  have e : (x + y * (n : Rat)) / y = x / y + n := by grind
  rw [e]
  apply floor_unique
  · rw [Rat.intCast_add]; grind
  · rw [Rat.intCast_add]; grind
theorem rmod_shift {x y : Rat} (n : Int) (hy : y ≠ 0) : rmod (x + y * (n : Rat)) y = rmod x y := by
  unfold rmod
  rw [floor_shift n hy, Rat.intCast_add]
  grind
theorem floor_one {x : Rat} : (x / 1).floor = x.floor := by
  have : x / 1 = x := by grind
  rw [this]
theorem rmod_one {x : Rat} : rmod x 1 = x - ((x.floor : Int) : Rat) := by
  unfold rmod
  rw [floor_one]; grind
theorem neg_neg_floor {x y : Rat} : (-x / -y).floor = (x / y).floor := by
  have : -x / -y = x / y := by
    by_cases hy : y = 0
    · subst hy; grind
    · have : -y ≠ 0 := by grind
      grind
  rw [this]
theorem rmod_rmod {x y : Rat} (hy : y ≠ 0) : rmod (rmod x y) y = rmod x y := by
  have e : rmod x y = x + y * ((-(x / y).floor : Int) : Rat) := by
    rw [Rat.intCast_neg]; unfold rmod; grind
  conv => lhs; rw [e]
  exact rmod_shift _ hy
theorem scale_floor {x y c : Rat} (hy : y ≠ 0) (hc : c ≠ 0) : (x * c / (y * c)).floor = (x / y).floor := by
  have : x * c / (y * c) = x / y := by grind
  rw [this]
theorem self_half {x : Rat} (hx : x ≠ 0) : (x / (x / 2)).floor = 2 := by
  have e : x / (x / 2) = 2 := by grind
  rw [e]
  exact floor_unique (by decide +kernel) (by decide +kernel)
theorem sz0 : Sz 3900 ((0 : Int) : Rat) := Sz.int (by decide +kernel)
theorem smal_of {i : Int} {n : Nat} (h : i.natAbs < 2 ^ n) (hn : n ≤ 3900 := by decide) : Smal i := Nat.lt_of_lt_of_le h (Nat.pow_le_pow_right (by decide) hn)
theorem sz_int {i : Int} {n : Nat} (s : Sz n (i : Rat)) : i.natAbs < 2 ^ n := by have := s.nu; rwa [Rat.num_intCast] at this
theorem cast_pos {i : Int} (h : 0 < i) : (0 : Rat) < (i : Rat) := Rat.intCast_lt_intCast.mpr h
theorem cast_neg {i : Int} (h : ¬ 0 < i) (hi : (i : Rat) ≠ 0) : (i : Rat) < 0 := by
  have : i ≠ 0 := fun z => hi (by rw [z]; rfl)
  exact Rat.intCast_lt_intCast.mpr (show i < 0 by omega)
theorem rmod_def {x y : Rat} : (!decide (rmod x y = x - y * ((x / y).floor : Rat))) = false := by rw [decide_eq_true (show rmod x y = x - y * ((x / y).floor : Rat) from rfl)]; rfl
/-! evaluation step by step: the rest stays a name -/
theorem body_gen {n N : Nat} {b : FS} {ds : List D} {μ : MS} {Q : D → MS → Prop} {Xm : MX} (h : ∀ R, R = b → bodyM n N R ds μ Q Xm) : bodyM n N b ds μ Q Xm := h b rfl
theorem seq_gen {a b : FS} {e : En} {ρ : MEnv} {μ : MS} (h : ∀ R, R = b → sSeq a R e ρ μ) : sSeq a b e ρ μ := h b rfl
theorem lkF_self {f : Str} {v : D} {r : List (Str × D)} : lkF f ((f, v) :: r) = some v := by simp [lkF]
/-- what repr says of plain data -/
def rpS (d : D) : Str := match dRp d with
  | some p => p.shown
  | none => ""
def rpOk (d : D) : Bool := match dRp d with
  | some p => p.showable && decide (p.depth ≤ 20) && decide (p.shown.length ≤ sizeLine)
  | none => false
theorem mRepr_pl {d : D} {μ : MS} {Q : D → MS → Prop} {Xm : MX} (h : rpOk d = true) : mRepr [d] μ Q Xm = Q (.str (rpS d)) μ := by
  unfold rpOk at h
  unfold mRepr rpS
  split at h
  · rename_i p e
    simp only [Bool.and_eq_true, decide_eq_true_eq] at h
    simp only [e]
    exact propext ⟨fun z => z.2.2.2, fun z => ⟨h.1.1, h.1.2, h.2, z⟩⟩
  · cases h
/-- != of equal data -/
theorem mNeD_same {d1 d2 : D} {μ : MS} {Q : D → MS → Prop} {Xm : MX} {p : PyData} (e1 : dPm d1 μ = some p) (e2 : dPm d2 μ = some p) (h : SeqAt.shaped p = true) : mNeD d1 d2 μ Q Xm = Q (.bl false) μ := by
  have r : PyData.eqv p p = true := PySem.SeqAt.eqv_refl p (Bool.and_eq_true_iff.mp h).1
  unfold mNeD
  rw [e1, e2]
  simp only [h, r, Bool.not_true, true_and]
theorem frz_gen {i : Nat} {a : FS} {e : En} {ρ : MEnv} {μ : MS} (h : ∀ R, R = a → sFrz i R e ρ μ) : sFrz i a e ρ μ := h a rfl
/-- a for loop, by what holds before each turn -/
theorem goFor_ind {g : FG} {mb : FS} {e : En} {I : Nat → MEnv → MS → Prop} (T : Nat) (step : ∀ (N : MEnv → MS → Prop) (k : Nat) (d : D) (ρ : MEnv) (μ : MS), k < T → (∀ ρ' μ', I (k + 1) ρ' μ' → N ρ' μ') → I k ρ μ → g d ρ μ (fun ρ1 μ1 => mb { e with nx := N, ct := N, bk := e.nx } ρ1 μ1) e.ex) :
    ∀ (ds : List D) (k : Nat) (ρ : MEnv) (μ : MS), k + ds.length = T → (∀ ρ μ, I T ρ μ → e.nx ρ μ) → I k ρ μ → goFor g mb e ds ρ μ
  | [], k, ρ, μ, hT, fin, h => fin ρ μ (by rw [← hT]; exact h)
  | d :: ds, k, ρ, μ, hT, fin, h => by
    have hl : k + (ds.length + 1) = T := hT
    exact step _ k d ρ μ (by omega) (fun ρ' μ' h' => goFor_ind T step ds (k + 1) ρ' μ' (by omega) fin h') h
theorem for_gen {it : FI} {g : FG} {mb : FS} {e : En} {ρ : MEnv} {μ : MS} (h : ∀ G R, G = g → R = mb → sFor it G R e ρ μ) : sFor it g mb e ρ μ := h _ _ rfl rfl
end Mz

/-! Texts of ratios. -/
namespace Mz
open PySem PySem.Spec PyProof.Rows L2 AzX ClX LamX Hz He Az
/-- the text of a number -/
def intS (i : Int) : Str := ((toString i : String) : Str)
/-- what str tells of a ratio -/
def ratS (x : Rat) : Str := if (x.den : Int) = 1 then intS x.num else Str.empty ++ intS x.num ++ "/" ++ intS (x.den : Int)
theorem bt_of {i : Int} {n : Nat} (h : i.natAbs < 2 ^ n) (hn : n ≤ 1920 := by decide) (h0 : 0 < n := by decide) : i.natAbs.log2 < 1920 := Nat.lt_of_lt_of_le (PySem.Flt.log2_lt_of h0 h) hn
theorem intS_len {i : Int} (h : i.natAbs.log2 < 1920) : (intS i).length ≤ 1921 := txt_len h
theorem ratJ {x : Rat} {R : Str → Prop} (s : Sz 1900 x) (h : (x.den : Int) ≠ 1) (k : R (ratS x)) : x.num.natAbs.log2 < 1920 ∧ (Str.empty ++ intS x.num).length ≤ sizeLine ∧ (Str.empty ++ intS x.num ++ "/").length ≤ sizeLine ∧ (x.den : Int).natAbs.log2 < 1920 ∧ (Str.empty ++ intS x.num ++ "/" ++ intS (x.den : Int)).length ≤ sizeLine ∧ R (Str.empty ++ intS x.num ++ "/" ++ intS (x.den : Int)) := by
  have a : x.num.natAbs.log2 < 1920 := bt_of s.nu
  have b : (x.den : Int).natAbs.log2 < 1920 := bt_of (by have := s.de; simpa using this)
  have la := intS_len a
  have lb := intS_len b
  have e0 : Str.empty.length = 0 := rfl
  have e1 : ("/" : Str).length = 1 := rfl
  have k0 := sizeLine_eq
  refine ⟨a, ?_, ?_, b, ?_, ?_⟩
  · rw [Str.length_append, e0]; omega
  · rw [Str.length_append, Str.length_append, e0, e1]; omega
  · rw [Str.length_append, Str.length_append, Str.length_append, e0, e1]; omega
  · unfold ratS at k; rw [if_neg h] at k; exact k
end Mz

/-! The law's end over trees. -/
namespace Mz
open PySem PySem.Spec PyProof.Rows L2 AzX ClX LamX Hz He Az
section
variable {P : Program} {w : World} {K : PySem.W.Frag} {mg : Str → Option Value} {base : Heap} {T : Tx} {k : Nat} {f : Addr} {ps N : List Str} {m m' : FM}
theorem FnG.imp {fd : FuncData} (G : FnG P w K mg base (L2.CX P w) k f fd ps (spF K T m)) (h : ∀ ds μ Q X, m' ds μ Q X → m ds μ Q X) : FnG P w K mg base (L2.CX P w) k f fd ps (spF K T m') := by
  refine ⟨fun vs H Q E ⟨P, μ, φ, ds, Qm, Xm, w, r, gq, gx, h1⟩ => G.len vs H Q E ⟨P, μ, φ, ds, Qm, Xm, w, r, gq, gx, h _ _ _ _ h1⟩, fun A outer s H args us vs Q E hr hg e0 hb r hsp => ?_⟩
  obtain ⟨P, μ, φ, ds, Qm, Xm, w, r1, gq, gx, h1⟩ := hsp
  exact G.run A outer s H args us vs Q E hr hg e0 hb r ⟨P, μ, φ, ds, Qm, Xm, w, r1, gq, gx, h _ _ _ _ h1⟩
/-- a law that makes lambdas -/
theorem fnGMF {x : Str} {d : DefZ} {fd : FuncData} {b : FS} (hat : d.at_ = .g x) (F : FnP K d fd) (S : FnScope N ps (defScope d.st)) (hd : d.dfl = [])
    (der : ∀ (A : Around) (outer : List Env) (s : Shared) (H : Hp) (E : XK), Room k (A.deeper (envOfC d.qual (defScope d.st) s.heap.objs.size (d.at_.ad K) (.ref (cT K (x, none)).1))) → A.guards = some [] →
      PSsM (cxOf (L2.CX P w) P w K mg base N d.qual (defScope d.st) (d.at_.ad K) (.ref (cT K (x, none)).1) A outer s H E) T E (defBody d.st) b) :
    FnG P w K mg base (L2.CX P w) (k + 1) (d.at_.ad K) fd ps (spF K T (bodyM ps.length N.length b)) := by
  obtain ⟨oc, od, kV, doc, pm, an, cdv, ct, osl, rfl, lk, hcd⟩ := (fun_of F hd).ex
  obtain ⟨c, rfl⟩ := codeIn_ref hcd
  have e : (cT K (x, none)).1 = c := by
    refine codeOf_eq (p := (x, none)) (K := K) (by
      show K.lookup (ga K x) = _
      have z : d.at_.ad K = ga K x := by rw [hat]; rfl
      rw [← z]
      exact lk) rfl
  rw [e] at der
  refine fn_ofG lk hcd S (fun vs H Q E ⟨P, μ, φ, ds, Qm, Xm, w, r, gq, gx, h⟩ => by rw [r.length]; exact h.1) fun A outer s H vs Q E hr hg h => ?_
  obtain ⟨Pm, μ, φ, ds, Qm, Xm, wd, r, gq, gx, hl, h⟩ := h
  refine ⟨_, der A outer s H E hr hg, Pm, μ, φ, _, { nx := fun _ μ' => Qm .non μ', rt := Qm, ex := Xm }, wd, start_env r N, ⟨?_, gq, Go.false, Go.false, gx⟩, h⟩
  exact fun ρ' μ' h' P' H' v s' w' _ => gq .non μ' h' P' H' .non s' w' .non
end
def isTb : HO → Bool
  | .tbl _ => true
  | _ => false
/-- all but the tables -/
def noTb (H : Hp) : Hp := fun b => match H b with
  | some o => if isTb o = true then none else some o
  | none => none
theorem noTb_same (H : Hp) : Same (noTb H) H := fun b u h => by
  unfold noTb at h
  split at h
  · rename_i o q
    split at h
    · cases h
    · cases h; exact q
  · cases h
theorem noTb_of {H : Hp} {b : Addr} {u : HO} (h : H b = some u) (hu : isTb u = false) : noTb H b = some u := by
  unfold noTb
  rw [h]
  simp [hu]
theorem noTb_nt {H : Hp} {b : Addr} {u : HO} (h : noTb H b = some u) : ∀ ps, u ≠ .tbl ps := fun ps z => by
  subst z
  unfold noTb at h
  split at h
  · rename_i o q
    split at h
    · cases h
    · rename_i hn
      cases h
      exact hn rfl
  · cases h
theorem law_wd {K : PySem.W.Frag} {T : Tx} {H : Hp} (hl : T.low = fun _ => none) (ht : ∀ p ∈ T.tabs, H p.1 = some (.tbl #[])) : Wd K T (noTb H) (fun _ => none) (fun _ => none) H := by
  refine ⟨noTb_same H, fun a c h => (by cases h), fun p hp => TabS.nil (ht p hp), fun p hp => ⟨?_, rfl, rfl⟩, ?_, fun a o h => noTb_nt h, fun a o h => (by cases h), fun a o h => (by cases h)⟩
  · unfold noTb
    rw [ht p hp]
    rfl
  · rw [hl]
    exact fun b u h => (by cases h)
theorem reps_int {K : PySem.W.Frag} {P : Hp} : ∀ ns : List Int, Reps K P (ns.map V.int) (intsD ns)
  | [] => .nil
  | n :: ns => .cons (.int n) (reps_int ns)
theorem law_end {l : PySem.W.OpenLaw} {w : World} {K : PySem.W.Frag} {mg : Str → Option Value} {fa : Addr} {h : Heap} {k n : Nat} {x : Str} {fM : FM} {fd : FuncData} {xs : List (Defn × Str)} (KX : K.In h)
    (he : ∀ p ∈ xs, h.get? (cT K p.1).2 = some { cls := .none, data := .fields #[] }) (ho : ∀ p ∈ xs, K.lookup (cT K p.1).2 = none) (hc : ∀ p ∈ xs, PySem.W.codeHdIn K (cT K p.1).1 (cT K p.1).2 = true)
    (hb : ∀ (s : Shared) (u : Value), BindsTo s fd ⟨[u], []⟩ [(x, u)])
    (hm : ∀ (ns : List Int) (μ : MS), ns.length ≤ n → (∀ z ∈ ns, Builtin.Int.intBits z ≤ 1048576) → fM [.wls (intsD ns)] μ (fun d _ => d = .bl true) (fun _ _ _ => False))
    (F : ∀ base : Heap, K.In base → base.Ns mainGlobals mg → (∀ p ∈ xs, TabB base mg (cT K p.1).1 (cT K p.1).2) → FnG l.prog w K mg base (L2.CX l.prog w) k fa fd [x] (spF K { tabs := xs.map fun p => ((cT K p.1).2, p.2) } fM)) :
    LawAtG l w K (L2.CX l.prog w) k n x mg fa h := by
  refine ⟨fd, xs.map fun p => cT K p.1, spF K { tabs := xs.map fun p => ((cT K p.1).2, p.2) } fM, ?_, ?_, ?_, hb, fun H a ns hl hz hH hS => ?_, fun base KB GB TB => F base KB GB fun p hp => TB _ (List.mem_map.mpr ⟨p, hp, rfl⟩)⟩
  · intro p hp
    obtain ⟨q, hq, rfl⟩ := List.mem_map.mp hp
    exact he q hq
  · intro p hp
    obtain ⟨q, hq, rfl⟩ := List.mem_map.mp hp
    exact ho q hq
  · intro p hp
    obtain ⟨q, hq, rfl⟩ := List.mem_map.mp hp
    exact PySem.W.codeHd_of_K KX (hc q hq)
  · have wd : Wd K { tabs := xs.map fun p => ((cT K p.1).2, p.2) } (noTb H) (fun _ => none) (fun _ => none) H := law_wd rfl fun p hp => by
      obtain ⟨q, hq, rfl⟩ := List.mem_map.mp hp
      exact hH _ (List.mem_map.mpr ⟨q, hq, rfl⟩)
    have sq : SqL K (noTb H) a (ns.map V.int) := hS.imp (fun r => r.imp (fun r => noTb_of r rfl) fun ⟨o, r⟩ => ⟨o, noTb_of r rfl⟩) id
    refine ⟨noTb H, fun _ => none, fun _ => none, [.wls (intsD ns)], fun d _ => d = .bl true, fun _ _ _ => False, wd, .cons (.wls sq (reps_int ns)) .nil, fun d μ' e P' H' v s w' r => ?_, GoX.false, hm ns _ hl hz⟩
    subst e
    cases r
    rfl
theorem noCX {P : Program} {w : World} {H : Hp} {s : Shared} {e : Value} {s' : Shared} (h : L2.CX P w [] H s (fun _ _ _ => False) e s') : False := by
  obtain ⟨a, B, H', cls, d, _, _, _, _, _, _, _, z⟩ := h
  exact z
theorem ndec_ok {p : Prop} [Decidable p] (h : (!decide p) = true) : ¬p := of_decide_eq_false (by simpa using h)
/-- an own error that is raised -/
def erB (file : Str) (K : PySem.W.Frag) (x : Str) (fs : List Str) : Bool := errB file K x fs && (decide (PySem.W.subIn K (.ref (ga K x)) (.type "BaseException") = some true) && decide (PySem.W.typeIn K (.ref (ga K x)) = some (.type "type")))
theorem erB_ok {file : Str} {K : PySem.W.Frag} {x : Str} {fs : List Str} (h : erB file K x fs = true) : errB file K x fs = true ∧ PySem.W.subIn K (.ref (ga K x)) (.type "BaseException") = some true ∧ PySem.W.typeIn K (.ref (ga K x)) = some (.type "type") := by
  obtain ⟨h1, h⟩ := ba h
  obtain ⟨h2, h3⟩ := ba h
  exact ⟨h1, of_decide_eq_true h2, of_decide_eq_true h3⟩
end Mz

/-! Calls with keywords, of instances, of class methods. -/
namespace Mz
open PySem PySem.Spec PyProof.Rows L2 AzX ClX LamX Hz He Az
/-- where a parameter's value comes from: a position, a default, a keyword -/
inductive Sel where
  | p (i : Nat) | d (i : Nat) | k (i : Nat)
def selA {α : Type} (z : α) (us its ws : List α) : List Sel → List α
  | [] => []
  | .p i :: r => (us[i]?).getD z :: selA z us its ws r
  | .d i :: r => (its[i]?).getD z :: selA z us its ws r
  | .k i :: r => (ws[i]?).getD z :: selA z us its ws r
theorem vals_at : ∀ {vs : List V} {us : List Value} (i : Nat), Vals vs us → RelV ((vs[i]?).getD .non) ((us[i]?).getD .none)
  | _, _, _, .nil => rfl
  | _, _, 0, .cons h _ => h
  | _, _, i + 1, .cons _ t => by
    have := vals_at i t
    simpa using this
theorem vals_sel {vs ds zs : List V} {us its ws : List Value} (a : Vals vs us) (b : Vals ds its) (c : Vals zs ws) : ∀ L : List Sel, Vals (selA .non vs ds zs L) (selA .none us its ws L)
  | [] => .nil
  | .p i :: r => .cons (vals_at i a) (vals_sel a b c r)
  | .d i :: r => .cons (vals_at i b) (vals_sel a b c r)
  | .k i :: r => .cons (vals_at i c) (vals_sel a b c r)
theorem reps_at {K : PySem.W.Frag} {P : Hp} : ∀ {vs : List V} {ds : List D} (i : Nat), Reps K P vs ds → Rep K P ((vs[i]?).getD .non) ((ds[i]?).getD .non)
  | _, _, _, .nil => .non
  | _, _, 0, .cons h _ => h
  | _, _, i + 1, .cons _ t => by
    have := reps_at i t
    simpa using this
theorem reps_sel {K : PySem.W.Frag} {P : Hp} {vs ds zs : List V} {us its ws : List D} (a : Reps K P vs us) (b : Reps K P ds its) (c : Reps K P zs ws) : ∀ L : List Sel, Reps K P (selA .non vs ds zs L) (selA .non us its ws L)
  | [] => .nil
  | .p i :: r => .cons (reps_at i a) (reps_sel a b c r)
  | .d i :: r => .cons (reps_at i b) (reps_sel a b c r)
  | .k i :: r => .cons (reps_at i c) (reps_sel a b c r)
/-! defs -/
section
variable {P : Program} {w : World} {K : PySem.W.Frag} {mg : Str → Option Value} {base : Heap} {T : Tx} {k n : Nat} {f : Addr} {ps ks : List Str} {dvs : List V} {L : List Sel} {m m' : FM} {d : DefZ} {fd : FuncData}
theorem FnOk.impM (G : FnOk P w K mg base (L2.CX P w) k f fd ps (spF K T m)) (h : ∀ ds μ Q X, m' ds μ Q X → m ds μ Q X) : FnOk P w K mg base (L2.CX P w) k f fd ps (spF K T m') := by
  refine ⟨fun vs H Q E ⟨P, μ, φ, ds, Qm, Xm, w, r, gq, gx, h1⟩ => G.len vs H Q E ⟨P, μ, φ, ds, Qm, Xm, w, r, gq, gx, h _ _ _ _ h1⟩, fun A outer s H args us vs Q E hr e0 hb r hsp => ?_⟩
  obtain ⟨P, μ, φ, ds, Qm, Xm, w, r1, gq, gx, h1⟩ := hsp
  exact G.run A outer s H args us vs Q E hr e0 hb r ⟨P, μ, φ, ds, Qm, Xm, w, r1, gq, gx, h _ _ _ _ h1⟩
/-- the def at f keeps m; n values and the keywords ks fill its parameters as L tells -/
structure DnK (P : Program) (w : World) (K : PySem.W.Frag) (mg : Str → Option Value) (base : Heap) (T : Tx) (k : Nat) (f : Addr) (ps : List Str) (dvs : List V) (n : Nat) (ks : List Str) (L : List Sel) (m : FM) : Prop where
  kp : PySem.W.keepIn K (.ref f) = true
  ex : ∃ fd g, FnOk P w K mg base (L2.CX P w) k f fd ps (spF K T m) ∧ KBn K fd ps n ks g (fun vs zs => selA V.non vs dvs zs L)
theorem dnK0 (F : FnP K d fd) (hd : d.dfl = []) (L : List Sel) (h : ∀ (kV doc pm : Value) (an : Option Addr) (cdv ct : Value) (us ws : List Value), us.length = n → ws.length = ks.length →
    bindArgs (PySem.W.fnOf d.name d.qual (defArgs d.st) (defBody d.st) (defScope d.st) .none kV doc pm an cdv ct) ⟨us, ks.zip ws⟩ = pure (ps.zip (selA .none us [] ws L)))
    (G : FnOk P w K mg base (L2.CX P w) k (d.at_.ad K) fd ps (spF K T m)) : DnK P w K mg base T k (d.at_.ad K) ps [] n ks L m := by
  have hz : d.dvs K = [] := by unfold DefZ.dvs; rw [hd]; rfl
  have F' : FunD K d.name d.qual (defArgs d.st) (defBody d.st) (defScope d.st) [] [] (d.at_.ad K) fd := by rw [← hz]; exact F
  refine ⟨F.kp, fd, fun us ws => selA .none us [] ws L, G, ⟨fun s us ws X l1 l2 => ?_, fun a b => vals_sel a .nil b L⟩⟩
  obtain ⟨oc, od, dV, kV, doc, pm, an, cdv, ct, osl, rfl, lk, hcd, hD, hK⟩ := F'.ex
  rcases hD with ⟨_, rfl⟩ | ⟨e, _⟩
  · exact .of_eq (h kV doc pm an cdv ct us ws l1 l2)
  · exact absurd rfl e
theorem dnKD (F : FnP K d fd) (hd : d.dvs K = dvs) (hne : dvs ≠ []) (L : List Sel) (h : ∀ (T : Addr) (kV doc pm : Value) (an : Option Addr) (cdv ct : Value) (us its ws : List Value), us.length = n → its.length = dvs.length → ws.length = ks.length →
      ∃ k, bindArgs (PySem.W.fnOf d.name d.qual (defArgs d.st) (defBody d.st) (defScope d.st) (.ref T) kV doc pm an cdv ct) ⟨us, ks.zip ws⟩ = seqItems? (.ref T) >>= k ∧ k (some its.toArray) = pure (ps.zip (selA .none us its ws L)))
    (G : FnOk P w K mg base (L2.CX P w) k (d.at_.ad K) fd ps (spF K T m)) : DnK P w K mg base T k (d.at_.ad K) ps dvs n ks L m := by
  have F' : FunD K d.name d.qual (defArgs d.st) (defBody d.st) (defScope d.st) dvs [] (d.at_.ad K) fd := by rw [← hd]; exact F
  refine ⟨F.kp, fd, ?_⟩
  obtain ⟨oc, od, dV, kV, doc, pm, an, cdv, ct, osl, rfl, lk, hcd, hD, hK⟩ := F'.ex
  rcases hD with ⟨e, _⟩ | ⟨_, T, o, its, m, rfl, lT, oT, rT⟩
  · exact absurd e hne
  · refine ⟨fun us ws => selA .none us its ws L, G, ⟨fun s us ws X l1 l2 => ?_, fun a b => vals_sel a rT b L⟩⟩
    obtain ⟨k, e1, e2⟩ := h T kV doc pm an cdv ct us its ws l1 rT.length.symm l2
    refine BindsTo.of_looks fun M => ?_
    rw [e1]
    exact looks_items X lT oT (.of_pure e2)
end
/-! arguments -/
abbrev TB := L2.St → Hp → (List V → List V → Hp → Prop) → Prop
abbrev kwNames (X : Cx) (pos : Pos) (kws : List Keyword) : List Str := (backToKw pos (keywordEach kws X.env)).filterMap (·.1)
structure PArg (X : Cx) (pos : Pos) (es : List Expr) (kws : List Keyword) (t : TB) : Prop where
  plain : ((backTo pos (starEach es X.env)).any (·.1) || (backToKw pos (keywordEach kws X.env)).any (·.1.isNone)) = false
  run : ∀ (f : Value) (pins : List (Addr × Obj)) (s : Shared) (σ : L2.St) (H : Hp) (Q : List V → List V → Hp → Prop), Inv X pins σ H s → t σ H Q →
    wpAny (model X.prog X.w) X.A (evalArgs f true (backTo pos (starEach es X.env)) (backToKw pos (keywordEach kws X.env))) (fun a s1 => ∃ us ws vs zs H1, a = ⟨us, (kwNames X pos kws).zip ws⟩ ∧ Inv X pins σ H1 s1 ∧ Vals vs us ∧ Vals zs ws ∧ Q vs zs H1) X.xe s
section
variable {X : Cx} {pos : Pos} {e : Expr} {es : List Expr} {kws : List Keyword} {t tk : TA} {tb tb' : TB}
theorem PArg.imp (h : PArg X pos es kws tb) (i : ∀ σ H Q, tb' σ H Q → tb σ H Q) : PArg X pos es kws tb' := ⟨h.plain, fun f pins s σ H Q I q => h.run f pins s σ H Q I (i _ _ _ q)⟩
theorem parg2 (ha : PA X (e :: es) t) (hk : PK X kws tk) (hall : (backToKw pos (keywordEach kws X.env)).all (·.1.isSome) = true := by rfl) (he : starEach (e :: es) X.env = (false, eval e X.env) :: starEach es X.env := by rfl)
    (hpl : ((backTo pos (starEach (e :: es) X.env)).any (·.1) || (backToKw pos (keywordEach kws X.env)).any (·.1.isNone)) = false := by rfl) : PArg X pos (e :: es) kws (fun σ H Q => t σ H fun vs H1 => tk σ H1 fun zs H2 => Q vs zs H2) := by
  refine ⟨hpl, fun f pins s σ H Q I h => ?_⟩
  refine evalArgs_kw2 hall (thn (ha.run pos pins s σ H _ I h) fun us s1 ⟨vs, H1, I1, r, q⟩ => ?_) he
  exact thn (hk.run pos pins s1 σ H1 _ I1 q) fun ws s2 ⟨zs, H2, I2, rz, q2⟩ => ⟨us, ws, vs, zs, H2, rfl, I2, r, rz, q2⟩
theorem parg0 (hk : PK X kws tk) (hall : (backToKw pos (keywordEach kws X.env)).all (·.1.isSome) = true := by rfl)
    (hpl : ((backTo pos (starEach [] X.env)).any (·.1) || (backToKw pos (keywordEach kws X.env)).any (·.1.isNone)) = false := by rfl) : PArg X pos [] kws (fun σ H Q => tk σ H fun zs H2 => Q [] zs H2) := by
  refine ⟨hpl, fun f pins s σ H Q I h => ?_⟩
  exact evalArgs_kw2_nil hall (thn (hk.run pos pins s σ H _ I h) fun ws s2 ⟨zs, H2, I2, rz, q2⟩ => ⟨[], ws, [], zs, H2, rfl, I2, .nil, rz, q2⟩)
end
/-! over trees -/
abbrev FB := MEnv → MS → (List D → List D → MS → Prop) → MX → Prop
def lB (K : PySem.W.Frag) (T : Tx) (E : XK) (m : FB) : TB := fun σ H Q => ∃ P μ φ ρ Qm Xm, Wd K T P μ φ H ∧ REnv K P σ ρ ∧
  (∀ ds es μ', Qm ds es μ' → ∀ P' H' vs zs, Same P P' → Wd K T P' μ' φ H' → Reps K P' vs ds → Reps K P' zs es → Q vs zs H') ∧ GoX K T P φ Xm E ∧ m ρ μ Qm Xm
abbrev PBM (X : Cx) (T : Tx) (E : XK) (pos : Pos) (es : List Expr) (kws : List Keyword) (m : FB) : Prop := PArg X pos es kws (lB X.K T E m)
abbrev PKM (X : Cx) (T : Tx) (E : XK) (kws : List Keyword) (m : FA) : Prop := PK X kws (lA X.K T E m)
theorem PK.imp {X : Cx} {kws : List Keyword} {t t' : TA} (h : PK X kws t) (i : ∀ σ H Q, t' σ H Q → t σ H Q) : PK X kws t' := ⟨fun pos pins s σ H Q I q => h.run pos pins s σ H Q I (i σ H Q q)⟩
def bArgs (ma mk : FA) : FB := fun ρ μ Q Xm => ma ρ μ (fun ds μ1 => mk ρ μ1 (fun es μ2 => Q ds es μ2) Xm) Xm
section
variable {X : Cx} {T : Tx} {E : XK} {pos kpos : Pos} {e : Expr} {es : List Expr} {kws : List Keyword} {me : FE} {ma mk : FA} {nm : Option Str}
theorem pkm_nil : PKM X T E [] mNil := PK.imp pk_nil fun σ H Q ⟨P, μ, φ, ρ, Qm, Xm, w, re, gq, gx, h⟩ => gq.here w .nil h
theorem pkm_cons (ha : PM X T E e me) (hr : PKM X T E kws mk) : PKM X T E (⟨nm, e, kpos⟩ :: kws) (mCons me mk) := by
  refine PK.imp (pk_cons ha hr) fun σ H Q ⟨P, μ, φ, ρ, Qm, Xm, w, re, gq, gx, h⟩ => ?_
  refine ⟨P, μ, φ, ρ, _, Xm, w, re, fun d1 μ1 h1 P1 H1 x s1 w1 r1 => ?_, gx, h⟩
  refine ⟨P1, μ1, φ, ρ, _, Xm, w1, re.mono s1, fun ds μ2 h2 P2 H2 xs s2 w2 r2 => ?_, gx.mono s1, h1⟩
  exact gq _ _ h2 P2 H2 _ (s1.trans s2) w2 (.cons (r1.mono s2) r2)
theorem pbm_2 (ha : PAM X T E (e :: es) ma) (hk : PKM X T E kws mk) (hall : (backToKw pos (keywordEach kws X.env)).all (·.1.isSome) = true := by rfl) (he : starEach (e :: es) X.env = (false, eval e X.env) :: starEach es X.env := by rfl)
    (hpl : ((backTo pos (starEach (e :: es) X.env)).any (·.1) || (backToKw pos (keywordEach kws X.env)).any (·.1.isNone)) = false := by rfl) : PBM X T E pos (e :: es) kws (bArgs ma mk) := by
  refine PArg.imp (parg2 ha hk hall he hpl) fun σ H Q ⟨P, μ, φ, ρ, Qm, Xm, w, re, gq, gx, h⟩ => ?_
  refine ⟨P, μ, φ, ρ, _, Xm, w, re, fun ds μ1 h1 P1 H1 vs s1 w1 r1 => ?_, gx, h⟩
  refine ⟨P1, μ1, φ, ρ, _, Xm, w1, re.mono s1, fun es μ2 h2 P2 H2 zs s2 w2 r2 => ?_, gx.mono s1, h1⟩
  exact gq _ _ _ h2 P2 H2 _ _ (s1.trans s2) w2 (r1.mono s2) r2
theorem pbm_0 (hk : PKM X T E kws mk) (hall : (backToKw pos (keywordEach kws X.env)).all (·.1.isSome) = true := by rfl)
    (hpl : ((backTo pos (starEach [] X.env)).any (·.1) || (backToKw pos (keywordEach kws X.env)).any (·.1.isNone)) = false := by rfl) : PBM X T E pos [] kws (bArgs mNil mk) := by
  refine PArg.imp (parg0 hk hall hpl) fun σ H Q ⟨P, μ, φ, ρ, Qm, Xm, w, re, gq, gx, h⟩ => ?_
  refine ⟨P, μ, φ, ρ, _, Xm, w, re, fun es μ2 h2 P2 H2 zs s2 w2 r2 => ?_, gx, h⟩
  exact gq _ _ _ h2 P2 H2 _ _ s2 w2 .nil r2
end
/-- the call, with what fills the parameters -/
def mCallP (n m : Nat) (L : List Sel) (dd : List D) (fM : FM) (mb : FB) : FE := fun ρ μ Q Xm => mb ρ μ (fun ds es μ2 => ds.length = n ∧ es.length = m ∧ fM (selA .non ds dd es L) μ2 Q Xm) Xm
section
variable {X : Cx} {T : Tx} {E : XK} {k n : Nat} {f C : Addr} {ps ks : List Str} {dvs : List V} {dd : List D} {L : List Sel} {x m : Str} {p pos apos : Pos} {o fe : Expr} {es : List Expr} {kws : List Keyword} {mb : FB} {mo mf : FE} {fM : FM}
/-- f(.., k = v, ..) -/
theorem pm_callP (D : DnK X.prog X.w X.K X.mg X.base T k f ps dvs n ks L fM) (hr : Room k X.A) (hg : Gl X x) (hm : X.mg x = some (.ref f)) (hx : Passes (L2.CX X.prog X.w) X E) (ha : PBM X T E pos es kws mb) (hd : ∀ P, Reps X.K P dvs dd)
    (hks : kwNames X pos kws = ks := by rfl) (hdb : (x == ("__debug__" : Str)) = false := by decide) : PM X T E (.Call (.Name x p) es kws pos) (mCallP n ks.length L dd fM mb) := by
  obtain ⟨kp, fd, g, G, b⟩ := D
  refine ⟨fun pins s σ H Q I ⟨P, μ, φ, ρ, Qm, Xm, w, re, gq, gx, h⟩ => ?_⟩
  refine wpAny_Call_Name_kw (ld_glob I hg hm ?_ hdb)
  refine PySem.W.callWith_of ha.plain (PySem.W.keeps_K (K := X.K) kp) (thn (ha.run (.ref f) pins s σ H (fun vs zs H' => vs.length = n ∧ zs.length = ks.length ∧ spF X.K T fM (selA .non vs dvs zs L) H' Q E) I ⟨P, μ, φ, ρ, _, Xm, w, re, fun ds es' μ' ⟨l1, l2, h1⟩ P' H' vs zs s' w' r1 r2 => ?g1, gx, h⟩) fun a s1 ⟨us, ws, vs, zs, H1, ea, I1, r, rz, l1, l2, q⟩ => ?g2)
  case g1 => exact ⟨r1.length.trans l1, r2.length.trans l2, P', μ', φ, _, Qm, Xm, w', reps_sel r1 (hd P') r2 L, gq.mono s', gx.mono s', h1⟩
  case g2 =>
    subst ea
    refine ⟨I1.kIn, ?_⟩
    rw [hks]
    exact run_fnN G hr b hx I1 r rz l1 l2 q
/-- o.m(.., k = v, ..) -/
def mMethP (c : String) (m : Str) (n k : Nat) (L : List Sel) (dd : List D) (fM : FM) (mo : FE) (mb : FB) : FE := fun ρ μ Q Xm => mo ρ μ (fun d μ1 => isC c m d μ1 ∧ mb ρ μ1 (fun ds es μ2 => ds.length + 1 = n ∧ es.length = k ∧ fM (selA .non (d :: ds) dd es L) μ2 Q Xm) Xm) Xm
theorem pm_methP {c : String} {pl : Sem Bool} (ho : PM X T E o mo) (cl : Cls X.K (ca X.K c)) (hm : Meth X.K (ca X.K c) m f) (D : DnK X.prog X.w X.K X.mg X.base T k f ps dvs n ks L fM) (hr : Room k X.A) (hx : Passes (L2.CX X.prog X.w) X E) (ha : PBM X T E pos es kws mb) (hd : ∀ P, Reps X.K P dvs dd)
    (hks : kwNames X pos kws = ks := by rfl)
    (ht : eval (.Call (.Attribute o m apos) es kws pos) X.env = (do
      let ov ← eval o X.env
      standAt apos.atName
      let (f, first) ← holding [ov] (getMethod ov m pl)
      callWith pos f first (backTo pos (starEach es X.env)) (backToKw pos (keywordEach kws X.env))) := by rfl) :
    PM X T E (.Call (.Attribute o m apos) es kws pos) (mMethP c m n ks.length L dd fM mo mb) := by
  obtain ⟨kp, fd, g, G, b⟩ := D
  refine ⟨fun pins s σ H Q I ⟨P, μ, φ, ρ, Qm, Xm, w, re, gq, gx, h⟩ => ?_⟩
  refine PySem.W.methodCall_KW (pl := pl) (thn (ho.run pins s σ H (fun v H1 => ∃ a dx fs, v = .ref a ∧ H1 a = some (.ins (ca X.K c) dx fs) ∧ fs.lookup m = none ∧ lB X.K T E mb σ H1 (fun vs zs H' => vs.length + 1 = n ∧ zs.length = ks.length ∧ spF X.K T fM (selA .non (.ref a :: vs) dvs zs L) H' Q E)) I ⟨P, μ, φ, ρ, _, Xm, w, re, fun d1 μ1 ⟨hc, h1⟩ P1 H1 v s1 w1 r1 => ?g1, gx, h⟩) fun u s1 ⟨v, H1, I1, rx, a, dx, fs, ex, ea, l, q⟩ => ?g2) ht
  case g1 =>
    obtain ⟨a, dx, fs, rfl, ha1, hl⟩ := isC_of w1 r1 hc
    refine ⟨a, dx, fs, rfl, ha1, hl, P1, μ1, φ, ρ, _, Xm, w1, re.mono s1, fun ds es' μ' ⟨l1, l2, h2⟩ P' H' vs zs s' w' q1 q2 => ?_, gx.mono s1, h1⟩
    exact ⟨by rw [q1.length]; exact l1, q2.length.trans l2, P', μ', φ, _, Qm, Xm, w', reps_sel (.cons (r1.mono s') q1) (hd P') q2 L, gq.mono (s1.trans s'), gx.mono (s1.trans s'), h2⟩
  case g2 =>
    subst ex
    obtain rfl : u = Value.ref a := rx
    refine getmeth_ok I1 ea cl hm l ?_
    refine PySem.W.callWith_of ha.plain (PySem.W.keeps_K (K := X.K) kp) (thn (ha.run (.ref f) pins s1 σ H1 _ I1 q) fun aa s2 ⟨us, ws, vs, zs, H2, e2, I2, r, rz, l1, l2, q2⟩ => ?_)
    subst e2
    refine ⟨I2.kIn, ?_⟩
    rw [hks]
    exact run_fnN (us := .ref a :: us) (vs := .ref a :: vs) G hr b hx I2 (.cons rfl r) rz l1 l2 q2
/-- C.m(.., k = v, ..), m a static method -/
theorem pm_smethP {c : String} {q : Addr} {mc : Value} {pl : Sem Bool} (ho : PE X o (tC (.ref (ca X.K c)))) (r : CRead X.K (ca X.K c) mc) (sm : SMet X.K (ca X.K c) mc m q f) (D : DnK X.prog X.w X.K X.mg X.base T k f ps dvs n ks L fM) (hr : Room k X.A) (hx : Passes (L2.CX X.prog X.w) X E) (ha : PBM X T E pos es kws mb) (hd : ∀ P, Reps X.K P dvs dd)
    (hks : kwNames X pos kws = ks := by rfl)
    (ht : eval (.Call (.Attribute o m apos) es kws pos) X.env = (do
      let ov ← eval o X.env
      standAt apos.atName
      let (f, first) ← holding [ov] (getMethod ov m pl)
      callWith pos f first (backTo pos (starEach es X.env)) (backToKw pos (keywordEach kws X.env))) := by rfl) :
    PM X T E (.Call (.Attribute o m apos) es kws pos) (mCallP n ks.length L dd fM mb) := by
  obtain ⟨kp, fd, g, G, b⟩ := D
  refine ⟨fun pins s σ H Q I ⟨P, μ, φ, ρ, Qm, Xm, w, re, gq, gx, h⟩ => ?_⟩
  refine PySem.W.methodCall_KW (pl := pl) (thn (ho.run pins s σ H (fun v H' => v = .ref (ca X.K c) ∧ H' = H) I ⟨rfl, rfl⟩) fun u s1 ⟨v, H1, I1, rx, ex, eh⟩ => ?_) ht
  subst ex eh
  obtain rfl : u = Value.ref (ca X.K c) := rx
  obtain ⟨rest, hp⟩ := sm.rc
  refine PySem.W.method_cls I1.kIn r.ga (PySem.W.cls_bind I1.kIn r.rd sm.at_ (wpAny_call (PySem.W.sm_get (s := { s1 with toks := s1.toks + 1 }) I1.kIn hp (PySem.W.handed_on rfl ?_))))
  have I2 := I1.tok (s1.toks + 1)
  refine PySem.W.callWith_of ha.plain (PySem.W.keeps_K (K := X.K) sm.kp) (thn (ha.run (.ref f) pins _ σ H1 (fun vs zs H' => vs.length = n ∧ zs.length = ks.length ∧ spF X.K T fM (selA .non vs dvs zs L) H' Q E) I2 ⟨P, μ, φ, ρ, _, Xm, w, re, fun ds es' μ' ⟨l1, l2, h1⟩ P' H' vs zs s' w' r1 r2 => ?g1, gx, h⟩) fun a s2 ⟨us, ws, vs, zs, H2, ea, I3, rv, rz, l1, l2, q⟩ => ?g2)
  case g1 => exact ⟨r1.length.trans l1, r2.length.trans l2, P', μ', φ, _, Qm, Xm, w', reps_sel r1 (hd P') r2 L, gq.mono s', gx.mono s', h1⟩
  case g2 =>
    subst ea
    refine ⟨I3.kIn, ?_⟩
    rw [hks]
    exact run_fnN G hr b hx I3 rv rz l1 l2 q
/-- C.m(.., k = v, ..), m a class method -/
def mCMethP (K : PySem.W.Frag) (c : String) (n k : Nat) (L : List Sel) (dd : List D) (fM : FM) (mb : FB) : FE := fun ρ μ Q Xm => mb ρ μ (fun ds es μ2 => ds.length + 1 = n ∧ es.length = k ∧ fM (selA .non (.ref (ca K c) :: ds) dd es L) μ2 Q Xm) Xm
theorem pm_cmethP {c : String} {q : Addr} {mc : Value} {pl : Sem Bool} (ho : PE X o (tC (.ref (ca X.K c)))) (r : CRead X.K (ca X.K c) mc) (cm : CMet X.K (ca X.K c) mc m q f) (D : DnK X.prog X.w X.K X.mg X.base T k f ps dvs n ks L fM) (hr : Room k X.A) (hx : Passes (L2.CX X.prog X.w) X E) (ha : PBM X T E pos es kws mb) (hd : ∀ P, Reps X.K P dvs dd)
    (hks : kwNames X pos kws = ks := by rfl)
    (ht : eval (.Call (.Attribute o m apos) es kws pos) X.env = (do
      let ov ← eval o X.env
      standAt apos.atName
      let (f, first) ← holding [ov] (getMethod ov m pl)
      callWith pos f first (backTo pos (starEach es X.env)) (backToKw pos (keywordEach kws X.env))) := by rfl) :
    PM X T E (.Call (.Attribute o m apos) es kws pos) (mCMethP X.K c n ks.length L dd fM mb) := by
  obtain ⟨kp, fd, g, G, b⟩ := D
  refine ⟨fun pins s σ H Q I ⟨P, μ, φ, ρ, Qm, Xm, w, re, gq, gx, h⟩ => ?_⟩
  refine PySem.W.methodCall_KW (pl := pl) (thn (ho.run pins s σ H (fun v H' => v = .ref (ca X.K c) ∧ H' = H) I ⟨rfl, rfl⟩) fun u s1 ⟨v, H1, I1, rx, ex, eh⟩ => ?_) ht
  subst ex eh
  obtain rfl : u = Value.ref (ca X.K c) := rx
  refine getmethcm_ok I1 r cm fun s2 I2 => ?_
  refine PySem.W.callWith_of (P := PySem.W.MethP X.K s1.heap.objs.size f (.ref (ca X.K c))) ha.plain (PySem.W.keeps_M cm.fi) (thn (ha.run (.ref s1.heap.objs.size) _ _ σ H1 (fun vs zs H' => vs.length + 1 = n ∧ zs.length = ks.length ∧ spF X.K T fM (selA .non (.ref (ca X.K c) :: vs) dvs zs L) H' Q E) I2 ⟨P, μ, φ, ρ, _, Xm, w, re, fun ds es' μ' ⟨l1, l2, h1⟩ P' H' vs zs s' w' r1 r2 => ?g1, gx, h⟩) fun a s3 ⟨us, ws, vs, zs, H2, ea, I3, rv, rz, l1, l2, q⟩ => ?g2)
  case g1 => exact ⟨by rw [r1.length]; exact l1, r2.length.trans l2, P', μ', φ, _, Qm, Xm, w', reps_sel (.cons (.ref _) r1) (hd P') r2 L, gq.mono s', gx.mono s', h1⟩
  case g2 =>
    subst ea
    refine ⟨⟨pin_at I3, I3.kIn⟩, ?_⟩
    rw [hks]
    have b2 := b.to s3 (.ref (ca X.K c) :: us) ws I3.kIn (by rw [List.length_cons, ← rv.length]; exact l1) (rz.length.symm.trans l2)
    have z : wpAny (model X.prog X.w) X.A (call (.ref s1.heap.objs.size) us (ks.zip ws)) (EP X ((s1.heap.objs.size, PySem.W.methodObj (.ref f) (.ref (ca X.K c))) :: pins) σ Q) X.xe s3 := by
      refine wpAny_call (PySem.W.method_call (pin_at I3) ?_)
      have rv2 : Vals (.ref (ca X.K c) :: vs) (.ref (ca X.K c) :: us) := .cons rfl rv
      refine codeAny_mono (G.run X.A X.stack s3 H2 ⟨.ref (ca X.K c) :: us, ks.zip ws⟩ (g (.ref (ca X.K c) :: us) ws) _ Q E hr I3.env0 b2 (b.rel rv2 rz) q) fun r s' hq => ?_
      cases r with
      | error e => exact hx _ σ H2 s3 e s' I3 hq
      | ok fl =>
        cases fl with
        | ret u => exact I3.after hq
        | next => exact False.elim hq
        | brk => exact False.elim hq
        | cont => exact False.elim hq
    exact thn z fun _ _ y => unpinE y
/-! an instance called -/
theorem callO_kw {M : Model} {A : Around} {E : Value → Shared → Prop} {s : Shared} {a : Addr} {pos : Pos} {Q : Value → Shared → Prop} {args : List (Bool × Sem Value)} {kws : List (Option Str × Sem Value)} (hplain : (args.any (·.1) || kws.any (·.1.isNone)) = false)
    (h : wpAny M A (evalArgs (.ref a) true args kws) (fun z s₁ => (∃ C ox od, PySem.W.InstAt s₁.heap a ox C od ∧ ox.data = .plain) ∧ wpAny M A (call (.ref a) ([] ++ z.pos) z.kw) Q E s₁) E s) : wpAny M A (callWith pos (.ref a) [] args kws) Q E s := by
  unfold callWith
  refine wpAny_bind (wpAny_holding (wpAny_mono h (fun z s₁ h₁ => wpAny_bind (wpAny_standAt ?_)) fun _ _ y => y))
  obtain ⟨⟨C, ox, od, J, hd⟩, h₁⟩ := h₁
  have L := PySem.W.kco_keeper (M := M) J hd
  simp only [hplain]
  refine wpAny_bind (L.here ?_)
  have tail : ∀ {t : Sem Value}, wpAny M A t Q E s₁ → wpAny M A (t >>= fun r => holding [r] point >>= fun _ => pure r) Q E s₁ :=
    fun ht => wpAny_bind (wpAny_mono ht (fun r s₂ hr => wpAny_bind (wpAny_holding (wpAny_point (wpAny_pure hr)))) fun _ _ y => y)
  exact tail (wpAny_operateT h₁)
def mCallO (c : String) (n k : Nat) (L : List Sel) (dd : List D) (fM : FM) (mf : FE) (mb : FB) : FE := fun ρ μ Q Xm => mf ρ μ (fun d μ1 => insC c d μ1 ∧ mb ρ μ1 (fun ds es μ2 => insC c d μ2 ∧ ds.length + 1 = n ∧ es.length = k ∧ fM (selA .non (d :: ds) dd es L) μ2 Q Xm) Xm) Xm
theorem pm_callO {c : String} (hf : PM X T E fe mf) (co : StX.CallO X.K (ca X.K c) f) (D : DnK X.prog X.w X.K X.mg X.base T k f ps dvs n ks L fM) (hr : Room k X.A) (hx : Passes (L2.CX X.prog X.w) X E) (ha : PBM X T E pos es kws mb) (hd : ∀ P, Reps X.K P dvs dd)
    (hks : kwNames X pos kws = ks := by rfl)
    (ht : eval (.Call fe es kws pos) X.env = (do callWith pos (← eval fe X.env) [] (backTo pos (starEach es X.env)) (backToKw pos (keywordEach kws X.env))) := by rfl) :
    PM X T E (.Call fe es kws pos) (mCallO c n ks.length L dd fM mf mb) := by
  obtain ⟨kp, fd, g, G, b⟩ := D
  refine ⟨fun pins s σ H Q I ⟨P, μ, φ, ρ, Qm, Xm, w, re, gq, gx, h⟩ => ?_⟩
  rw [ht]
  refine wpAny_bind (thn (hf.run pins s σ H (fun v H1 => ∃ a, v = .ref a ∧ lB X.K T E mb σ H1 (fun vs zs H' => (∃ dx fs, H' a = some (.ins (ca X.K c) dx fs)) ∧ vs.length + 1 = n ∧ zs.length = ks.length ∧ spF X.K T fM (selA .non (.ref a :: vs) dvs zs L) H' Q E)) I ⟨P, μ, φ, ρ, _, Xm, w, re, fun d1 μ1 ⟨hc, h1⟩ P1 H1 v s1 w1 r1 => ?g1, gx, h⟩) fun u s1 ⟨v, H1, I1, rx, a, ex, q⟩ => ?g2)
  case g1 =>
    obtain ⟨a, dx, fs, rfl, ha1⟩ := insP w1 r1 hc
    refine ⟨a, rfl, P1, μ1, φ, ρ, _, Xm, w1, re.mono s1, fun ds es' μ' ⟨hc2, l1, l2, h2⟩ P' H' vs zs s' w' q1 q2 => ?_, gx.mono s1, h1⟩
    obtain ⟨a2, dx2, fs2, e2, ha2⟩ := insP w' (r1.mono s') hc2
    cases e2
    exact ⟨⟨dx2, fs2, ha2⟩, by rw [q1.length]; exact l1, q2.length.trans l2, P', μ', φ, _, Qm, Xm, w', reps_sel (.cons (r1.mono s') q1) (hd P') q2 L, gq.mono (s1.trans s'), gx.mono (s1.trans s'), h2⟩
  case g2 =>
    subst ex
    obtain rfl : u = Value.ref a := rx
    refine callO_kw ha.plain (thn (ha.run (.ref a) pins s1 σ H1 _ I1 q) fun aa s2 ⟨us, ws, vs, zs, H2, e2, I2, r, rz, ⟨dx, fs, ha2⟩, l1, l2, q2⟩ => ?_)
    subst e2
    obtain ⟨mA, O, _⟩ := ins_get I2.hok ha2
    obtain ⟨od, J, _⟩ := O.look
    refine ⟨⟨_, _, _, J, rfl⟩, ?_⟩
    rw [hks]
    have b2 := b.to s2 (.ref a :: us) ws I2.kIn (by rw [List.length_cons, ← r.length]; exact l1) (rz.length.symm.trans l2)
    have rv2 : Vals (.ref a :: vs) (.ref a :: us) := .cons rfl r
    refine wpAny_call (PySem.W.kco_code I2.kIn J rfl co.at_ co.fn co.fi ?_)
    refine codeAny_mono (G.run X.A X.stack s2 H2 ⟨.ref a :: us, ks.zip ws⟩ (g (.ref a :: us) ws) _ Q E hr I2.env0 b2 (b.rel rv2 rz) q2) fun r s' hq => ?_
    cases r with
    | error e => exact hx _ σ H2 s2 e s' I2 hq
    | ok fl =>
      cases fl with
      | ret u => exact I2.after hq
      | next => exact False.elim hq
      | brk => exact False.elim hq
      | cont => exact False.elim hq
/-! making with keywords -/
def mMakeP (n k : Nat) (L : List Sel) (dd : List D) (gM : FM) (mb : FB) : FE := fun ρ μ Q Xm => mb ρ μ (fun ds es μ2 => ds.length = n ∧ es.length = k ∧ gM (selA .non ds dd es L) μ2 Q Xm) Xm
/-- one position more: that of the new instance -/
def Sel.up : Sel → Sel
  | .p i => .p (i + 1)
  | s => s
theorem sel_up {α : Type} (z x : α) (us its ws : List α) : ∀ L : List Sel, selA z (x :: us) its ws (L.map Sel.up) = selA z us its ws L
  | [] => rfl
  | .p i :: r => by simp only [List.map_cons, Sel.up, selA, List.getElem?_cons_succ, sel_up z x us its ws r]
  | .d i :: r => by simp only [List.map_cons, Sel.up, selA, sel_up z x us its ws r]
  | .k i :: r => by simp only [List.map_cons, Sel.up, selA, sel_up z x us its ws r]
theorem pm_makeP {c : String} {gM : FM} (mkc : Mk X.K (ca X.K c) f) (D : DnK X.prog X.w X.K X.mg X.base T k f ps dvs (n + 1) ks (.p 0 :: L.map Sel.up) fM) (hr : Room (k + 1) X.A) (hg : Gl X x) (hm : X.mg x = some (.ref (ca X.K c))) (hx : Passes (L2.CX X.prog X.w) X E) (hi : ∀ ds μ Q Xm, gM ds μ Q Xm → mkM c fM [] ds μ Q Xm ∨ mkMM c fM [] ds μ Q Xm)
    (ha : PBM X T E pos es kws mb) (hd : ∀ P, Reps X.K P dvs dd) (hks : kwNames X pos kws = ks := by rfl) (hdb : (x == ("__debug__" : Str)) = false := by decide) :
    PM X T E (.Call (.Name x p) es kws pos) (mMakeP n ks.length L dd gM mb) := by
  obtain ⟨kp, fd, g, G, b⟩ := D
  refine ⟨fun pins s σ H Q I ⟨P, μ, φ, ρ, Qm, Xm, w, re, gq, gx, h⟩ => ?_⟩
  refine wpAny_Call_Name_kw (ld_glob I hg hm ?_ hdb)
  refine PySem.W.callWith_of ha.plain (PySem.W.keeps_K (K := X.K) mkc.kp) (thn (ha.run (.ref (ca X.K c)) pins s σ H (fun vs zs H' => vs.length = n ∧ zs.length = ks.length ∧ ∀ x dx, H' x = none → H' dx = none → dx ≠ x → spF X.K T fM (selA .non (.ref x :: vs) dvs zs (.p 0 :: L.map Sel.up)) (upd (upd H' dx (.own x)) x (.ins (ca X.K c) dx [])) (fun v H3 => v = .non ∧ Q (.ref x) H3) E) I ⟨P, μ, φ, ρ, _, Xm, w, re, fun ds es' μ' ⟨l1, l2, h1⟩ P' H' vs zs s' w' r1 r2 => ?g1, gx, h⟩) fun a s1 ⟨us, ws, vs, zs, H1, ea, I1, r, rz, l1, l2, q⟩ => ?g2)
  case g1 =>
    refine ⟨r1.length.trans l1, r2.length.trans l2, fun a dx ha1 hdx ne => ?_⟩
    have z := make_of (K := X.K) (T := T) (E := E) (fM := fM) (c := c) (dv := []) (dd := []) (fun _ => .nil) w' (reps_sel r1 (hd P') r2 L) (gq.mono s') (gx.mono s') (hi _ _ _ _ h1) a dx ha1 hdx ne
    rw [List.append_nil] at z
    have e : selA V.non (.ref a :: vs) dvs zs (.p 0 :: L.map Sel.up) = .ref a :: selA .non vs dvs zs L := by
      show ((V.ref a :: vs)[0]?).getD .non :: selA _ _ _ _ _ = _
      rw [sel_up]; rfl
    rw [e]
    exact z
  case g2 =>
    subst ea
    refine ⟨I1.kIn, ?_⟩
    rw [hks]
    exact run_makeN mkc G hr b hx I1 r rz l1 l2 q
end
/-! facts of the top -/
section
variable {K : PySem.W.Frag}
/-- C.m is a class method -/
def cmB (K : PySem.W.Frag) (C m : Str) : Bool := (match PySem.W.findCls K (.ref (ga K C)) (.type "type") m with
  | some (.get g a o t) => decide (g = .builtin "classmethod.__get__") && (decide (a = .ref (ma K (ga K C) m)) && (decide (o = .none) && decide (t = .ref (ga K C))))
  | _ => false) && ((match PySem.W.recIn K (ma K (ga K C) m) "classmethod" with
  | some (.ref g :: _) => g == sAd K C m
  | _ => false) && PySem.W.fnIn K (sAd K C m))
theorem cmB_ok {C m : Str} (h : cmB K C m = true) : CMet K (ga K C) (.type "type") m (ma K (ga K C) m) (sAd K C m) := by
  obtain ⟨h1, h⟩ := ba h
  obtain ⟨h2, h3⟩ := ba h
  refine ⟨?_, ?_, h3⟩
  · split at h1
    · rename_i g a o t e
      obtain ⟨a1, h1⟩ := ba h1
      obtain ⟨a2, h1⟩ := ba h1
      obtain ⟨a3, a4⟩ := ba h1
      rw [e, of_decide_eq_true a1, of_decide_eq_true a2, of_decide_eq_true a3, of_decide_eq_true a4]
    · cases h1
  · split at h2
    · rename_i g r e
      exact ⟨r, by rw [e, beq_iff_eq.mp h2]⟩
    · cases h2
/-- instances are called -/
def coB (K : PySem.W.Frag) (C : Str) : Bool := (Fa.meth C "__call__").ok K && PySem.W.fnIn K (ma K (ga K C) "__call__")
theorem coB_ok {C : Str} (h : coB K C = true) : StX.CallO K (ga K C) (ma K (ga K C) "__call__") := by
  obtain ⟨h1, h2⟩ := ba h
  exact ⟨(meth_ok h1).at_, (meth_ok h1).fn, h2⟩
end
section
variable {X : Cx} {T : Tx} {E : XK}
/-- sorted(a list of ints) -/
def mSorted : FM := fun ds μ Q _ => match ds with
  | [d] => ∃ ns : List Int, lsD d μ = some (intsD ns) ∧ ∀ ns' : List Int, ns'.Perm ns → ns'.Pairwise (· ≤ ·) → Q (.lst (intsD ns')) μ
  | _ => False
theorem reps_ints {K : PySem.W.Frag} {P : Hp} : ∀ {vs : List V} {ns : List Int}, Reps K P vs (intsD ns) → vs = ns.map V.int
  | _, [], .nil => rfl
  | _, n :: ns, .cons h t => by cases h; rw [reps_ints t]; rfl
theorem f_sorted : CallM X T E (.builtin "sorted") mSorted := by
  refine ⟨_, cr_sortedI, fun P μ φ H xs ds Qm Xm Q w r gq gx h => ?_⟩
  unfold mSorted at h
  split at h
  · obtain ⟨v, rfl, rv⟩ := one_of r
    obtain ⟨ns, e, k⟩ := h
    obtain ⟨a, vs, rfl, hs, rr⟩ := lsD_of w rv e
    rw [reps_ints rr] at hs
    refine ⟨a, ns, rfl, hs, fun ns' p hp hsrt hnew => ?_⟩
    obtain ⟨w2, s2⟩ := w.grow (o := .lst (ns'.map V.int)) hnew
    exact gq _ _ (k ns' hp hsrt) _ _ _ s2 w2 (.lst upd_same (reps_int ns'))
  · exact h.elim
end
end Mz

/-! Roundings as plain numbers. -/
namespace Mz
open PySem PySem.Spec PyProof.Rows L2 AzX ClX LamX Hz He Az
/-- the pixel just below x, of the threshold q -/
def bef (q x : Rat) : Int := -(q - x).floor
/-- the pixel just above -/
def beh (q x : Rat) : Int := (x - q).floor + 1
def rnd (q : Rat) (b : Bool) (x : Rat) : Int := if b = true then beh q x else bef q x
/-- a step at x -/
def stp (q x : Rat) : Prop := rmod (x - q) ((1 : Int) : Rat) = 0
theorem one_rat : ((1 : Int) : Rat) = 1 := rfl
theorem zero_rat : ((0 : Int) : Rat) = 0 := rfl
theorem castI_add (a b : Int) : ((a + b : Int) : Rat) = (a : Rat) + (b : Rat) := Rat.intCast_add a b
theorem castI_sub (a b : Int) : ((a - b : Int) : Rat) = (a : Rat) - (b : Rat) := Rat.intCast_sub a b
theorem castI_neg (a : Int) : ((-a : Int) : Rat) = -(a : Rat) := Rat.intCast_neg a
theorem castI_mul (a b : Int) : ((a * b : Int) : Rat) = (a : Rat) * (b : Rat) := Rat.intCast_mul a b
theorem castI_le {a b : Int} : (a : Rat) ≤ (b : Rat) ↔ a ≤ b := Rat.intCast_le_intCast
theorem castI_lt {a b : Int} : (a : Rat) < (b : Rat) ↔ a < b := Rat.intCast_lt_intCast
theorem castI_inj {a b : Int} : (a : Rat) = (b : Rat) ↔ a = b := Rat.intCast_inj
theorem beh_sp (q x : Rat) : ((beh q x : Int) : Rat) - 1 ≤ x - q ∧ x - q < ((beh q x : Int) : Rat) := by
  have h1 := Rat.floor_le (x - q)
  have h2 := lt_floor1 (x - q)
  unfold beh
  rw [castI_add, one_rat]
  constructor <;> grind
theorem bef_sp (q x : Rat) : ((bef q x : Int) : Rat) - 1 < x - q ∧ x - q ≤ ((bef q x : Int) : Rat) := by
  have h1 := Rat.floor_le (q - x)
  have h2 := lt_floor1 (q - x)
  unfold bef
  rw [castI_neg]
  constructor <;> grind
theorem rnd_sp (q : Rat) (b : Bool) (x : Rat) : ((rnd q b x : Int) : Rat) - 1 ≤ x - q ∧ x - q ≤ ((rnd q b x : Int) : Rat) := by
  have h1 := beh_sp q x
  have h2 := bef_sp q x
  unfold rnd
  split <;> constructor <;> grind
theorem beh_of {q x : Rat} {n : Int} (h1 : (n : Rat) - 1 ≤ x - q) (h2 : x - q < (n : Rat)) : beh q x = n := by
  obtain ⟨a, b⟩ := beh_sp q x
  have c : ((beh q x : Int) : Rat) < ((n + 1 : Int) : Rat) := by rw [castI_add, one_rat]; grind
  have d : ((n : Int) : Rat) < ((beh q x + 1 : Int) : Rat) := by rw [castI_add, one_rat]; grind
  have := castI_lt.mp c
  have := castI_lt.mp d
  omega
theorem bef_of {q x : Rat} {n : Int} (h1 : (n : Rat) - 1 < x - q) (h2 : x - q ≤ (n : Rat)) : bef q x = n := by
  obtain ⟨a, b⟩ := bef_sp q x
  have c : ((bef q x : Int) : Rat) < ((n + 1 : Int) : Rat) := by rw [castI_add, one_rat]; grind
  have d : ((n : Int) : Rat) < ((bef q x + 1 : Int) : Rat) := by rw [castI_add, one_rat]; grind
  have := castI_lt.mp c
  have := castI_lt.mp d
  omega
theorem beh_add (q x : Rat) (n : Int) : beh q (x + n) = beh q x + n := by
  obtain ⟨a, b⟩ := beh_sp q x
  apply beh_of <;> rw [castI_add] <;> grind
theorem bef_add (q x : Rat) (n : Int) : bef q (x + n) = bef q x + n := by
  obtain ⟨a, b⟩ := bef_sp q x
  apply bef_of <;> rw [castI_add] <;> grind
theorem rnd_add (q : Rat) (b : Bool) (x : Rat) (n : Int) : rnd q b (x + n) = rnd q b x + n := by
  unfold rnd
  split
  · exact beh_add q x n
  · exact bef_add q x n
theorem beh_mono {q x y : Rat} (h : x ≤ y) : beh q x ≤ beh q y := by
  have a := beh_sp q x
  have b := beh_sp q y
  have c : ((beh q x : Int) : Rat) < ((beh q y + 1 : Int) : Rat) := by rw [castI_add, one_rat]; grind
  have := castI_lt.mp c
  omega
theorem bef_mono {q x y : Rat} (h : x ≤ y) : bef q x ≤ bef q y := by
  have a := bef_sp q x
  have b := bef_sp q y
  have c : ((bef q x : Int) : Rat) < ((bef q y + 1 : Int) : Rat) := by rw [castI_add, one_rat]; grind
  have := castI_lt.mp c
  omega
theorem rnd_mono {q : Rat} {b : Bool} {x y : Rat} (h : x ≤ y) : rnd q b x ≤ rnd q b y := by
  unfold rnd
  split
  · exact beh_mono h
  · exact bef_mono h
theorem beh_bef {q x y : Rat} (h : x < y) : beh q x ≤ bef q y := by
  have a := beh_sp q x
  have b := bef_sp q y
  have c : ((beh q x : Int) : Rat) < ((bef q y + 1 : Int) : Rat) := by rw [castI_add, one_rat]; grind
  have := castI_lt.mp c
  omega
theorem bef_le_beh (q x : Rat) : bef q x ≤ beh q x := by
  have a := beh_sp q x
  have b := bef_sp q x
  have c : ((bef q x : Int) : Rat) < ((beh q x + 1 : Int) : Rat) := by rw [castI_add, one_rat]; grind
  have := castI_lt.mp c
  omega
theorem stp_iff (q x : Rat) : stp q x ↔ ∃ n : Int, x - q = (n : Rat) := by
  unfold stp
  rw [one_rat, rmod_one]
  constructor
  · intro h
    exact ⟨(x - q).floor, by grind⟩
  · rintro ⟨n, h⟩
    rw [h, Rat.floor_intCast]; grind
theorem stp_bb (q x : Rat) [Decidable (stp q x)] : beh q x = bef q x + (if stp q x then 1 else 0) := by
  have a := beh_sp q x
  have b := bef_sp q x
  split
  · rename_i h
    obtain ⟨n, hn⟩ := (stp_iff q x).mp h
    have e1 : bef q x = n := bef_of (by grind) (by grind)
    rw [e1]
    exact beh_of (by rw [castI_add, one_rat]; grind) (by rw [castI_add, one_rat]; grind)
  · rename_i h
    have ne : x - q ≠ ((bef q x : Int) : Rat) := fun e => h ((stp_iff q x).mpr ⟨_, e⟩)
    rw [Int.add_zero]
    exact beh_of (by grind) (by grind)
instance stpD (q x : Rat) : Decidable (stp q x) := by unfold stp; exact inferInstance
/-- the tree of a rounding -/
abbrev rndD (q : Rat) (b : Bool) : D := .ins "Rounding" [("threshold", ratQ q), ("is_from", .bl b)]
def asRd : D → Option (Rat × Bool)
  | .ins "Rounding" [(a, t), (c, .bl b)] => if a = "threshold" ∧ c = "is_from" then (asR t).map (·, b) else none
  | _ => none
theorem asRd_rnd (q : Rat) (b : Bool) : asRd (rndD q b) = some (q, b) := by
  show (if ("threshold" : Str) = "threshold" ∧ ("is_from" : Str) = "is_from" then (asR (ratQ q)).map (·, b) else none) = _
  rw [if_pos ⟨rfl, rfl⟩, asR_rat]; rfl
theorem asRd_of {d : D} {q : Rat} {b : Bool} (h : asRd d = some (q, b)) : d = rndD q b := by
  unfold asRd at h
  split at h
  · split at h
    · rename_i hc
      obtain ⟨rfl, rfl⟩ := hc
      simp only [Option.map_eq_some_iff, Prod.mk.injEq] at h
      obtain ⟨y, e, rfl, rfl⟩ := h
      rw [asR_of e]
    · cases h
  · cases h
/-- what the program's own steps tell: whole part and rest -/
theorem rnd_parts (q : Rat) (b : Bool) (x : Rat) (h0 : 0 ≤ q) (h1 : q ≤ 1) (hb : if b = true then q ≠ 0 else q ≠ 1) :
    rnd q b x = x.floor + (if (if b = true then decide (q ≤ x - ((x.floor : Int) : Rat)) else decide (q < x - ((x.floor : Int) : Rat))) = true then 1 else 0) := by
  have f1 := Rat.floor_le x
  have f2 := lt_floor1 x
  unfold rnd
  cases b with
  | true =>
    simp only [if_true] at hb ⊢
    by_cases c : q ≤ x - ((x.floor : Int) : Rat)
    · rw [decide_eq_true c, if_pos rfl]
      apply beh_of <;> rw [castI_add, one_rat] <;> grind
    · rw [decide_eq_false c, if_neg (by decide), Int.add_zero]
      apply beh_of <;> grind
  | false =>
    simp only [Bool.false_eq_true, if_false] at hb ⊢
    by_cases c : q < x - ((x.floor : Int) : Rat)
    · rw [decide_eq_true c, if_pos rfl]
      apply bef_of <;> rw [castI_add, one_rat] <;> grind
    · rw [decide_eq_false c, if_neg (by decide), Int.add_zero]
      apply bef_of <;> grind
/-- n times R(x) and R of n times x -/
theorem rnd_times {q x : Rat} {b : Bool} {n : Int} (hn : 1 ≤ n) (h0 : 0 ≤ q) (h1 : q ≤ 1) (hb : if b = true then q ≠ 0 else q ≠ 1) : 1 - n ≤ n * rnd q b x - rnd q b (x * n) ∧ n * rnd q b x - rnd q b (x * n) ≤ n - 1 := by
  have hn' : (1 : Rat) ≤ (n : Rat) := castI_le.mpr hn
  have k : ∀ r s : Int, ((1 - n - 1 : Int) : Rat) < ((n * r - s : Int) : Rat) → ((n * r - s : Int) : Rat) < ((n : Int) : Rat) → 1 - n ≤ n * r - s ∧ n * r - s ≤ n - 1 := fun r s a b => by
    have := castI_lt.mp a
    have := castI_lt.mp b
    omega
  unfold rnd
  split
  · rename_i hb'
    rw [if_pos hb'] at hb
    have a := beh_sp q x
    have c := beh_sp q (x * n)
    have m1 : 0 ≤ ((n : Rat) - 1) * q := Rat.mul_nonneg (by grind) h0
    have m2 : 0 ≤ ((n : Rat) - 1) * (1 - q) := Rat.mul_nonneg (by grind) (by grind)
    have n1 : 0 ≤ (n : Rat) * (((beh q x : Int) : Rat) - (x - q)) := Rat.mul_nonneg (by grind) (by grind)
    have n2 : 0 ≤ (n : Rat) * ((x - q) - (((beh q x : Int) : Rat) - 1)) := Rat.mul_nonneg (by grind) (by grind)
    have n3 : 0 < (n : Rat) * (((beh q x : Int) : Rat) - (x - q)) := Rat.mul_pos (by grind) (by grind)
    apply k
    · rw [castI_sub, castI_sub, castI_sub, castI_mul, one_rat]; grind
    · rw [castI_sub, castI_mul]; grind
  · rename_i hb'
    rw [if_neg hb'] at hb
    have a := bef_sp q x
    have c := bef_sp q (x * n)
    have m1 : 0 ≤ ((n : Rat) - 1) * q := Rat.mul_nonneg (by grind) h0
    have m2 : 0 ≤ ((n : Rat) - 1) * (1 - q) := Rat.mul_nonneg (by grind) (by grind)
    have n1 : 0 ≤ (n : Rat) * (((bef q x : Int) : Rat) - (x - q)) := Rat.mul_nonneg (by grind) (by grind)
    have n2 : 0 ≤ (n : Rat) * ((x - q) - (((bef q x : Int) : Rat) - 1)) := Rat.mul_nonneg (by grind) (by grind)
    have n3 : 0 < (n : Rat) * ((x - q) - (((bef q x : Int) : Rat) - 1)) := Rat.mul_pos (by grind) (by grind)
    apply k
    · rw [castI_sub, castI_sub, castI_sub, castI_mul, one_rat]; grind
    · rw [castI_sub, castI_mul]; grind
theorem absI_nat (z : Int) : (if z < 0 then -z else z) = (z.natAbs : Int) := by split <;> omega
/-- a fraction as a pair -/
abbrev frD (p q : Int) : D := .tup [.int p, .int q]
abbrev frQ (x : Rat) : D := frD x.num x.den
/-- a law's own lowest terms: the sign goes up -/
theorem own_low {o u : Int} {g : Nat} (hu : u ≠ 0) (hg : g = Int.gcd o u) : ((if (0 : Int) < u then (1 : Int) else -1) * o).fdiv (g : Int) = ((o : Rat) / (u : Rat)).num ∧ ((if (0 : Int) < u then (1 : Int) else -1) * u).fdiv (g : Int) = (((o : Rat) / (u : Rat)).den : Int) := by
  obtain ⟨h1, h2⟩ := r_rat (o := o) (u := u) hu
  rw [← h1, ← h2, hg]
  unfold Az.rO Az.rU shd
  have k : ∀ z : Int, (-1 * z).fdiv (Int.gcd o u : Int) = z.fdiv (-(Int.gcd o u : Int)) := fun z => by
    have := Int.neg_fdiv_neg (a := -z) (b := (Int.gcd o u : Int))
    rw [Int.neg_neg] at this
    rw [this, Int.neg_one_mul]
  by_cases c : (0 : Int) < u
  · rw [if_pos c, if_pos c]
    simp
  · rw [if_neg c, if_neg c]
    exact ⟨k o, k u⟩
/-- a threshold that its kind has -/
structure ROk (q : Rat) (b : Bool) : Prop where
  lo : 0 ≤ q
  hi : q ≤ 1
  kd : if b = true then q ≠ 0 else q ≠ 1
  sz : Sz 400 q
theorem mulr_le {a b c : Rat} (h : 0 < c) : a * c ≤ b * c ↔ a ≤ b := by
  constructor
  · intro h1
    rcases Rat.le_total (a := a) (b := b) with z | z
    · exact z
    · have : 0 ≤ (a - b) * c := Rat.mul_nonneg (by grind) (by grind)
      have e4 : (a - b) * c = 0 := by grind
      rcases Rat.mul_eq_zero.mp e4 with h5 | h5 <;> grind
  · intro h1
    have : 0 ≤ (b - a) * c := Rat.mul_nonneg (by grind) (by grind)
    grind
theorem mulr_lt {a b c : Rat} (h : 0 < c) : a * c < b * c ↔ a < b := by
  rw [← Rat.not_le, ← Rat.not_le, mulr_le h]
theorem step_cmp (q x : Rat) : decide (q.num * (x.den : Int) ≤ (x.num.fmod x.den) * (q.den : Int)) = decide (q ≤ x - ((x.floor : Int) : Rat)) ∧ decide (q.num * (x.den : Int) < (x.num.fmod x.den) * (q.den : Int)) = decide (q < x - ((x.floor : Int) : Rat)) := by
  have e1 : x.num.fmod x.den = x.num - x.den * x.floor := by
    rw [Int.fmod_def, floor_fdiv]
  have dx := rat_mul_den x
  have dq := rat_mul_den q
  have px : (0 : Rat) < ((x.den : Int) : Rat) := castI_lt.mpr (rat_den_pos x)
  have pq : (0 : Rat) < ((q.den : Int) : Rat) := castI_lt.mpr (rat_den_pos q)
  have pp : (0 : Rat) < ((x.den : Int) : Rat) * ((q.den : Int) : Rat) := Rat.mul_pos px pq
  have l : ((q.num * (x.den : Int) : Int) : Rat) = q * (((x.den : Int) : Rat) * ((q.den : Int) : Rat)) := by
    rw [castI_mul, ← dq]; grind
  have r : ((x.num.fmod x.den * (q.den : Int) : Int) : Rat) = (x - ((x.floor : Int) : Rat)) * (((x.den : Int) : Rat) * ((q.den : Int) : Rat)) := by
    rw [e1, castI_mul, castI_sub, castI_mul, ← dx]; grind
  constructor
  · refine decide_eq_decide.mpr ?_
    rw [← castI_le, l, r]
    exact mulr_le pp
  · refine decide_eq_decide.mpr ?_
    rw [← castI_lt, l, r]
    exact mulr_lt pp
theorem fmod_sz {x : Rat} {n : Nat} (s : Sz n x) : (x.num.fmod x.den).natAbs < 2 ^ n := by
  have p := rat_den_pos x
  have a := Int.fmod_nonneg_of_pos x.num p
  have b := Int.fmod_lt_of_pos x.num p
  have := s.de
  omega
theorem kind_ok {p q : Int} {b : Bool} (p0 : 0 ≤ p) (p1 : p ≤ q) (q0 : 0 < q) (q5 : q ≤ 5) (hb : if b = true then p ≠ 0 else p ≠ q) : ROk ((p : Rat) / (q : Rat)) b := by
  have hq : (0 : Rat) < (q : Rat) := castI_lt.mpr q0
  have hp : (0 : Rat) ≤ (p : Rat) := castI_le.mpr p0
  have hpq : (p : Rat) ≤ (q : Rat) := castI_le.mpr p1
  have e : (p : Rat) / (q : Rat) * (q : Rat) = p := Rat.div_mul_cancel (by grind)
  generalize hx : (p : Rat) / (q : Rat) = x at e ⊢
  have x0 : 0 ≤ x := by
    rcases Rat.le_total (a := 0) (b := x) with h | h
    · exact h
    · have : 0 ≤ (-x) * (q : Rat) := Rat.mul_nonneg (by grind) (by grind)
      have e3 : (p : Rat) = 0 := by grind
      have e4 : x * (q : Rat) = 0 := by grind
      rcases Rat.mul_eq_zero.mp e4 with h5 | h5 <;> grind
  have x1 : x ≤ 1 := by
    rcases Rat.le_total (a := x) (b := 1) with h | h
    · exact h
    · have : 0 ≤ (x - 1) * (q : Rat) := Rat.mul_nonneg (by grind) (by grind)
      have e4 : (x - 1) * (q : Rat) = 0 := by grind
      rcases Rat.mul_eq_zero.mp e4 with h5 | h5 <;> grind
  refine ⟨x0, x1, ?_, ?_⟩
  · cases b with
    | true =>
      simp only [if_true] at hb ⊢
      exact fun z => hb (castI_inj.mp (by rw [← e, z]; grind))
    | false =>
      simp only [Bool.false_eq_true, if_false] at hb ⊢
      exact fun z => hb (castI_inj.mp (by rw [← e, z]; grind))
  · rw [← hx]
    exact (frac_sz (n := 3) (by omega) (by omega) (by omega)).up (by decide)
theorem mEqD_insL {c : String} {fs : List (Str × D)} {d : D} {μ : MS} {Q : D → MS → Prop} {Xm : MX} : mEqD (.ins c fs) d μ Q Xm = False := by
  unfold mEqD
  simp [dPm, dPy]
theorem mNeD_insL {c : String} {fs : List (Str × D)} {d : D} {μ : MS} {Q : D → MS → Prop} {Xm : MX} : mNeD (.ins c fs) d μ Q Xm = False := by
  unfold mNeD
  simp [dPm, dPy]
theorem mEqD_insR {c : String} {fs : List (Str × D)} {d : D} {μ : MS} {Q : D → MS → Prop} {Xm : MX} : mEqD d (.ins c fs) μ Q Xm = False := by
  unfold mEqD
  cases dPm d μ <;> simp [dPm, dPy]
theorem mNeD_insR {c : String} {fs : List (Str × D)} {d : D} {μ : MS} {Q : D → MS → Prop} {Xm : MX} : mNeD d (.ins c fs) μ Q Xm = False := by
  unfold mNeD
  cases dPm d μ <;> simp [dPm, dPy]
theorem mNeD_self {d : D} {μ : MS} {Q : D → MS → Prop} {Xm : MX} (h : plD d = true) : mNeD d d μ Q Xm = Q (.bl false) μ := by
  unfold plD at h
  split at h
  · rename_i p e
    have a1 : dPm d μ = some p := by cases d <;> first | exact e | (simp [dPy] at e)
    exact mNeD_same a1 a1 h
  · cases h
theorem mEqD_self {d : D} {μ : MS} {Q : D → MS → Prop} {Xm : MX} (h : plD d = true) : mEqD d d μ Q Xm = Q (.bl true) μ := by
  unfold plD at h
  split at h
  · rename_i p e
    have a1 : dPm d μ = some p := by cases d <;> first | exact e | (simp [dPy] at e)
    have r : PyData.eqv p p = true := PySem.SeqAt.eqv_refl p (Bool.and_eq_true_iff.mp h).1
    unfold mEqD
    rw [a1]
    simp only [h, r, true_and]
  · cases h
theorem pl_i3 {a b c : Int} : plD (.lst [.int a, .int b, .int c]) = true := pl_ints (cs := [a, b, c])
theorem sorted_eq {ns ns' : List Int} (hp : ns'.Perm ns) (h' : ns'.Pairwise (· ≤ ·)) (h : ns.Pairwise (· ≤ ·)) : ns' = ns := List.Perm.eq_of_pairwise (fun _ _ _ _ a b => Int.le_antisymm a b) h' h hp
theorem bef_rnd (q : Rat) (b : Bool) (x : Rat) : bef q x ≤ rnd q b x ∧ rnd q b x ≤ beh q x := by
  have := bef_le_beh q x
  unfold rnd
  split <;> constructor <;> omega
theorem rnd_sz {n : Nat} {q x : Rat} {b : Bool} (s : Sz n x) (rk : ROk q b) : (rnd q b x).natAbs ≤ 2 ^ n := by
  rw [rnd_parts q b x rk.lo rk.hi rk.kd]
  have := s.floor
  split <;> omega
theorem beh_sub (q x : Rat) : beh q x - bef q x = (if stp q x then 1 else 0) := by
  have := stp_bb q x
  omega
end Mz

/-! Lists and tuples compared item by item, own objects among them; own objects in f-strings; ~x. -/
namespace Sq
open PySem PySem.SeqAt GQ
open AutoSeq1 (wpAny_loadPart')
open MeetsSeq MeetsSeq2 MeetsSeq3 SeqRoads2
section
variable {prog : Program} {w : World} {A : Around} {R : Result → Shared → Prop} {E : Value → Shared → Prop}
/-- the loop of !=, where no pair differs -/
theorem ne_loop {l b : Addr} {N : Nat} {J : Nat → Shared → Prop} (hJ : ListI prog w A (fun e s' => R (.error e) s') l b N J) (last : ∀ s, J N s → R (.ok (.ret (.bool false))) s) :
    ∀ (k i : Nat), N - i = k → i ≤ N → ∀ s, J i s → wpAny (model prog w) A.in1 (Builtin.«list.__eq__.loop» ⟨[.ref l, .ref b, rawInt i, rawInt 3], []⟩) (FinOf prog w A R) (fun e s' => R (.error e) s') s
  | 0, i, hk, hi, s, hs => by
    obtain ⟨xs, ys, n, m, e1, e2, z1, z2, _⟩ := hJ _ _ hs
    have hiN : i = N := by omega
    have done := last s (by rw [← hiN]; exact hs)
    obtain ⟨hh, gg, dd, tt, oo⟩ := s
    wp_walk using wpAny_loadPart' e1, wpAny_loadPart' e2
    have n1 : xs[((i : Nat) : Int).toNat]? = none := by simp; omega
    have n2 : ys[((i : Nat) : Int).toNat]? = none := by simp; omega
    rw [n1, n2]
    wp_walk using wpAny_loadPart' e1, wpAny_loadPart' e2
    show R (.ok (.ret (.bool (xs.size != ys.size)))) _
    rw [z1, z2]
    simpa using done
  | k + 1, i, hk, hi, s, hs => by
    obtain ⟨xs, ys, n, m, e1, e2, z1, z2, step⟩ := hJ _ _ hs
    have i1 : i < xs.size := by omega
    have i2 : i < ys.size := by omega
    have one := step i1 i2
    obtain ⟨hh, gg, dd, tt, oo⟩ := s
    wp_walk using wpAny_loadPart' e1, wpAny_loadPart' e2
    have g1 : xs[((i : Nat) : Int).toNat]? = some xs[i] := by simp [i1]
    have g2 : ys[((i : Nat) : Int).toNat]? = some ys[i] := by simp [i2]
    have cc : ((i : Int) + 1) = ((i + 1 : Nat) : Int) := by omega
    rw [g1, g2]
    refine wpAny_bind (wpAny_mono one (fun r s2 q2 => ?_) fun _ _ q => q)
    obtain ⟨rfl, q2⟩ := q2
    have more := ne_loop hJ last k (i + 1) (by omega) (by omega) s2 q2
    obtain ⟨h2, g2', d2, t2, o2⟩ := s2
    wp_walk
    rw [cc]
    refine ⟨plainId_quiet plain_eq_loop _, codeAny_builtin entry_eq_loop ?_⟩
    rw [Around.under_plainId plain_eq_loop _]
    exact more
theorem ne_list {l b : Addr} {N : Nat} {J : Nat → Shared → Prop} (hJ : ListI prog w A (fun e s' => R (.error e) s') l b N J) (last : ∀ s, J N s → R (.ok (.ret (.bool false))) s) {s : Shared} (hs : J 0 s) :
    wpAny (model prog w) A.in1 (Builtin.«list.__ne__» ⟨[.ref l, .ref b], []⟩) (FinOf prog w A R) (fun e s' => R (.error e) s') s := by
  obtain ⟨xs, ys, n, m, e1, e2, z1, z2, _⟩ := hJ _ _ hs
  have loop := ne_loop hJ last N 0 rfl (Nat.zero_le _) s hs
  obtain ⟨hh, gg, dd, tt, oo⟩ := s
  have sub := AutoSeq1.sub_list_list
  have same : ¬ (xs.size != ys.size) = true := by simp [z1, z2]
  wp_walk using wpAny_loadPart' e1, wpAny_loadPart' e2
  refine ⟨plainId_quiet plain_eq_loop _, codeAny_builtin entry_eq_loop ?_⟩
  rw [Around.under_plainId plain_eq_loop _]
  exact loop
theorem ne_listC {l b : Addr} {N : Nat} {Q : Value → Shared → Prop} {J : Nat → Shared → Prop} {s : Shared} (hu : A.units < cLine) (hJ : ListI prog w A E l b N J) (last : ∀ s, J N s → Q (.bool false) s) (hs : J 0 s) : wpAny (model prog w) A (richCompare .NotEq (.ref l) (.ref b)) Q E s := by
  obtain ⟨xs, ys, n, m, e1, e2, _, _, _⟩ := hJ _ _ hs
  refine wpAny_richCompare_same_room (op := .NotEq) ⟨_, e1, rfl⟩ ⟨_, e2, rfl⟩ F.slot_list_ne (call_here F.slot_list_ne ⟨_, e1, rfl⟩ F.entry_list_ne (F.args_list_ne_2 _ _) ?_) hu
  exact ne_list (R := wants (fun v s' => v ≠ .notImplemented ∧ Q v s') E) hJ (fun s' q => ⟨(fun z => nomatch z), last s' q⟩) hs
theorem ne_tup {l b : Addr} {xs ys : Array Value} {n m : Nat} {d1 d2 : Option Addr} {s1 s2 : Array (Option Value)} (hz : xs.size = ys.size) {J : Nat → Shared → Prop}
    (step : ∀ i (h1 : i < xs.size) (h2 : i < ys.size) s, J i s → wpAny (model prog w) A.in1 (eqBool xs[i] ys[i]) (fun r s' => r = true ∧ J (i + 1) s') (fun e s' => R (.error e) s') s)
    (last : ∀ s, J xs.size s → R (.ok (.ret (.bool false))) s) {s : Shared} (e1 : s.heap.get? l = some { cls := .type "tuple", dict := d1, data := .seq xs n, slots := s1 }) (e2 : s.heap.get? b = some { cls := .type "tuple", dict := d2, data := .seq ys m, slots := s2 }) (hs : J 0 s) :
    wpAny (model prog w) A.in1 (Builtin.«tuple.__ne__» ⟨[.ref l, .ref b], []⟩) (FinOf prog w A R) (fun e s' => R (.error e) s') s := by
  have sub := AutoSeq1.sub_tuple_tuple
  have zl : (xs.toList.zip ys.toList).length = xs.size := by simp [hz]
  have hs0 := hs
  obtain ⟨hh, gg, dd, tt, oo⟩ := s
  wp_walk using wpAny_loadPart' e1, wpAny_loadPart' e2, wpAny_forIn_list _ (fun todo st s' => st.1 = none ∧ ∃ i, todo = (xs.toList.zip ys.toList).drop i ∧ i ≤ xs.size ∧ J i s') _
  case turn =>
    rintro ⟨p, q⟩ todo st s' ⟨hst, i, et, hi, hJ⟩
    have lt : i < (xs.toList.zip ys.toList).length := by
      rcases Nat.lt_or_ge i (xs.toList.zip ys.toList).length with z | z
      · exact z
      · rw [List.drop_of_length_le z] at et; cases et
    have i1 : i < xs.size := zl ▸ lt
    have i2 : i < ys.size := hz ▸ i1
    rw [List.drop_eq_getElem_cons lt] at et
    injection et with ep er
    have e3 : p = xs[i] := by simpa using congrArg Prod.fst ep
    have e4 : q = ys[i] := by simpa using congrArg Prod.snd ep
    subst e3 e4
    refine wpAny_bind (wpAny_mono (step i i1 i2 s' hJ) (fun r s2 q2 => ?_) fun _ _ z => z)
    obtain ⟨rfl, q2⟩ := q2
    wp_walk
    exact ⟨rfl, i + 1, er, i1, q2⟩
  case fin =>
    rintro ⟨b1, b2⟩ s' ⟨hb, i, et, hi, hJ⟩
    simp only at hb
    subst hb
    have ge : xs.size ≤ i := by
      rcases Nat.lt_or_ge i (xs.toList.zip ys.toList).length with z | z
      · rw [List.drop_eq_getElem_cons z] at et; cases et
      · exact zl ▸ z
    have iN : i = xs.size := by omega
    have done := last s' (iN ▸ hJ)
    wp_walk
    simpa [Builtin.Tuple.tupleCompareSizes, hz] using done
  case h => exact ⟨rfl, 0, rfl, Nat.zero_le _, hs0⟩
theorem ne_tupC {l b : Addr} {xs ys : Array Value} {Q : Value → Shared → Prop} {J : Nat → Shared → Prop} {s : Shared} (hz : xs.size = ys.size) (hu : A.units < cLine) (hl : s.heap.IsTuple l xs) (hb : s.heap.IsTuple b ys)
    (step : ∀ i (h1 : i < xs.size) (h2 : i < ys.size) s, J i s → wpAny (model prog w) A.in1 (eqBool xs[i] ys[i]) (fun r s' => r = true ∧ J (i + 1) s') E s)
    (last : ∀ s, J xs.size s → Q (.bool false) s) (hs : J 0 s) : wpAny (model prog w) A (richCompare .NotEq (.ref l) (.ref b)) Q E s := by
  obtain ⟨⟨c1, d1, t1, s1⟩, o1, k1, n, z1⟩ := id hl
  obtain ⟨⟨c2, d2, t2, s2⟩, o2, k2, m, z2⟩ := id hb
  simp only at k1 z1 k2 z2
  subst k1 z1 k2 z2
  refine wpAny_richCompare_same_room (op := .NotEq) ⟨_, o1, rfl⟩ ⟨_, o2, rfl⟩ F.slot_tuple_ne (call_here F.slot_tuple_ne ⟨_, o1, rfl⟩ F.entry_tuple_ne (F.args_tuple_ne_2 _ _) ?_) hu
  exact ne_tup (R := wants (fun v s' => v ≠ .notImplemented ∧ Q v s') E) hz step (fun s' q => ⟨(fun z => nomatch z), last s' q⟩) o1 o2 hs
end
end Sq
namespace Mz
open PySem PySem.Spec PyProof.Rows L2 AzX ClX LamX Hz He Az
/-! over trees -/
abbrev RelD := D → D → Prop
/-- == of such values is True, and changes nothing -/
structure EqW (X : Cx) (T : Tx) (n : Nat) (m : RelD) : Prop where
  run : ∀ (A : Around) (pins : List (Addr × Obj)) (s : Shared) (σ : L2.St) (H P φ : Hp) (μ : MS) (x y : V) (d1 d2 : D) (u v : Value), Sub X n A → Inv X pins σ H s → RelV x u → RelV y v → Wd X.K T P μ φ H → Rep X.K P x d1 → Rep X.K P y d2 → m d1 d2 →
    wpAny (model X.prog X.w) A (eqBool u v) (fun r s' => r = true ∧ ∃ P' H', Inv X pins σ H' s' ∧ Same P P' ∧ Wd X.K T P' μ φ H') X.xe s
/-- flat values -/
def flE : RelD := fun a b => match a, b with
  | .non, .non => True
  | .bl x, .bl y => x = y
  | .int x, .int y => x = y
  | .str x, .str y => x = y
  | _, _ => False
def orD (m1 m2 : RelD) : RelD := fun a b => m1 a b ∨ m2 a b
/-- an instance of c by its own == -/
def owE (c : String) (others : List String) (fM : FM) : RelD := fun a b => match a with
  | .ins c1 _ => c1 = c ∧ cOk c others b ∧ ∀ (μ : MS) (Q : D → MS → Prop) (Xm : MX), Q (.bl true) μ → fM [a, b] μ Q Xm
  | _ => False
/-- an int by the other one's own == -/
def inE (c : String) (fM : FM) : RelD := fun a b => match a, b with
  | .int _, .ins c1 _ => c1 = c ∧ ∀ (μ : MS) (Q : D → MS → Prop) (Xm : MX), Q (.bl true) μ → fM [b, a] μ Q Xm
  | _, _ => False
/-- item by item -/
inductive AllD (m : RelD) : List D → List D → Prop
  | nil : AllD m [] []
  | cons {a b : D} {as bs : List D} (h : m a b) (t : AllD m as bs) : AllD m (a :: as) (b :: bs)
def lsE (m : RelD) : RelD := fun a b => match a, b with
  | .lst xs, .lst ys => AllD m xs ys
  | _, _ => False
def tuE (m : RelD) : RelD := fun a b => match a, b with
  | .tup xs, .tup ys => AllD m xs ys
  | _, _ => False
theorem AllD.len {m : RelD} : ∀ {as bs : List D}, AllD m as bs → as.length = bs.length
  | _, _, .nil => rfl
  | _, _, .cons _ t => congrArg (· + 1) t.len
theorem AllD.at {m : RelD} : ∀ {as bs : List D} {i : Nat} {a b : D}, AllD m as bs → as[i]? = some a → bs[i]? = some b → m a b
  | _, _, _, _, _, .nil, h, _ => by simp at h
  | _, _, 0, _, _, .cons h _, h1, h2 => by simp at h1 h2; subst h1 h2; exact h
  | _, _, i + 1, _, _, .cons _ t, h1, h2 => AllD.at (i := i) t (by simpa using h1) (by simpa using h2)
section
variable {X : Cx} {T : Tx} {E : XK} {n : Nat} {m m1 m2 : RelD}
theorem EqW.up {k : Nat} (h : EqW X T n m) (hn : n ≤ k) : EqW X T k m := ⟨fun A pins s σ H P φ μ x y d1 d2 u v sb => h.run A pins s σ H P φ μ x y d1 d2 u v (sb.mono hn)⟩
theorem eqw_or (h1 : EqW X T n m1) (h2 : EqW X T n m2) : EqW X T n (orD m1 m2) := ⟨fun A pins s σ H P φ μ x y d1 d2 u v sb I rx ry w r1 r2 h => h.elim (h1.run A pins s σ H P φ μ x y d1 d2 u v sb I rx ry w r1 r2) (h2.run A pins s σ H P φ μ x y d1 d2 u v sb I rx ry w r1 r2)⟩
theorem eqw_flat : EqW X T 0 flE := ⟨fun A pins s σ H P φ μ x y d1 d2 u v sb I rx ry w r1 r2 h => by
  have key : flatV x = true → flatV y = true → eqV x y = true → wpAny (model X.prog X.w) A (eqBool u v) (fun r s' => r = true ∧ ∃ P' H', Inv X pins σ H' s' ∧ Same P P' ∧ Wd X.K T P' μ φ H') X.xe s := fun fx fy e => by
    have q := eqAt_V (A := A) (s := s) rx ry fx fy
    rw [e] at q
    exact q X.prog X.w X.xe _ ⟨rfl, P, H, I, Same.refl P, w⟩
  unfold flE at h
  split at h
  · cases r1; cases r2; exact key rfl rfl rfl
  · cases r1; cases r2; subst h; exact key rfl rfl (by simp [eqV])
  · cases r1; cases r2; subst h; exact key rfl rfl (by simp [eqV])
  · cases r1; cases r2; subst h; exact key rfl rfl (by simp [eqV])
  · exact h.elim⟩
/-- from a rich comparison to == inside a list or tuple -/
theorem eqB_of {A : Around} {a : Addr} {v : Value} {s : Shared} {G : Shared → Prop} (here : G s) (h : wpAny (model X.prog X.w) A (richCompare .Eq (.ref a) v) (fun r s' => r = .bool true ∧ G s') X.xe s) : wpAny (model X.prog X.w) A (eqBool (.ref a) v) (fun r s' => r = true ∧ G s') X.xe s := by
  by_cases e : v = .ref a
  · subst e
    exact SeqAt.EqAt.same (A := A) (s := s) (.ref a) X.prog X.w X.xe _ ⟨rfl, here⟩
  · have go : wpAny (model X.prog X.w) A (do truthOfDropped (← richCompare .Eq (.ref a) v)) (fun r s' => r = true ∧ G s') X.xe s := by
      refine wpAny_bind (wpAny_mono h (fun r s' z => ?_) fun _ _ z => z)
      obtain ⟨rfl, g⟩ := z
      exact wpAny_truthy_bool ⟨rfl, g⟩
    unfold eqBool
    refine wpAny_holding ?_
    refine wpAny_ite_split (fun hab => absurd (eq_of_beq hab).symm e) (fun _ => ?_)
    cases v <;> exact go
theorem eqw_own {c : String} {others : List String} {f : Addr} {ps : List Str} {fM : FM} (cc : CmC X.K (ca X.K c) "__eq__" f) (nf : NoF X.K c others) (D : DnM X.prog X.w X.K X.mg X.base T n f ps [] fM) (hx : Passes (L2.CX X.prog X.w) X E) : EqW X T n (owE c others fM) := by
  obtain ⟨fd, F, b⟩ := D.b0
  refine ⟨fun A pins s σ H P φ μ x y d1 d2 u v sb I rx ry w r1 r2 h => ?_⟩
  unfold owE at h
  split at h
  · rename_i c1 fs
    obtain ⟨rfl, hc, h⟩ := h
    obtain ⟨a, dx, vs, rfl, ha⟩ := rep_ins w r1
    cases (show u = Value.ref a from rx)
    obtain ⟨od, J⟩ := inst_of I ha
    obtain ⟨tb, hty, hn⟩ := cOk_ty (μ := μ) nf hc
    refine eqB_of ⟨P, H, I, Same.refl P, w⟩ ?_
    have sp : spF X.K T fM [.ref a, y] H (fun r H' => r = .bl true ∧ ∃ P', Same P P' ∧ Wd X.K T P' μ φ H') E := ⟨P, μ, φ, _, fun d μ' => d = .bl true ∧ μ' = μ, fun _ _ _ => False, w, .cons r1 (.cons r2 .nil), fun d μ' ⟨e1, e2⟩ P' H' r s' w' rr => by
      subst e1 e2
      cases rr
      exact ⟨rfl, P', s', w'⟩, GoX.false, h _ _ _ ⟨rfl, rfl⟩⟩
    have one := run_in (us := [.ref a, v]) (vs := [.ref a, y]) F sb.room sb.fr b hx I (.cons rfl (.cons ry .nil)) sp
    refine AzX.cmp_own sb.room.units0 I.kIn J (tyD_looks I w ry r2 hty) hn cc.m cc.fn (wpAny_mono one (fun r s' z => ?_) fun _ _ z => z)
    obtain ⟨r', H', J', rr, e, P', s2, w2⟩ := z
    subst e
    cases rr
    exact ⟨fun z => (by cases z), rfl, P', H', J', s2, w2⟩
  · exact h.elim
theorem eqw_int {c : String} {f : Addr} {ps : List Str} {fM : FM} (cc : CmC X.K (ca X.K c) "__eq__" f) (hs : PySem.W.subIn X.K (.ref (ca X.K c)) (.type "int") = some false) (D : DnM X.prog X.w X.K X.mg X.base T n f ps [] fM) (hx : Passes (L2.CX X.prog X.w) X E) : EqW X T n (inE c fM) := by
  obtain ⟨fd, F, b⟩ := D.b0
  refine ⟨fun A pins s σ H P φ μ x y d1 d2 u v sb I rx ry w r1 r2 h => ?_⟩
  unfold inE at h
  split at h
  · rename_i i c1 fs
    obtain ⟨rfl, h⟩ := h
    cases r1
    obtain ⟨a, dx, vs, rfl, ha⟩ := rep_ins w r2
    obtain ⟨t, rfl⟩ := rx
    cases (show v = Value.ref a from ry)
    obtain ⟨od, J⟩ := inst_of I ha
    have sp : spF X.K T fM [.ref a, .int i] H (fun r H' => r = .bl true ∧ ∃ P', Same P P' ∧ Wd X.K T P' μ φ H') E := ⟨P, μ, φ, _, fun d μ' => d = .bl true ∧ μ' = μ, fun _ _ _ => False, w, .cons r2 (.cons (.int i) .nil), fun d μ' ⟨e1, e2⟩ P' H' r s' w' rr => by
      subst e1 e2
      cases rr
      exact ⟨rfl, P', s', w'⟩, GoX.false, h _ _ _ ⟨rfl, rfl⟩⟩
    have one := run_in (us := [.ref a, .int i t]) (vs := [.ref a, .int i]) F sb.room sb.fr b hx I (.cons rfl (.cons ⟨t, rfl⟩ .nil)) sp
    have go : wpAny (model X.prog X.w) A (do truthOfDropped (← richCompare .Eq (.int i t) (.ref a))) (fun r s' => r = true ∧ ∃ P' H', Inv X pins σ H' s' ∧ Same P P' ∧ Wd X.K T P' μ φ H') X.xe s := by
      refine wpAny_bind (AzX.cmp_refl (op := .Eq) sb.room.units0 I.kIn J (fun p z => nomatch z) PySem.F.slot_int_eq PySem.F.entry_int_eq (PySem.F.args_int_eq_2 _ _) cc.m cc.fn hs (wpAny_mono one (fun r s' z => ?_) fun _ _ z => z))
      obtain ⟨r', H', J', rr, e, P', s2, w2⟩ := z
      subst e
      cases rr
      exact ⟨fun z => (by cases z), wpAny_truthy_bool ⟨rfl, P', H', J', s2, w2⟩⟩
    unfold eqBool
    refine wpAny_holding ?_
    exact wpAny_ite_split (fun hab => absurd (eq_of_beq hab) (fun z => (by cases z))) (fun _ => go)
  · exact h.elim
/-- two lists, two tuples, item by item: what the loops keep -/
theorem turnW (h : EqW X T n m) {A : Around} (sb : Sub X (n + 1) A) {pins : List (Addr × Obj)} {σ : L2.St} {P φ : Hp} {μ : MS} {as bs : List D} {xs ys : List V} {us ws : List Value} (p : AllD m as bs) (q1 : Reps X.K P xs as) (q2 : Reps X.K P ys bs) (r1 : Vals xs us) (r2 : Vals ys ws)
    (i : Nat) (h1 : i < us.toArray.size) (h2 : i < ws.toArray.size) (s' : Shared) (l : ∃ P' H', Inv X pins σ H' s' ∧ Same P P' ∧ Wd X.K T P' μ φ H') :
    wpAny (model X.prog X.w) A.in1 (eqBool us.toArray[i] ws.toArray[i]) (fun r s2 => r = true ∧ ∃ P' H', Inv X pins σ H' s2 ∧ Same P P' ∧ Wd X.K T P' μ φ H') X.xe s' := by
  obtain ⟨P1, H1, I1, s1, w1⟩ := l
  have k1 : i < us.length := by simpa using h1
  have k2 : i < ws.length := by simpa using h2
  have l1 : i < as.length := by rw [← q1.length, r1.length]; exact k1
  have l2 : i < bs.length := by rw [← q2.length, r2.length]; exact k2
  obtain ⟨x, ex, px⟩ := q1.get (List.getElem?_eq_getElem l1)
  obtain ⟨y, ey, py⟩ := q2.get (List.getElem?_eq_getElem l2)
  obtain ⟨u, eu, ru⟩ := r1.get ex
  obtain ⟨v, ev, rv⟩ := r2.get ey
  have g1 : us.toArray[i] = u := by
    have := List.getElem?_eq_getElem k1
    rw [eu] at this
    simpa using (Option.some.inj this).symm
  have g2 : ws.toArray[i] = v := by
    have := List.getElem?_eq_getElem k2
    rw [ev] at this
    simpa using (Option.some.inj this).symm
  rw [g1, g2]
  refine wpAny_mono (h.run A.in1 pins s' σ H1 P1 φ μ x y _ _ u v sb.in1 I1 ru rv w1 (px.mono s1) (py.mono s1) (p.at (List.getElem?_eq_getElem l1) (List.getElem?_eq_getElem l2))) (fun r s2 z => ?_) fun _ _ z => z
  obtain ⟨e, P2, H2, I2, s2', w2⟩ := z
  exact ⟨e, P2, H2, I2, s1.trans s2', w2⟩
def resB (op : CmpOp) : Bool := match op with
  | .Eq => true
  | _ => false
theorem rc_ls (h : EqW X T n m) {op : CmpOp} (ho : op = .Eq ∨ op = .NotEq) {A : Around} (sb : Sub X (n + 1) A) {pins : List (Addr × Obj)} {s : Shared} {σ : L2.St} {H P φ : Hp} {μ : MS} {x y : V} {as bs : List D} {u v : Value} (I : Inv X pins σ H s) (rx : RelV x u) (ry : RelV y v) (w : Wd X.K T P μ φ H) (r1 : Rep X.K P x (.lst as)) (r2 : Rep X.K P y (.lst bs)) (p : AllD m as bs) :
    wpAny (model X.prog X.w) A (richCompare op u v) (fun r s' => r = .bool (resB op) ∧ ∃ P' H', Inv X pins σ H' s' ∧ Same P P' ∧ Wd X.K T P' μ φ H') X.xe s := by
  cases r1 with
  | @lst a vs _ e1 q1 =>
    cases r2 with
    | @lst b ws _ e2 q2 =>
      cases rx
      cases ry
      have J : GQ.ListI X.prog X.w A X.xe a b vs.length (fun _ s' => ∃ P' H', Inv X pins σ H' s' ∧ Same P P' ∧ Wd X.K T P' μ φ H') := fun i s' q => by
        obtain ⟨P1, H1, I1, s1, w1⟩ := id q
        obtain ⟨_, us, k1, ra, o1⟩ := I1.hok a _ (w1.sub _ _ (s1 _ _ e1))
        obtain ⟨_, zs, k2, rb, o2⟩ := I1.hok b _ (w1.sub _ _ (s1 _ _ e2))
        exact ⟨us.toArray, zs.toArray, k1, k2, o1, o2, by rw [List.size_toArray, ← ra.length], by rw [List.size_toArray, ← rb.length, q2.length, ← p.len, ← q1.length], fun h1 h2 => turnW h sb p q1 q2 ra rb i h1 h2 s' q⟩
      rcases ho with rfl | rfl
      · exact GQ.rc_listG sb.room.units0 _ J (fun s' q => ⟨rfl, q⟩) ⟨P, H, I, Same.refl P, w⟩
      · exact Sq.ne_listC sb.room.units0 J (fun s' q => ⟨rfl, q⟩) ⟨P, H, I, Same.refl P, w⟩
theorem rc_tu (h : EqW X T n m) {op : CmpOp} (ho : op = .Eq ∨ op = .NotEq) {A : Around} (sb : Sub X (n + 1) A) {pins : List (Addr × Obj)} {s : Shared} {σ : L2.St} {H P φ : Hp} {μ : MS} {x y : V} {as bs : List D} {u v : Value} (I : Inv X pins σ H s) (rx : RelV x u) (ry : RelV y v) (w : Wd X.K T P μ φ H) (r1 : Rep X.K P x (.tup as)) (r2 : Rep X.K P y (.tup bs)) (p : AllD m as bs) :
    wpAny (model X.prog X.w) A (richCompare op u v) (fun r s' => r = .bool (resB op) ∧ ∃ P' H', Inv X pins σ H' s' ∧ Same P P' ∧ Wd X.K T P' μ φ H') X.xe s := by
  cases r1 with
  | @tup a vs _ e1 q1 =>
    cases r2 with
    | @tup b ws _ e2 q2 =>
      cases rx
      cases ry
      obtain ⟨us, ra, o1, _⟩ := I.tuple (TuA.sq w.sub e1)
      obtain ⟨zs, rb, o2, _⟩ := I.tuple (TuA.sq w.sub e2)
      have hz : us.toArray.size = zs.toArray.size := by rw [List.size_toArray, List.size_toArray, ← ra.length, ← rb.length, q1.length, q2.length]; exact p.len
      rcases ho with rfl | rfl
      · exact GQ.rc_tupG hz sb.room.units0 (fun _ s' => ∃ P' H', Inv X pins σ H' s' ∧ Same P P' ∧ Wd X.K T P' μ φ H') o1 o2 (fun i h1 h2 s' q => turnW h sb p q1 q2 ra rb i h1 h2 s' q) (fun s' q => ⟨rfl, q⟩) ⟨P, H, I, Same.refl P, w⟩
      · exact Sq.ne_tupC (J := fun _ s' => ∃ P' H', Inv X pins σ H' s' ∧ Same P P' ∧ Wd X.K T P' μ φ H') hz sb.room.units0 o1 o2 (fun i h1 h2 s' q => turnW h sb p q1 q2 ra rb i h1 h2 s' q) (fun s' q => ⟨rfl, q⟩) ⟨P, H, I, Same.refl P, w⟩
/-- a list or a tuple -/
def sqE (m : RelD) : RelD := orD (lsE m) (tuE m)
theorem rc_sq (h : EqW X T n m) {op : CmpOp} (ho : op = .Eq ∨ op = .NotEq) {A : Around} (sb : Sub X (n + 1) A) {pins : List (Addr × Obj)} {s : Shared} {σ : L2.St} {H P φ : Hp} {μ : MS} {x y : V} {d1 d2 : D} {u v : Value} (I : Inv X pins σ H s) (rx : RelV x u) (ry : RelV y v) (w : Wd X.K T P μ φ H) (r1 : Rep X.K P x d1) (r2 : Rep X.K P y d2) (p : sqE m d1 d2) :
    (∃ a, u = .ref a) ∧ wpAny (model X.prog X.w) A (richCompare op u v) (fun r s' => r = .bool (resB op) ∧ ∃ P' H', Inv X pins σ H' s' ∧ Same P P' ∧ Wd X.K T P' μ φ H') X.xe s := by
  rcases p with p | p
  · unfold lsE at p
    split at p
    · refine ⟨?_, rc_ls h ho sb I rx ry w r1 r2 p⟩
      cases r1; exact ⟨_, rx⟩
    · exact p.elim
  · unfold tuE at p
    split at p
    · refine ⟨?_, rc_tu h ho sb I rx ry w r1 r2 p⟩
      cases r1; exact ⟨_, rx⟩
    · exact p.elim
theorem eqw_sq (h : EqW X T n m) : EqW X T (n + 1) (sqE m) := ⟨fun A pins s σ H P φ μ x y d1 d2 u v sb I rx ry w r1 r2 p => by
  obtain ⟨⟨a, rfl⟩, z⟩ := rc_sq h (op := .Eq) (.inl rfl) sb I rx ry w r1 r2 p
  exact eqB_of ⟨P, H, I, Same.refl P, w⟩ z⟩
/-- == and != of what is equal item by item -/
def mEqW (m : RelD) : M2 := fun d1 d2 μ Q _ => sqE m d1 d2 ∧ Q (.bl true) μ
def mNeW (m : RelD) : M2 := fun d1 d2 μ Q _ => sqE m d1 d2 ∧ Q (.bl false) μ
theorem o_eqW (h : EqW X T n m) (hr : Room (n + 1) X.A) : OpM X T E (compareOp .Eq) (mEqW m) := OpM.of fun pins s σ H x y v u Q P μ φ d1 d2 Qm Xm I rx ry w r1 r2 gq gx ⟨hp, hq⟩ => by
  refine wpAny_mono (rc_sq h (op := .Eq) (.inl rfl) ⟨hr, rfl⟩ I rx ry w r1 r2 hp).2 (fun r s' z => ?_) fun _ _ z => z
  obtain ⟨rfl, P', H', I', s', w'⟩ := z
  exact ⟨.bl true, H', I', rfl, gq _ _ hq P' H' _ s' w' (.bl true)⟩
theorem o_neW (h : EqW X T n m) (hr : Room (n + 1) X.A) : OpM X T E (compareOp .NotEq) (mNeW m) := OpM.of fun pins s σ H x y v u Q P μ φ d1 d2 Qm Xm I rx ry w r1 r2 gq gx ⟨hp, hq⟩ => by
  refine wpAny_mono (rc_sq h (op := .NotEq) (.inr rfl) ⟨hr, rfl⟩ I rx ry w r1 r2 hp).2 (fun r s' z => ?_) fun _ _ z => z
  obtain ⟨rfl, P', H', I', s', w'⟩ := z
  exact ⟨.bl false, H', I', rfl, gq _ _ hq P' H' _ s' w' (.bl false)⟩
end
/-! ~x, an own object in an f-string -/
section
variable {X : Cx} {T : Tx} {E : XK} {k : Nat} {f C : Addr} {ps : List Str} {fM : FM} {c : String} {e : Expr} {me : FE} {pos : Pos}
theorem un_invO {fd : FuncData} {sp : Sp} (hm : PySem.W.findIn X.K (.ref C) "__invert__" = some (some (.ref f))) (hf : PySem.W.isFn X.K (.ref f) = true) (F : FnOk X.prog X.w X.K X.mg X.base (L2.CX X.prog X.w) k f fd ps sp) (hr : Room k X.A) (hb : Binds X.K fd ps []) (hx : Passes (L2.CX X.prog X.w) X E) : UnR X (unaryOp .Invert) (rOwnU C sp E) := by
  intro pins s σ H x v Q I rx h
  obtain ⟨a, dx, fs, rfl, ha, q⟩ := h
  cases (show v = Value.ref a from rx)
  obtain ⟨od, J⟩ := inst_of I ha
  have one := run_fn (dvs := []) (us := [.ref a]) (vs := [.ref a]) F hr hb .nil hx I (.cons rfl .nil) q
  unfold unaryOp
  exact wpAny_holding (wpAny_bind (PySem.W.special_fn I.kIn J hm (beq_iff_eq.mp hf) (wpAny_mono one (fun _ _ z => wpAny_pure z) fun _ _ z => z)))
theorem inv_own (cc : CmC X.K (ca X.K c) "__invert__" f) (D : DnM X.prog X.w X.K X.mg X.base T k f ps [] fM) (hr : Room k X.A) (hx : Passes (L2.CX X.prog X.w) X E) : UnM X T E (unaryOp .Invert) (mOwnU c fM) := by
  obtain ⟨fd, F, b⟩ := D.b0
  refine ⟨_, un_invO cc.m cc.fn F hr b hx, fun P μ φ H x d1 Qm Xm Q w r1 gq gx h => ?_⟩
  unfold mOwnU at h
  split at h
  · rename_i c' fs
    obtain ⟨rfl, h⟩ := h
    obtain ⟨a, dx, vs, rfl, ha⟩ := rep_ins w r1
    exact ⟨a, dx, vs, rfl, ha, P, μ, φ, _, Qm, Xm, w, .cons r1 .nil, gq, gx, h⟩
  · exact h.elim
/-- what format() of an instance leans on -/
structure FmC (K : PySem.W.Frag) (C : Addr) : Prop where
  fm : PySem.W.findIn K (.ref C) "__format__" = some (some (.builtin "object.__format__"))
  ob : PySem.W.mroIn K C (.type "object") = some true
def fmB (K : PySem.W.Frag) (x : Str) : Bool := decide (PySem.W.findIn K (.ref (ga K x)) "__format__" = some (some (.builtin "object.__format__"))) && decide (PySem.W.mroIn K (ga K x) (.type "object") = some true)
theorem fmB_ok {K : PySem.W.Frag} {c : String} (h : fmB K (c : Str) = true) : FmC K (ca K c) := by
  obtain ⟨h1, h2⟩ := ba h
  exact ⟨of_decide_eq_true h1, of_decide_eq_true h2⟩
def mFmtO (c : String) (fM : FM) (me : FE) : FE := fun ρ μ Q Xm => me ρ μ (fun d μ1 => match d with
  | .ins c' fs => c' = c ∧ fM [.ins c' fs] μ1 (kStrM Q) Xm
  | _ => False) Xm
theorem pm_fmtO (fc : FmC X.K (ca X.K c)) (cc : CmC X.K (ca X.K c) "__str__" f) (D : DnM X.prog X.w X.K X.mg X.base T k f ps [] fM) (hr : Room (k + 2) X.A) (hx : Passes (L2.CX X.prog X.w) X E) (he : PM X T E e me) : PM X T E (.FormattedValue e (-1) none pos) (mFmtO c fM me) := by
  obtain ⟨fd, F, b⟩ := D.b0
  refine ⟨fun pins s σ H Q I ⟨P, μ, φ, ρ, Qm, Xm, w, re, gq, gx, h⟩ => ?_⟩
  refine wpAny_FormattedValue_plain (thn (he.run pins s σ H (fun v H1 => ∃ a dx fs, v = .ref a ∧ H1 a = some (.ins (ca X.K c) dx fs) ∧ spF X.K T fM [.ref a] H1 (kStr fun z H' => Q (.str z) H') E) I ⟨P, μ, φ, ρ, _, Xm, w, re, fun d μ1 h1 P1 H1 v s1 w1 r1 => ?g1, gx, h⟩) fun u s1 ⟨v, H1, I1, rx, a, dx, fs, ex, ha, q⟩ => ?g2)
  case g1 =>
    split at h1
    · rename_i c' fs
      obtain ⟨rfl, h1⟩ := h1
      obtain ⟨a, dx, vs, rfl, ha⟩ := rep_ins w1 r1
      refine ⟨a, dx, vs, rfl, ha, P1, μ1, φ, _, _, Xm, w1, .cons r1 .nil, fun d μ' h P' H' v s w r => ?_, gx.mono s1, h1⟩
      unfold kStrM at h
      split at h
      · cases r; exact ⟨_, rfl, gq _ _ h P' H' _ (s1.trans s) w (.str _)⟩
      · exact h.elim
    · exact h1.elim
  case g2 =>
    subst ex
    obtain rfl : u = Value.ref a := rx
    obtain ⟨od, J⟩ := inst_of I1 ha
    have hu : X.A.in1.units < cLine := by have := hr.un; show X.A.units + 1 < _; omega
    have I2 := I1.tok (s1.toks + 1)
    refine PySem.W.kfo_fieldS hu I1.kIn J fc.fm fc.ob cc.m cc.fn (wpAny_mono (run_in (A := X.A.in1) (us := [.ref a]) (vs := [.ref a]) F (hr.mono (Nat.le_succ _)).in1 rfl b hx I2 (.cons rfl .nil) q) (fun u s' z => ?_) fun _ _ z => z)
    obtain ⟨x, H', J', r, z, rfl, q⟩ := z
    obtain ⟨t, rfl⟩ := r
    exact ⟨.str z, H', J', ⟨t, rfl⟩, q⟩
end
end Mz

namespace Az
open PySem PySem.Spec PyProof.Rows L2 He Hz
def top (i : Nat) : Stmt := PySem.Challenge.pw_allzooms_k09_whole_roundings_rise_and_co.main.body.getD i (.Pass ⟨0, 0, 0, 0⟩)
abbrev s__law_pen : Stmt := top 25
theorem sc__law_pen : FnScope ["_law_script"] ["_law_script"] (defScope s__law_pen) := ⟨rfl, rfl, rfl, by decide +kernel, rfl, by decide +kernel, by decide +kernel⟩
abbrev d__law_pen : DefZ := ⟨.g "_law_pen", "_law_pen", "_law_pen", s__law_pen, [], false⟩
abbrev a__law_pen (K : PySem.W.Frag) : Addr := (d__law_pen).at_.ad K
abbrev s__law_draw : Stmt := top 26
theorem sc__law_draw : FnScope ["_law_pen_here", "_law_many", "_law_digit", "_law_lap", "_law_cell", "_law_great", "_law_stir"] ["_law_pen_here", "_law_many"] (defScope s__law_draw) := ⟨rfl, rfl, rfl, by decide +kernel, rfl, by decide +kernel, by decide +kernel⟩
abbrev d__law_draw : DefZ := ⟨.g "_law_draw", "_law_draw", "_law_draw", s__law_draw, [], false⟩
abbrev a__law_draw (K : PySem.W.Frag) : Addr := (d__law_draw).at_.ad K
abbrev s__law_pick : Stmt := top 27
theorem sc__law_pick : FnScope ["_law_pen_here", "_law_some"] ["_law_pen_here", "_law_some"] (defScope s__law_pick) := ⟨rfl, rfl, rfl, by decide +kernel, rfl, by decide +kernel, by decide +kernel⟩
abbrev d__law_pick : DefZ := ⟨.g "_law_pick", "_law_pick", "_law_pick", s__law_pick, [], false⟩
abbrev a__law_pick (K : PySem.W.Frag) : Addr := (d__law_pick).at_.ad K
abbrev s__law_frac : Stmt := top 28
theorem sc__law_frac : FnScope ["_law_over", "_law_under", "_law_one", "_law_other", "_law_sign"] ["_law_over", "_law_under"] (defScope s__law_frac) := ⟨rfl, rfl, rfl, by decide +kernel, rfl, by decide +kernel, by decide +kernel⟩
abbrev d__law_frac : DefZ := ⟨.g "_law_frac", "_law_frac", "_law_frac", s__law_frac, [], false⟩
abbrev a__law_frac (K : PySem.W.Frag) : Addr := (d__law_frac).at_.ad K
abbrev s__law_number : Stmt := top 36
theorem sc__law_number : FnScope ["_law_pen_here", "_law_over"] ["_law_pen_here"] (defScope s__law_number) := ⟨rfl, rfl, rfl, by decide +kernel, rfl, by decide +kernel, by decide +kernel⟩
abbrev d__law_number : DefZ := ⟨.g "_law_number", "_law_number", "_law_number", s__law_number, [], false⟩
abbrev a__law_number (K : PySem.W.Frag) : Addr := (d__law_number).at_.ad K
abbrev s__law_kind : Stmt := top 33
theorem sc__law_kind : FnScope ["_law_pen_here", "_law_some"] ["_law_pen_here"] (defScope s__law_kind) := ⟨rfl, rfl, rfl, by decide +kernel, rfl, by decide +kernel, by decide +kernel⟩
abbrev d__law_kind : DefZ := ⟨.g "_law_kind", "_law_kind", "_law_kind", s__law_kind, [], false⟩
abbrev a__law_kind (K : PySem.W.Frag) : Addr := (d__law_kind).at_.ad K
abbrev s_is_integer : Stmt := top 12
theorem sc_is_integer : FnScope ["value"] ["value"] (defScope s_is_integer) := ⟨rfl, rfl, rfl, by decide +kernel, rfl, by decide +kernel, by decide +kernel⟩
abbrev d_is_integer : DefZ := ⟨.g "is_integer", "is_integer", "is_integer", s_is_integer, [], false⟩
abbrev a_is_integer (K : PySem.W.Frag) : Addr := (d_is_integer).at_.ad K
abbrev s_divisor : Stmt := top 13
theorem sc_divisor : FnScope ["one", "other", "first", "second"] ["one", "other"] (defScope s_divisor) := ⟨rfl, rfl, rfl, by decide +kernel, rfl, by decide +kernel, by decide +kernel⟩
abbrev d_divisor : DefZ := ⟨.g "divisor", "divisor", "divisor", s_divisor, [], false⟩
abbrev a_divisor (K : PySem.W.Frag) : Addr := (d_divisor).at_.ad K
abbrev s_Ratio___init__ : Stmt := inClass (top 15) 0
theorem sc_Ratio___init__ : FnScope ["self", "over", "under", "shared"] ["self", "over", "under"] (defScope s_Ratio___init__) := ⟨rfl, rfl, rfl, by decide +kernel, rfl, by decide +kernel, by decide +kernel⟩
abbrev d_Ratio___init__ : DefZ := ⟨.m "Ratio" "__init__", "__init__", "Ratio.__init__", s_Ratio___init__, [.int (1)], false⟩
abbrev a_Ratio___init__ (K : PySem.W.Frag) : Addr := (d_Ratio___init__).at_.ad K
abbrev s_is_number : Stmt := top 14
theorem sc_is_number : FnScope ["value"] ["value"] (defScope s_is_number) := ⟨rfl, rfl, rfl, by decide +kernel, rfl, by decide +kernel, by decide +kernel⟩
abbrev d_is_number : DefZ := ⟨.g "is_number", "is_number", "is_number", s_is_number, [], false⟩
abbrev a_is_number (K : PySem.W.Frag) : Addr := (d_is_number).at_.ad K
abbrev s_Ratio_of : Stmt := inClass (top 15) 2
theorem sc_Ratio_of : FnScope ["value"] ["value"] (defScope s_Ratio_of) := ⟨rfl, rfl, rfl, by decide +kernel, rfl, by decide +kernel, by decide +kernel⟩
abbrev d_Ratio_of : DefZ := ⟨.s "Ratio" "of", "of", "Ratio.of", s_Ratio_of, [], false⟩
abbrev a_Ratio_of (K : PySem.W.Frag) : Addr := (d_Ratio_of).at_.ad K
abbrev s_Ratio___lt__ : Stmt := inClass (top 15) 18
theorem sc_Ratio___lt__ : FnScope ["self", "other", "there"] ["self", "other"] (defScope s_Ratio___lt__) := ⟨rfl, rfl, rfl, by decide +kernel, rfl, by decide +kernel, by decide +kernel⟩
abbrev d_Ratio___lt__ : DefZ := ⟨.m "Ratio" "__lt__", "__lt__", "Ratio.__lt__", s_Ratio___lt__, [], false⟩
abbrev a_Ratio___lt__ (K : PySem.W.Frag) : Addr := (d_Ratio___lt__).at_.ad K
abbrev s_Ratio___ge__ : Stmt := inClass (top 15) 21
theorem sc_Ratio___ge__ : FnScope ["self", "other"] ["self", "other"] (defScope s_Ratio___ge__) := ⟨rfl, rfl, rfl, by decide +kernel, rfl, by decide +kernel, by decide +kernel⟩
abbrev d_Ratio___ge__ : DefZ := ⟨.m "Ratio" "__ge__", "__ge__", "Ratio.__ge__", s_Ratio___ge__, [], false⟩
abbrev a_Ratio___ge__ (K : PySem.W.Frag) : Addr := (d_Ratio___ge__).at_.ad K
abbrev s_Ratio___gt__ : Stmt := inClass (top 15) 20
theorem sc_Ratio___gt__ : FnScope ["self", "other", "there"] ["self", "other"] (defScope s_Ratio___gt__) := ⟨rfl, rfl, rfl, by decide +kernel, rfl, by decide +kernel, by decide +kernel⟩
abbrev d_Ratio___gt__ : DefZ := ⟨.m "Ratio" "__gt__", "__gt__", "Ratio.__gt__", s_Ratio___gt__, [], false⟩
abbrev a_Ratio___gt__ (K : PySem.W.Frag) : Addr := (d_Ratio___gt__).at_.ad K
abbrev s_Ratio___le__ : Stmt := inClass (top 15) 19
theorem sc_Ratio___le__ : FnScope ["self", "other"] ["self", "other"] (defScope s_Ratio___le__) := ⟨rfl, rfl, rfl, by decide +kernel, rfl, by decide +kernel, by decide +kernel⟩
abbrev d_Ratio___le__ : DefZ := ⟨.m "Ratio" "__le__", "__le__", "Ratio.__le__", s_Ratio___le__, [], false⟩
abbrev a_Ratio___le__ (K : PySem.W.Frag) : Addr := (d_Ratio___le__).at_.ad K
abbrev s_is_same : Stmt := top 16
theorem sc_is_same : FnScope ["one", "other"] ["one", "other"] (defScope s_is_same) := ⟨rfl, rfl, rfl, by decide +kernel, rfl, by decide +kernel, by decide +kernel⟩
abbrev d_is_same : DefZ := ⟨.g "is_same", "is_same", "is_same", s_is_same, [], false⟩
abbrev a_is_same (K : PySem.W.Frag) : Addr := (d_is_same).at_.ad K
abbrev s_Ratio___eq__ : Stmt := inClass (top 15) 22
theorem sc_Ratio___eq__ : FnScope ["self", "other"] ["self", "other"] (defScope s_Ratio___eq__) := ⟨rfl, rfl, rfl, by decide +kernel, rfl, by decide +kernel, by decide +kernel⟩
abbrev d_Ratio___eq__ : DefZ := ⟨.m "Ratio" "__eq__", "__eq__", "Ratio.__eq__", s_Ratio___eq__, [], false⟩
abbrev a_Ratio___eq__ (K : PySem.W.Frag) : Addr := (d_Ratio___eq__).at_.ad K
abbrev s_Ratio___bool__ : Stmt := inClass (top 15) 23
theorem sc_Ratio___bool__ : FnScope ["self"] ["self"] (defScope s_Ratio___bool__) := ⟨rfl, rfl, rfl, by decide +kernel, rfl, by decide +kernel, by decide +kernel⟩
abbrev d_Ratio___bool__ : DefZ := ⟨.m "Ratio" "__bool__", "__bool__", "Ratio.__bool__", s_Ratio___bool__, [], false⟩
abbrev a_Ratio___bool__ (K : PySem.W.Frag) : Addr := (d_Ratio___bool__).at_.ad K
abbrev s_Rounding___init__ : Stmt := inClass (top 21) 0
theorem sc_Rounding___init__ : FnScope ["self", "threshold", "is_from"] ["self", "threshold", "is_from"] (defScope s_Rounding___init__) := ⟨rfl, rfl, rfl, by decide +kernel, rfl, by decide +kernel, by decide +kernel⟩
abbrev d_Rounding___init__ : DefZ := ⟨.m "Rounding" "__init__", "__init__", "Rounding.__init__", s_Rounding___init__, [.bl true], false⟩
abbrev a_Rounding___init__ (K : PySem.W.Frag) : Addr := (d_Rounding___init__).at_.ad K
abbrev s__law_rounding : Stmt := top 34
theorem sc__law_rounding : FnScope ["_law_kind_here"] ["_law_kind_here"] (defScope s__law_rounding) := ⟨rfl, rfl, rfl, by decide +kernel, rfl, by decide +kernel, by decide +kernel⟩
abbrev d__law_rounding : DefZ := ⟨.g "_law_rounding", "_law_rounding", "_law_rounding", s__law_rounding, [], false⟩
abbrev a__law_rounding (K : PySem.W.Frag) : Addr := (d__law_rounding).at_.ad K
abbrev s_Ratio___add__ : Stmt := inClass (top 15) 6
theorem sc_Ratio___add__ : FnScope ["self", "other", "there"] ["self", "other"] (defScope s_Ratio___add__) := ⟨rfl, rfl, rfl, by decide +kernel, rfl, by decide +kernel, by decide +kernel⟩
abbrev d_Ratio___add__ : DefZ := ⟨.m "Ratio" "__add__", "__add__", "Ratio.__add__", s_Ratio___add__, [], false⟩
abbrev a_Ratio___add__ (K : PySem.W.Frag) : Addr := (d_Ratio___add__).at_.ad K
abbrev s_need_number : Stmt := top 22
theorem sc_need_number : FnScope ["value"] ["value"] (defScope s_need_number) := ⟨rfl, rfl, rfl, by decide +kernel, rfl, by decide +kernel, by decide +kernel⟩
abbrev d_need_number : DefZ := ⟨.g "need_number", "need_number", "need_number", s_need_number, [], false⟩
abbrev a_need_number (K : PySem.W.Frag) : Addr := (d_need_number).at_.ad K
abbrev s_Rounding_stepped : Stmt := inClass (top 21) 7
theorem sc_Rounding_stepped : FnScope ["self", "over", "under", "rest", "limit"] ["self", "over", "under"] (defScope s_Rounding_stepped) := ⟨rfl, rfl, rfl, by decide +kernel, rfl, by decide +kernel, by decide +kernel⟩
abbrev d_Rounding_stepped : DefZ := ⟨.m "Rounding" "stepped", "stepped", "Rounding.stepped", s_Rounding_stepped, [], false⟩
abbrev a_Rounding_stepped (K : PySem.W.Frag) : Addr := (d_Rounding_stepped).at_.ad K
abbrev s_Rounding___call__ : Stmt := inClass (top 21) 6
theorem sc_Rounding___call__ : FnScope ["self", "number", "told"] ["self", "number"] (defScope s_Rounding___call__) := ⟨rfl, rfl, rfl, by decide +kernel, rfl, by decide +kernel, by decide +kernel⟩
abbrev d_Rounding___call__ : DefZ := ⟨.m "Rounding" "__call__", "__call__", "Rounding.__call__", s_Rounding___call__, [], false⟩
abbrev a_Rounding___call__ (K : PySem.W.Frag) : Addr := (d_Rounding___call__).at_.ad K
abbrev s_Ratio___neg__ : Stmt := inClass (top 15) 12
theorem sc_Ratio___neg__ : FnScope ["self"] ["self"] (defScope s_Ratio___neg__) := ⟨rfl, rfl, rfl, by decide +kernel, rfl, by decide +kernel, by decide +kernel⟩
abbrev d_Ratio___neg__ : DefZ := ⟨.m "Ratio" "__neg__", "__neg__", "Ratio.__neg__", s_Ratio___neg__, [], false⟩
abbrev a_Ratio___neg__ (K : PySem.W.Frag) : Addr := (d_Ratio___neg__).at_.ad K
abbrev s_Ratio___sub__ : Stmt := inClass (top 15) 8
theorem sc_Ratio___sub__ : FnScope ["self", "other"] ["self", "other"] (defScope s_Ratio___sub__) := ⟨rfl, rfl, rfl, by decide +kernel, rfl, by decide +kernel, by decide +kernel⟩
abbrev d_Ratio___sub__ : DefZ := ⟨.m "Ratio" "__sub__", "__sub__", "Ratio.__sub__", s_Ratio___sub__, [], false⟩
abbrev a_Ratio___sub__ (K : PySem.W.Frag) : Addr := (d_Ratio___sub__).at_.ad K
abbrev s_Ratio_divided : Stmt := inClass (top 15) 13
theorem sc_Ratio_divided : FnScope ["self", "other", "there"] ["self", "other"] (defScope s_Ratio_divided) := ⟨rfl, rfl, rfl, by decide +kernel, rfl, by decide +kernel, by decide +kernel⟩
abbrev d_Ratio_divided : DefZ := ⟨.m "Ratio" "divided", "divided", "Ratio.divided", s_Ratio_divided, [], false⟩
abbrev a_Ratio_divided (K : PySem.W.Frag) : Addr := (d_Ratio_divided).at_.ad K
abbrev s_Ratio_floor : Stmt := inClass (top 15) 24
theorem sc_Ratio_floor : FnScope ["self"] ["self"] (defScope s_Ratio_floor) := ⟨rfl, rfl, rfl, by decide +kernel, rfl, by decide +kernel, by decide +kernel⟩
abbrev d_Ratio_floor : DefZ := ⟨.m "Ratio" "floor", "floor", "Ratio.floor", s_Ratio_floor, [], false⟩
abbrev a_Ratio_floor (K : PySem.W.Frag) : Addr := (d_Ratio_floor).at_.ad K
abbrev s_Ratio___floordiv__ : Stmt := inClass (top 15) 14
theorem sc_Ratio___floordiv__ : FnScope ["self", "other"] ["self", "other"] (defScope s_Ratio___floordiv__) := ⟨rfl, rfl, rfl, by decide +kernel, rfl, by decide +kernel, by decide +kernel⟩
abbrev d_Ratio___floordiv__ : DefZ := ⟨.m "Ratio" "__floordiv__", "__floordiv__", "Ratio.__floordiv__", s_Ratio___floordiv__, [], false⟩
abbrev a_Ratio___floordiv__ (K : PySem.W.Frag) : Addr := (d_Ratio___floordiv__).at_.ad K
abbrev s_Ratio___mul__ : Stmt := inClass (top 15) 10
theorem sc_Ratio___mul__ : FnScope ["self", "other", "there"] ["self", "other"] (defScope s_Ratio___mul__) := ⟨rfl, rfl, rfl, by decide +kernel, rfl, by decide +kernel, by decide +kernel⟩
abbrev d_Ratio___mul__ : DefZ := ⟨.m "Ratio" "__mul__", "__mul__", "Ratio.__mul__", s_Ratio___mul__, [], false⟩
abbrev a_Ratio___mul__ (K : PySem.W.Frag) : Addr := (d_Ratio___mul__).at_.ad K
abbrev s_Ratio___mod__ : Stmt := inClass (top 15) 16
theorem sc_Ratio___mod__ : FnScope ["self", "other"] ["self", "other"] (defScope s_Ratio___mod__) := ⟨rfl, rfl, rfl, by decide +kernel, rfl, by decide +kernel, by decide +kernel⟩
abbrev d_Ratio___mod__ : DefZ := ⟨.m "Ratio" "__mod__", "__mod__", "Ratio.__mod__", s_Ratio___mod__, [], false⟩
abbrev a_Ratio___mod__ (K : PySem.W.Frag) : Addr := (d_Ratio___mod__).at_.ad K
abbrev s_Rounding_is_step : Stmt := inClass (top 21) 8
theorem sc_Rounding_is_step : FnScope ["self", "number"] ["self", "number"] (defScope s_Rounding_is_step) := ⟨rfl, rfl, rfl, by decide +kernel, rfl, by decide +kernel, by decide +kernel⟩
abbrev d_Rounding_is_step : DefZ := ⟨.m "Rounding" "is_step", "is_step", "Rounding.is_step", s_Rounding_is_step, [], false⟩
abbrev a_Rounding_is_step (K : PySem.W.Frag) : Addr := (d_Rounding_is_step).at_.ad K
abbrev s_Rounding_behind : Stmt := inClass (top 21) 10
theorem sc_Rounding_behind : FnScope ["self", "number"] ["self", "number"] (defScope s_Rounding_behind) := ⟨rfl, rfl, rfl, by decide +kernel, rfl, by decide +kernel, by decide +kernel⟩
abbrev d_Rounding_behind : DefZ := ⟨.m "Rounding" "behind", "behind", "Rounding.behind", s_Rounding_behind, [], false⟩
abbrev a_Rounding_behind (K : PySem.W.Frag) : Addr := (d_Rounding_behind).at_.ad K
abbrev s_Rounding_before : Stmt := inClass (top 21) 9
theorem sc_Rounding_before : FnScope ["self", "number"] ["self", "number"] (defScope s_Rounding_before) := ⟨rfl, rfl, rfl, by decide +kernel, rfl, by decide +kernel, by decide +kernel⟩
abbrev d_Rounding_before : DefZ := ⟨.m "Rounding" "before", "before", "Rounding.before", s_Rounding_before, [], false⟩
abbrev a_Rounding_before (K : PySem.W.Frag) : Addr := (d_Rounding_before).at_.ad K
abbrev s_Rounding_places : Stmt := inClass (top 21) 11
theorem sc_Rounding_places : FnScope ["self", "pixel"] ["self", "pixel"] (defScope s_Rounding_places) := ⟨rfl, rfl, rfl, by decide +kernel, rfl, by decide +kernel, by decide +kernel⟩
abbrev d_Rounding_places : DefZ := ⟨.m "Rounding" "places", "places", "Rounding.places", s_Rounding_places, [], false⟩
abbrev a_Rounding_places (K : PySem.W.Frag) : Addr := (d_Rounding_places).at_.ad K
abbrev s__law_right : Stmt := top 37
theorem sc__law_right : FnScope ["_law_pen_here", "_law_kind_here", "_law_number_here", "_law_other", "_law_rounding_here", "_law_one", "_law_two", "_law_many", "_law_three", "_law_pixel", "_law_low", "_law_is_low", "_law_high", "_law_is_high", "_law_n", "_law_gap"] ["_law_pen_here"] (defScope s__law_right) := ⟨rfl, rfl, rfl, by decide +kernel, rfl, by decide +kernel, by decide +kernel⟩
abbrev d__law_right : DefZ := ⟨.g "_law_right", "_law_right", "_law_right", s__law_right, [], false⟩
abbrev a__law_right (K : PySem.W.Frag) : Addr := (d__law_right).at_.ad K
abbrev s_law : Stmt := top 38
theorem sc_law : FnScope ["_law_script", "_law_pen_here", "_law_turn"] ["_law_script"] (defScope s_law) := ⟨rfl, rfl, rfl, by decide +kernel, rfl, by decide +kernel, by decide +kernel⟩
abbrev d_law : DefZ := ⟨.g "law", "law", "law", s_law, [], false⟩
abbrev a_law (K : PySem.W.Frag) : Addr := (d_law).at_.ad K
abbrev s_BadRatio___init__ : Stmt := inClass (top 3) 0
abbrev d_BadRatio___init__ : DefZ := ⟨.m "BadRatio" "__init__", "__init__", "BadRatio.__init__", s_BadRatio___init__, [], true⟩
abbrev a_BadRatio___init__ (K : PySem.W.Frag) : Addr := (d_BadRatio___init__).at_.ad K
abbrev s_BadRounding___init__ : Stmt := inClass (top 4) 0
abbrev d_BadRounding___init__ : DefZ := ⟨.m "BadRounding" "__init__", "__init__", "BadRounding.__init__", s_BadRounding___init__, [], true⟩
abbrev a_BadRounding___init__ (K : PySem.W.Frag) : Addr := (d_BadRounding___init__).at_.ad K
abbrev s_BadNumber___init__ : Stmt := inClass (top 5) 0
abbrev d_BadNumber___init__ : DefZ := ⟨.m "BadNumber" "__init__", "__init__", "BadNumber.__init__", s_BadNumber___init__, [], true⟩
abbrev a_BadNumber___init__ (K : PySem.W.Frag) : Addr := (d_BadNumber___init__).at_.ad K
abbrev s_Ratio___radd__ : Stmt := inClass (top 15) 7
theorem sc_Ratio___radd__ : FnScope ["self", "other"] ["self", "other"] (defScope s_Ratio___radd__) := ⟨rfl, rfl, rfl, by decide +kernel, rfl, by decide +kernel, by decide +kernel⟩
abbrev d_Ratio___radd__ : DefZ := ⟨.m "Ratio" "__radd__", "__radd__", "Ratio.__radd__", s_Ratio___radd__, [], false⟩
abbrev a_Ratio___radd__ (K : PySem.W.Frag) : Addr := (d_Ratio___radd__).at_.ad K
abbrev s_Ratio___rfloordiv__ : Stmt := inClass (top 15) 15
theorem sc_Ratio___rfloordiv__ : FnScope ["self", "other"] ["self", "other"] (defScope s_Ratio___rfloordiv__) := ⟨rfl, rfl, rfl, by decide +kernel, rfl, by decide +kernel, by decide +kernel⟩
abbrev d_Ratio___rfloordiv__ : DefZ := ⟨.m "Ratio" "__rfloordiv__", "__rfloordiv__", "Ratio.__rfloordiv__", s_Ratio___rfloordiv__, [], false⟩
abbrev a_Ratio___rfloordiv__ (K : PySem.W.Frag) : Addr := (d_Ratio___rfloordiv__).at_.ad K
abbrev s_Ratio___rmul__ : Stmt := inClass (top 15) 11
theorem sc_Ratio___rmul__ : FnScope ["self", "other"] ["self", "other"] (defScope s_Ratio___rmul__) := ⟨rfl, rfl, rfl, by decide +kernel, rfl, by decide +kernel, by decide +kernel⟩
abbrev d_Ratio___rmul__ : DefZ := ⟨.m "Ratio" "__rmul__", "__rmul__", "Ratio.__rmul__", s_Ratio___rmul__, [], false⟩
abbrev a_Ratio___rmul__ (K : PySem.W.Frag) : Addr := (d_Ratio___rmul__).at_.ad K
abbrev s_Ratio___rsub__ : Stmt := inClass (top 15) 9
theorem sc_Ratio___rsub__ : FnScope ["self", "other"] ["self", "other"] (defScope s_Ratio___rsub__) := ⟨rfl, rfl, rfl, by decide +kernel, rfl, by decide +kernel, by decide +kernel⟩
abbrev d_Ratio___rsub__ : DefZ := ⟨.m "Ratio" "__rsub__", "__rsub__", "Ratio.__rsub__", s_Ratio___rsub__, [], false⟩
abbrev a_Ratio___rsub__ (K : PySem.W.Frag) : Addr := (d_Ratio___rsub__).at_.ad K
abbrev s_Ratio___rmod__ : Stmt := inClass (top 15) 17
theorem sc_Ratio___rmod__ : FnScope ["self", "other"] ["self", "other"] (defScope s_Ratio___rmod__) := ⟨rfl, rfl, rfl, by decide +kernel, rfl, by decide +kernel, by decide +kernel⟩
abbrev d_Ratio___rmod__ : DefZ := ⟨.m "Ratio" "__rmod__", "__rmod__", "Ratio.__rmod__", s_Ratio___rmod__, [], false⟩
abbrev a_Ratio___rmod__ (K : PySem.W.Frag) : Addr := (d_Ratio___rmod__).at_.ad K
/-- the module's names -/
structure MT (mg : Str → Option Value) (K : PySem.W.Frag) : Prop where
  g__wall : mg "_wall" = some (.ref (ga K "_wall"))
  g_SnapError : mg "SnapError" = some (.ref (ga K "SnapError"))
  g_BadRatio : mg "BadRatio" = some (.ref (ga K "BadRatio"))
  g_BadRounding : mg "BadRounding" = some (.ref (ga K "BadRounding"))
  g_BadNumber : mg "BadNumber" = some (.ref (ga K "BadNumber"))
  g_BadText : mg "BadText" = some (.ref (ga K "BadText"))
  g_integer_in : mg "integer_in" = some (.ref (ga K "integer_in"))
  g_Words : mg "Words" = some (.ref (ga K "Words"))
  g_is_integer : mg "is_integer" = some (.ref (ga K "is_integer"))
  g_divisor : mg "divisor" = some (.ref (ga K "divisor"))
  g_is_number : mg "is_number" = some (.ref (ga K "is_number"))
  g_Ratio : mg "Ratio" = some (.ref (ga K "Ratio"))
  g_is_same : mg "is_same" = some (.ref (ga K "is_same"))
  g_some_numbers : mg "some_numbers" = some (.ref (ga K "some_numbers"))
  g_ratio_in : mg "ratio_in" = some (.ref (ga K "ratio_in"))
  g_take_ratio : mg "take_ratio" = some (.ref (ga K "take_ratio"))
  g_Rounding : mg "Rounding" = some (.ref (ga K "Rounding"))
  g_need_number : mg "need_number" = some (.ref (ga K "need_number"))
  g_take_rounding : mg "take_rounding" = some (.ref (ga K "take_rounding"))
  g__law_pen : mg "_law_pen" = some (.ref (ga K "_law_pen"))
  g__law_draw : mg "_law_draw" = some (.ref (ga K "_law_draw"))
  g__law_pick : mg "_law_pick" = some (.ref (ga K "_law_pick"))
  g__law_frac : mg "_law_frac" = some (.ref (ga K "_law_frac"))
  g__law_plus : mg "_law_plus" = some (.ref (ga K "_law_plus"))
  g__law_times : mg "_law_times" = some (.ref (ga K "_law_times"))
  g__law_less : mg "_law_less" = some (.ref (ga K "_law_less"))
  g__law_ratio : mg "_law_ratio" = some (.ref (ga K "_law_ratio"))
  g__law_kind : mg "_law_kind" = some (.ref (ga K "_law_kind"))
  g__law_rounding : mg "_law_rounding" = some (.ref (ga K "_law_rounding"))
  g__law_round : mg "_law_round" = some (.ref (ga K "_law_round"))
  g__law_number : mg "_law_number" = some (.ref (ga K "_law_number"))
  g__law_right : mg "_law_right" = some (.ref (ga K "_law_right"))
  g_law : mg "law" = some (.ref (ga K "law"))
  f_ValueError : mg "ValueError" = none
  f_abs : mg "abs" = none
  f_all : mg "all" = none
  f_bool : mg "bool" = none
  f_classmethod : mg "classmethod" = none
  f_int : mg "int" = none
  f_isinstance : mg "isinstance" = none
  f_len : mg "len" = none
  f_list : mg "list" = none
  f_property : mg "property" = none
  f_range : mg "range" = none
  f_sorted : mg "sorted" = none
  f_staticmethod : mg "staticmethod" = none
  f_str : mg "str" = none
  f_super : mg "super" = none
  f_tuple : mg "tuple" = none
end Az

namespace Mz
open PySem PySem.Spec PyProof.Rows L2 AzX ClX LamX Hz He Az

/-- what the top says -/
structure Zf (P : Program) (w : World) (K : PySem.W.Frag) (mg : Str → Option Value) : Prop where
  kit_NoneType_int : PySem.W.kitOne K (.type "NoneType") (.type "int") = some false
  kit_bool_int : PySem.W.kitOne K (.type "bool") (.type "int") = some true
  kit_dict_int : PySem.W.kitOne K (.type "dict") (.type "int") = some false
  kit_int_int : PySem.W.kitOne K (.type "int") (.type "int") = some true
  kit_list_int : PySem.W.kitOne K (.type "list") (.type "int") = some false
  kit_str_int : PySem.W.kitOne K (.type "str") (.type "int") = some false
  kit_tuple_int : PySem.W.kitOne K (.type "tuple") (.type "int") = some false
  cls_Words : ClsT K "Words"
  kit_Words_int : PySem.W.kitOne K (.ref (ca K "Words")) (.type "int") = some false
  cls_Ratio : ClsT K "Ratio"
  kit_Ratio_int : PySem.W.kitOne K (.ref (ca K "Ratio")) (.type "int") = some false
  cls_Rounding : ClsT K "Rounding"
  kit_Rounding_int : PySem.W.kitOne K (.ref (ca K "Rounding")) (.type "int") = some false
  kit_NoneType_bool : PySem.W.kitOne K (.type "NoneType") (.type "bool") = some false
  kit_bool_bool : PySem.W.kitOne K (.type "bool") (.type "bool") = some true
  kit_dict_bool : PySem.W.kitOne K (.type "dict") (.type "bool") = some false
  kit_int_bool : PySem.W.kitOne K (.type "int") (.type "bool") = some false
  kit_list_bool : PySem.W.kitOne K (.type "list") (.type "bool") = some false
  kit_str_bool : PySem.W.kitOne K (.type "str") (.type "bool") = some false
  kit_tuple_bool : PySem.W.kitOne K (.type "tuple") (.type "bool") = some false
  kit_Words_bool : PySem.W.kitOne K (.ref (ca K "Words")) (.type "bool") = some false
  kit_Ratio_bool : PySem.W.kitOne K (.ref (ca K "Ratio")) (.type "bool") = some false
  kit_Rounding_bool : PySem.W.kitOne K (.ref (ca K "Rounding")) (.type "bool") = some false
  err_BadRatio : ErrT P w K mg (ca K "BadRatio") ["value"]
  no_Ratio_over : NoAttr K (ca K "Ratio") "over"
  no_Ratio_under : NoAttr K (ca K "Ratio") "under"
  kit_NoneType_Ratio : PySem.W.kitOne K (.type "NoneType") (.ref (ca K "Ratio")) = some false
  kit_bool_Ratio : PySem.W.kitOne K (.type "bool") (.ref (ca K "Ratio")) = some false
  kit_dict_Ratio : PySem.W.kitOne K (.type "dict") (.ref (ca K "Ratio")) = some false
  kit_int_Ratio : PySem.W.kitOne K (.type "int") (.ref (ca K "Ratio")) = some false
  kit_list_Ratio : PySem.W.kitOne K (.type "list") (.ref (ca K "Ratio")) = some false
  kit_str_Ratio : PySem.W.kitOne K (.type "str") (.ref (ca K "Ratio")) = some false
  kit_tuple_Ratio : PySem.W.kitOne K (.type "tuple") (.ref (ca K "Ratio")) = some false
  kit_Words_Ratio : PySem.W.kitOne K (.ref (ca K "Words")) (.ref (ca K "Ratio")) = some false
  kit_Ratio_Ratio : PySem.W.kitOne K (.ref (ca K "Ratio")) (.ref (ca K "Ratio")) = some true
  kit_Rounding_Ratio : PySem.W.kitOne K (.ref (ca K "Rounding")) (.ref (ca K "Ratio")) = some false
  mkr_Ratio : Mk K (ca K "Ratio") (a_Ratio___init__ K)
  cr_Ratio : CRead K (ca K "Ratio") (.type "type")
  sm_Ratio_of : SMet K (ca K "Ratio") (.type "type") "of" (ma K (ca K "Ratio") "of") (a_Ratio_of K)
  nof_Ratio : NoF K "Ratio" ["Words", "Rounding"]
  cm_Ratio___lt__ : CmC K (ca K "Ratio") "__lt__" (a_Ratio___lt__ K)
  cm_Ratio___gt__ : CmC K (ca K "Ratio") "__gt__" (a_Ratio___gt__ K)
  noInt_Ratio : PySem.W.subIn K (.ref (ca K "Ratio")) (.type "int") = some false
  cm_Ratio___ge__ : CmC K (ca K "Ratio") "__ge__" (a_Ratio___ge__ K)
  cm_Ratio___le__ : CmC K (ca K "Ratio") "__le__" (a_Ratio___le__ K)
  err_BadRounding : ErrT P w K mg (ca K "BadRounding") ["part"]
  cm_Ratio___eq__ : CmC K (ca K "Ratio") "__eq__" (a_Ratio___eq__ K)
  cm_Ratio___bool__ : CmC K (ca K "Ratio") "__bool__" (a_Ratio___bool__ K)
  no_Rounding_threshold : NoAttr K (ca K "Rounding") "threshold"
  no_Rounding_is_from : NoAttr K (ca K "Rounding") "is_from"
  mkr_Rounding : Mk K (ca K "Rounding") (a_Rounding___init__ K)
  err_BadNumber : ErrT P w K mg (ca K "BadNumber") ["value"]
  mt_Rounding_stepped : Meth K (ca K "Rounding") "stepped" (a_Rounding_stepped K)
  cm_Ratio___neg__ : CmC K (ca K "Ratio") "__neg__" (a_Ratio___neg__ K)
  opc_Ratio_add : OpC K (ca K "Ratio") "add" (a_Ratio___add__ K) (a_Ratio___radd__ K)
  ots_Ratio_add : Mz.OpTs K "Ratio" "add"
  mt_Ratio_divided : Meth K (ca K "Ratio") "divided" (a_Ratio_divided K)
  mt_Ratio_floor : Meth K (ca K "Ratio") "floor" (a_Ratio_floor K)
  opc_Ratio_floordiv : OpC K (ca K "Ratio") "floordiv" (a_Ratio___floordiv__ K) (a_Ratio___rfloordiv__ K)
  ots_Ratio_floordiv : Mz.OpTs K "Ratio" "floordiv"
  opc_Ratio_mul : OpC K (ca K "Ratio") "mul" (a_Ratio___mul__ K) (a_Ratio___rmul__ K)
  ots_Ratio_mul : Mz.OpTs K "Ratio" "mul"
  opc_Ratio_sub : OpC K (ca K "Ratio") "sub" (a_Ratio___sub__ K) (a_Ratio___rsub__ K)
  ots_Ratio_sub : Mz.OpTs K "Ratio" "sub"
  opc_Ratio_mod : OpC K (ca K "Ratio") "mod" (a_Ratio___mod__ K) (a_Ratio___rmod__ K)
  ots_Ratio_mod : Mz.OpTs K "Ratio" "mod"
  callo_Rounding : StX.CallO K (ca K "Rounding") (a_Rounding___call__ K)
  mt_Rounding_is_step : Meth K (ca K "Rounding") "is_step" (a_Rounding_is_step K)
  mt_Rounding_behind : Meth K (ca K "Rounding") "behind" (a_Rounding_behind K)
  mt_Rounding_before : Meth K (ca K "Rounding") "before" (a_Rounding_before K)
  mt_Rounding_places : Meth K (ca K "Rounding") "places" (a_Rounding_places K)
/-- the tables of the lambdas' code objects -/
abbrev Tt (K : PySem.W.Frag) : Tx := { tabs := [] }
theorem lk_Ratio_over {v0 v1 : D} : lkF "over" [(("over" : Str), v0), (("under" : Str), v1)] = some v0 := rfl
theorem pt_Ratio_over {v0 : D} : ptF "over" v0 [] = [(("over" : Str), v0)] := rfl
theorem lk_Ratio_under {v0 v1 : D} : lkF "under" [(("over" : Str), v0), (("under" : Str), v1)] = some v1 := rfl
theorem pt_Ratio_under {v0 v1 : D} : ptF "under" v1 [(("over" : Str), v0)] = [(("over" : Str), v0), (("under" : Str), v1)] := rfl
theorem nf_Ratio_divided {v0 v1 : D} : lkF "divided" [(("over" : Str), v0), (("under" : Str), v1)] = none := rfl
theorem nf_Ratio_floor {v0 v1 : D} : lkF "floor" [(("over" : Str), v0), (("under" : Str), v1)] = none := rfl
theorem lk_Words_all_words {v0 v1 : D} : lkF "all_words" [(("all_words" : Str), v0), (("taken" : Str), v1)] = some v0 := rfl
theorem pt_Words_all_words {v0 : D} : ptF "all_words" v0 [] = [(("all_words" : Str), v0)] := rfl
theorem lk_Words_taken {v0 v1 : D} : lkF "taken" [(("all_words" : Str), v0), (("taken" : Str), v1)] = some v1 := rfl
theorem pt_Words_taken {v0 v1 : D} : ptF "taken" v1 [(("all_words" : Str), v0)] = [(("all_words" : Str), v0), (("taken" : Str), v1)] := rfl
theorem lk_Rounding_threshold {v0 v1 : D} : lkF "threshold" [(("threshold" : Str), v0), (("is_from" : Str), v1)] = some v0 := rfl
theorem pt_Rounding_threshold {v0 : D} : ptF "threshold" v0 [] = [(("threshold" : Str), v0)] := rfl
theorem lk_Rounding_is_from {v0 v1 : D} : lkF "is_from" [(("threshold" : Str), v0), (("is_from" : Str), v1)] = some v1 := rfl
theorem pt_Rounding_is_from {v0 v1 : D} : ptF "is_from" v1 [(("threshold" : Str), v0)] = [(("threshold" : Str), v0), (("is_from" : Str), v1)] := rfl
theorem nf_Rounding_stepped {v0 v1 : D} : lkF "stepped" [(("threshold" : Str), v0), (("is_from" : Str), v1)] = none := rfl
theorem nf_Rounding_is_step {v0 v1 : D} : lkF "is_step" [(("threshold" : Str), v0), (("is_from" : Str), v1)] = none := rfl
theorem nf_Rounding_before {v0 v1 : D} : lkF "before" [(("threshold" : Str), v0), (("is_from" : Str), v1)] = none := rfl
theorem nf_Rounding_behind {v0 v1 : D} : lkF "behind" [(("threshold" : Str), v0), (("is_from" : Str), v1)] = none := rfl
theorem nf_Rounding_places {v0 v1 : D} : lkF "places" [(("threshold" : Str), v0), (("is_from" : Str), v1)] = none := rfl
def c__law_pen (_ : PySem.W.Frag) : FM := fun ds μ Q _ => match ds with
  | [d] => (∃ ns : List Int, d = .wls (intsD ns)) ∧ ∀ p v, μ p = none → PenV v 0 → Q (.ref p) (put μ p v)
  | _ => False
def c__law_draw (_ : PySem.W.Frag) : FM := fun ds μ Q _ => match ds with
  | [.ref a, .int m] => ∃ v n, μ a = some v ∧ PenV v n ∧ n ≤ 100000 ∧ 0 < m ∧ m < 2 ^ 64 ∧ ∀ r v', 0 ≤ r → r < m → PenV v' (n + 1) → Q (.int r) (put μ a v')
  | _ => False
def c__law_pick (_ : PySem.W.Frag) : FM := fun ds μ Q _ => match ds with
  | [.ref a, .lst xs] => ∃ v n, μ a = some v ∧ PenV v n ∧ n ≤ 100000 ∧ xs ≠ [] ∧ xs.length < 2 ^ 60 ∧ ∀ x v', x ∈ xs → PenV v' (n + 1) → Q x (put μ a v')
  | _ => False
def c__law_frac (_ : PySem.W.Frag) : FM := fun ds μ Q _ => match ds with
  | [.int o, .int u] => u ≠ 0 ∧ o.natAbs < 2 ^ 8000 ∧ u.natAbs < 2 ^ 8000 ∧ Q (frQ ((o : Rat) / (u : Rat))) μ
  | _ => False
def c__law_number (_ : PySem.W.Frag) : FM := fun ds μ Q _ => match ds with
  | [.ref a] => ∃ v n, μ a = some v ∧ PenV v n ∧ n ≤ 90000 ∧ ∀ (x : Rat) v', Sz 101 x → PenV v' (n + 5) → Q (frQ x) (put μ a v')
  | _ => False
def c__law_kind (_ : PySem.W.Frag) : FM := fun ds μ Q _ => match ds with
  | [.ref a] => ∃ v n, μ a = some v ∧ PenV v n ∧ n ≤ 90000 ∧ ∀ (p q : Int) (b : Bool) v', 0 ≤ p → p ≤ q → 0 < q → q ≤ 5 → (if b = true then p ≠ 0 else p ≠ q) → PenV v' (n + 1) → Q (.tup [.int p, .int q, .bl b]) (put μ a v')
  | _ => False
def c_is_integer (K : PySem.W.Frag) : FM := fun ds μ Q _ => match ds with
  | [d] => anyD ["Words", "Ratio", "Rounding"] d ∧ Q (.bl (isIntD d)) μ
  | _ => False
def c_divisor (_ : PySem.W.Frag) : FM := fun ds μ Q _ => match ds with
  | [.int a, .int b] => Q (.int (Int.gcd a b)) μ
  | _ => False
def c_new_Ratio (_ : PySem.W.Frag) : FM := fun ds μ Q X => match ds with
  | [.int o, .int u] => if u = 0 then X "BadRatio" [("value", .int u)] μ else u.natAbs < 2 ^ 8000 ∧ Q (ratQ ((o : Rat) / (u : Rat))) μ
  | [.int _, d] => anyD ["Words", "Ratio", "Rounding"] d ∧ isIntD d = false ∧ X "BadRatio" [("value", d)] μ
  | [d, _] => anyD ["Words", "Ratio", "Rounding"] d ∧ isIntD d = false ∧ X "BadRatio" [("value", d)] μ
  | _ => False
def c_is_number (K : PySem.W.Frag) : FM := fun ds μ Q _ => match ds with
  | [d] => anyD ["Words", "Ratio", "Rounding"] d ∧ Q (.bl (isNumD d)) μ
  | _ => False
def c_Ratio_of (_ : PySem.W.Frag) : FM := fun ds μ Q X => match ds with
  | [d] => (match toQ d with
    | some y => Q (ratQ y) μ
    | none => oddD ["Words", "Ratio", "Rounding"] d ∧ X "BadRatio" [("value", d)] μ)
  | _ => False
def c_Ratio___lt__ (_ : PySem.W.Frag) : FM := fun ds μ Q X => match ds with
  | [d1, d2] => (match asR d1, toQ d2 with
    | some x, some y => Sz 3900 x ∧ Sz 3900 y ∧ Q (.bl (decide (x < y))) μ
    | some _, none => oddD ["Words", "Ratio", "Rounding"] d2 ∧ X "BadRatio" [("value", d2)] μ
    | none, _ => False)
  | _ => False
def c_Ratio___ge__ (_ : PySem.W.Frag) : FM := fun ds μ Q X => match ds with
  | [d1, d2] => (match asR d1, toQ d2 with
    | some x, some y => Sz 3900 x ∧ Sz 3900 y ∧ Q (.bl (decide (y ≤ x))) μ
    | some _, none => oddD ["Words", "Ratio", "Rounding"] d2 ∧ X "BadRatio" [("value", d2)] μ
    | none, _ => False)
  | _ => False
def c_Ratio___gt__ (_ : PySem.W.Frag) : FM := fun ds μ Q X => match ds with
  | [d1, d2] => (match asR d1, toQ d2 with
    | some x, some y => Sz 3900 x ∧ Sz 3900 y ∧ Q (.bl (decide (y < x))) μ
    | some _, none => oddD ["Words", "Ratio", "Rounding"] d2 ∧ X "BadRatio" [("value", d2)] μ
    | none, _ => False)
  | _ => False
def c_Ratio___le__ (_ : PySem.W.Frag) : FM := fun ds μ Q X => match ds with
  | [d1, d2] => (match asR d1, toQ d2 with
    | some x, some y => Sz 3900 x ∧ Sz 3900 y ∧ Q (.bl (decide (x ≤ y))) μ
    | some _, none => oddD ["Words", "Ratio", "Rounding"] d2 ∧ X "BadRatio" [("value", d2)] μ
    | none, _ => False)
  | _ => False
def c_is_same (_ : PySem.W.Frag) : FM := fun ds μ Q X => match ds with
  | [d1, d2] => (match asR d1, asR d2 with
    | some x, some y => Q (.bl (decide (x = y))) μ
    | _, _ => False)
  | _ => False
def c_Ratio___eq__ (_ : PySem.W.Frag) : FM := fun ds μ Q X => match ds with
  | [d1, d2] => (match asR d1, toQ d2 with
    | some x, some y => Q (.bl (decide (x = y))) μ
    | some _, none => oddD ["Words", "Ratio", "Rounding"] d2 ∧ Q (.bl false) μ
    | none, _ => False)
  | _ => False
def c_Ratio___bool__ (_ : PySem.W.Frag) : FM := fun ds μ Q X => match ds with
  | [d1] => (match asR d1 with
    | some x => Q (.bl (!decide (x = 0))) μ
    | none => False)
  | _ => False
def c_new_Rounding (_ : PySem.W.Frag) : FM := fun ds μ Q X => match ds with
  | [d, .bl b] => (match toQ d with
    | some q => ROk q b ∧ Q (rndD q b) μ
    | none => False)
  | _ => False
def c__law_rounding (_ : PySem.W.Frag) : FM := fun ds μ Q _ => match ds with
  | [.tup [.int p, .int q, .bl b]] => 0 ≤ p ∧ p ≤ q ∧ 0 < q ∧ q ≤ 5 ∧ (if b = true then p ≠ 0 else p ≠ q) ∧ (ROk ((p : Rat) / (q : Rat)) b → Q (rndD ((p : Rat) / (q : Rat)) b) μ)
  | _ => False
def c_Ratio___add__ (_ : PySem.W.Frag) : FM := fun ds μ Q X => match ds with
  | [d1, d2] => (match asR d1, toQ d2 with
    | some x, some y => Sz 3900 x ∧ Sz 3900 y ∧ Q (ratQ (x + y)) μ
    | some _, none => oddD ["Words", "Ratio", "Rounding"] d2 ∧ X "BadRatio" [("value", d2)] μ
    | none, _ => False)
  | _ => False
def c_need_number (_ : PySem.W.Frag) : FM := fun ds μ Q X => match ds with
  | [d] => (match toQ d with
    | some y => Q (ratQ y) μ
    | none => oddD ["Words", "Ratio", "Rounding"] d ∧ X "BadNumber" [("value", d)] μ)
  | _ => False
def c_Rounding_stepped (_ : PySem.W.Frag) : FM := fun ds μ Q X => match ds with
  | [d, .int o, .int u] => (match asRd d with
    | some (q, b) => ∃ x : Rat, o = x.num ∧ u = (x.den : Int) ∧ Sz 3900 x ∧ ROk q b ∧ Q (.int (rnd q b x)) μ
    | none => False)
  | _ => False
def c_Rounding___call__ (_ : PySem.W.Frag) : FM := fun ds μ Q X => match ds with
  | [d1, d2] => (match asRd d1 with
    | some (q, b) => (match toQ d2 with
      | some x => Sz 3900 x ∧ ROk q b ∧ Q (.int (rnd q b x)) μ
      | none => oddD ["Words", "Ratio", "Rounding"] d2 ∧ X "BadNumber" [("value", d2)] μ)
    | none => False)
  | _ => False
def c_Ratio___neg__ (_ : PySem.W.Frag) : FM := fun ds μ Q X => match ds with
  | [d1] => (match asR d1 with
    | some x => Sz 3900 x ∧ Q (ratQ (-x)) μ
    | none => False)
  | _ => False
def c_Ratio___sub__ (_ : PySem.W.Frag) : FM := fun ds μ Q X => match ds with
  | [d1, d2] => (match asR d1, toQ d2 with
    | some x, some y => Sz 3900 x ∧ Sz 3900 y ∧ Q (ratQ (x - y)) μ
    | some _, none => oddD ["Words", "Ratio", "Rounding"] d2 ∧ X "BadRatio" [("value", d2)] μ
    | none, _ => False)
  | _ => False
def c_Ratio_divided (_ : PySem.W.Frag) : FM := fun ds μ Q X => match ds with
  | [d1, d2] => (match asR d1, toQ d2 with
    | some x, some y => if y = 0 then X "BadRatio" [("value", d2)] μ else Sz 3900 x ∧ Sz 3900 y ∧ Q (ratQ (x / y)) μ
    | some _, none => oddD ["Words", "Ratio", "Rounding"] d2 ∧ X "BadRatio" [("value", d2)] μ
    | none, _ => False)
  | _ => False
def c_Ratio_floor (_ : PySem.W.Frag) : FM := fun ds μ Q X => match ds with
  | [d1] => (match asR d1 with
    | some x => Sz 8000 x ∧ Q (.int x.floor) μ
    | none => False)
  | _ => False
def c_Ratio___floordiv__ (_ : PySem.W.Frag) : FM := fun ds μ Q X => match ds with
  | [d1, d2] => (match asR d1, toQ d2 with
    | some x, some y => if y = 0 then X "BadRatio" [("value", d2)] μ else Sz 3900 x ∧ Sz 3900 y ∧ Q (.int (x / y).floor) μ
    | some _, none => oddD ["Words", "Ratio", "Rounding"] d2 ∧ X "BadRatio" [("value", d2)] μ
    | none, _ => False)
  | _ => False
def c_Ratio___mul__ (_ : PySem.W.Frag) : FM := fun ds μ Q X => match ds with
  | [d1, d2] => (match asR d1, toQ d2 with
    | some x, some y => Sz 3900 x ∧ Sz 3900 y ∧ Q (ratQ (x * y)) μ
    | some _, none => oddD ["Words", "Ratio", "Rounding"] d2 ∧ X "BadRatio" [("value", d2)] μ
    | none, _ => False)
  | _ => False
def c_Ratio___mod__ (_ : PySem.W.Frag) : FM := fun ds μ Q X => match ds with
  | [d1, d2] => (match asR d1, toQ d2 with
    | some x, some y => if y = 0 then X "BadRatio" [("value", d2)] μ else Sz 1000 x ∧ Sz 1000 y ∧ Q (ratQ (rmod x y)) μ
    | some _, none => oddD ["Words", "Ratio", "Rounding"] d2 ∧ X "BadRatio" [("value", d2)] μ
    | none, _ => False)
  | _ => False
def c_Rounding_is_step (_ : PySem.W.Frag) : FM := fun ds μ Q X => match ds with
  | [d1, d2] => (match asRd d1 with
    | some (q, b) => (match toQ d2 with
      | some x => Sz 400 x ∧ ROk q b ∧ Q (.bl (decide (stp q x))) μ
      | none => oddD ["Words", "Ratio", "Rounding"] d2 ∧ X "BadNumber" [("value", d2)] μ)
    | none => False)
  | _ => False
def c_Rounding_behind (_ : PySem.W.Frag) : FM := fun ds μ Q X => match ds with
  | [d1, d2] => (match asRd d1 with
    | some (q, b) => (match toQ d2 with
      | some x => Sz 400 x ∧ ROk q b ∧ Q (.int (beh q x)) μ
      | none => oddD ["Words", "Ratio", "Rounding"] d2 ∧ X "BadNumber" [("value", d2)] μ)
    | none => False)
  | _ => False
def c_Rounding_before (_ : PySem.W.Frag) : FM := fun ds μ Q X => match ds with
  | [d1, d2] => (match asRd d1 with
    | some (q, b) => (match toQ d2 with
      | some x => Sz 400 x ∧ ROk q b ∧ Q (.int (bef q x)) μ
      | none => oddD ["Words", "Ratio", "Rounding"] d2 ∧ X "BadNumber" [("value", d2)] μ)
    | none => False)
  | _ => False
def c_Rounding_places (_ : PySem.W.Frag) : FM := fun ds μ Q X => match ds with
  | [d1, .int p] => (match asRd d1 with
    | some (q, b) => p.natAbs < 2 ^ 400 ∧ ROk q b ∧ Q (.tup [ratQ (q + ((p - 1 : Int) : Rat)), .bl b, ratQ (q + (p : Rat)), .bl (!b)]) μ
    | none => False)
  | _ => False
def c__law_right (_ : PySem.W.Frag) : FM := fun ds μ Q _ => match ds with
  | [.ref a] => ∃ v n, μ a = some v ∧ PenV v n ∧ n ≤ 80000 ∧ ∀ v', PenV v' (n + 20) → Q (.bl true) (put μ a v')
  | _ => False
def c_law (_ : PySem.W.Frag) : FM := fun ds μ Q _ => match ds with
  | [d] => (∃ ns : List Int, d = .wls (intsD ns)) ∧ ∀ μ', Q (.bl true) μ'
  | _ => False
end Mz

namespace Mz
open PySem PySem.Spec PyProof.Rows L2 AzX ClX LamX Hz He Az
local macro_rules | `(tactic| walk_at "ev") => `(tactic| simp (config := {decide := false}) only [↓mEqW.eq_1, ↓mNeW.eq_1, ↓mFmtO.eq_1, ↓mCallP.eq_1, ↓mMethP.eq_1, ↓mCMethP.eq_1, ↓mCallO.eq_1, ↓mMakeP.eq_1, ↓bArgs.eq_1, ↓selA.eq_1, ↓selA.eq_2, ↓selA.eq_3, ↓selA.eq_4, ↓mSorted.eq_1, Option.getD_some, Option.getD_none, ↓mLc.eq_1, ↓goLc.eq_1, ↓goLc.eq_2, ↓wipeM.eq_1, ↓wipeM.eq_2, ↓bodyM.eq_1, ↓mVar.eq_1, ↓mC.eq_1, ↓mOp.eq_1, ↓mTest.eq_1, ↓mChain.eq_1, ↓mUn.eq_1, ↓mTru.eq_1, ↓dTru.eq_1, ↓dTru.eq_2, ↓dTru.eq_3, ↓dTru.eq_4, ↓dTru.eq_5, ↓dTru.eq_6, ↓dTru.eq_7, ↓dTru.eq_8, ↓dTru.eq_9, ↓dTru.eq_10, ↓mTr.eq_1, ↓mAnd.eq_1, ↓mOr.eq_1, ↓mNot.eq_1, ↓mAndV.eq_1, ↓mOrV.eq_1, ↓mNotV.eq_1, ↓mIf.eq_1, ↓mNil.eq_1, ↓mCons.eq_1, ↓mTup.eq_1, ↓mLst.eq_1, ↓mLstM.eq_1, ↓mAlt.eq_1, ↓uAlt.eq_1, ↓tAlt.eq_1, ↓fAlt.eq_1, ↓eAlt.eq_1, ↓lAlt.eq_1, ↓bAlt.eq_1, ↓gmName.eq_1, ↓gmNil.eq_1, ↓gmNil.eq_2, ↓gmCons.eq_1, ↓gmCons.eq_2, ↓gmTup.eq_1, ↓gmTup.eq_2, ↓gmSub.eq_1, ↓mSetL.eq_1, ↓mSetL.eq_2, ↓sNext.eq_1, ↓sSeq.eq_1, ↓sBreak.eq_1, ↓sCont.eq_1, ↓sExpr.eq_1, ↓sRet.eq_1, ↓sRetN.eq_1, ↓sIf.eq_1, ↓sSet.eq_1, ↓sAsg.eq_1, ↓sPar.eq_1, ↓sPar3.eq_1, ↓sAug.eq_1, ↓sFldM.eq_1, ↓sFldAugM.eq_1, ↓sFor.eq_1, ↓iLs.eq_1, ↓iTupM.eq_1, ↓iRange1.eq_1, ↓mCall.eq_1, ↓isC.eq_1, ↓isC.eq_2, ↓isC.eq_3, ↓mMeth.eq_1, ↓insC.eq_1, ↓insC.eq_2, ↓insC.eq_3, ↓mProp.eq_1, ↓mFld.eq_1, ↓mOwn.eq_1, ↓mOwn.eq_2, ↓mOwnR.eq_1, ↓mOwnR.eq_2, ↓mCmpO.eq_1, ↓mCmpO.eq_2, ↓kNotM.eq_1, ↓kNotM.eq_2, ↓mNeO.eq_1, ↓mNeO.eq_2, ↓mNeR.eq_1, ↓mNeR.eq_2, ↓mOwnU.eq_1, ↓mOwnU.eq_2, ↓kBlM.eq_1, ↓kBlM.eq_2, ↓mTruO.eq_1, ↓mTruO.eq_2, ↓mBoolO.eq_1, ↓mBoolO.eq_2, ↓kStrM.eq_1, ↓kStrM.eq_2, ↓mStrO.eq_1, ↓mStrO.eq_2, ↓mII.eq_1, ↓mII.eq_2, ↓mII0.eq_1, ↓mII0.eq_2, ↓mNeg.eq_1, ↓mNeg.eq_2, ↓mAddS.eq_1, ↓mAddS.eq_2, ↓noneD.eq_1, ↓noneD.eq_2, ↓mIsN.eq_1, ↓mIsN.eq_2, ↓mNotN.eq_1, ↓mNotN.eq_2, ↓mIsB.eq_1, ↓mIsB.eq_2, ↓mInt.eq_1, ↓mInt.eq_2, ↓mInt.eq_3, ↓mIntS.eq_1, ↓mIntS.eq_2, ↓mAbs.eq_1, ↓mAbs.eq_2, ↓mLen.eq_1, ↓mLen.eq_2, ↓mLen.eq_3, ↓mListF.eq_1, ↓mListF.eq_2, ↓mListM.eq_1, ↓mListM.eq_2, ↓mTupF.eq_1, ↓mTupF.eq_2, ↓mTupF.eq_3, ↓mBool1.eq_1, ↓mBool1.eq_2, ↓mBool1.eq_3, ↓mStrI.eq_1, ↓mStrI.eq_2, ↓mIx.eq_1, ↓mIx.eq_2, ↓mIxS.eq_1, ↓mIxS.eq_2, ↓mSl.eq_1, ↓mSlL.eq_1, ↓mSlS.eq_1, ↓mSlS.eq_2, ↓oNone.eq_1, ↓oSome.eq_1, ↓seqD.eq_1, ↓seqD.eq_2, ↓seqD.eq_3, ↓seqD.eq_4, ↓seqD.eq_5, ↓lsD.eq_1, ↓lsD.eq_2, ↓lsD.eq_3, ↓lsD.eq_4, ↓mdD.eq_1, ↓mdD.eq_2, ↓mdD.eq_3, ↓mCatL.eq_1, ↓mRepL.eq_1, ↓mRepL.eq_2, ↓isT.eq_1, ↓isT.eq_2, ↓isT.eq_3, ↓isT.eq_4, ↓isT.eq_5, ↓isT.eq_6, ↓mBM.eq_1, ↓bAppend.eq_1, ↓bAppend.eq_2, ↓bSplit.eq_1, ↓bSplit.eq_2, ↓bStarts.eq_1, ↓bStarts.eq_2, ↓bJoin.eq_1, ↓bJoin.eq_2, ↓mFmt.eq_1, ↓sRaise.eq_1, ↓mXat.eq_1, ↓mDict0.eq_1, ↓mNotT.eq_1, ↓mIsi.eq_1, ↓mIsi.eq_2, ↓mIsi.eq_3, ↓tyI.eq_1, ↓tyI.eq_2, ↓tyD.eq_1, ↓tyD.eq_2, ↓tyD.eq_3, ↓tyD.eq_4, ↓tyD.eq_5, ↓tyD.eq_6, ↓tyD.eq_7, ↓tyD.eq_8, ↓tyD.eq_9, ↓tyD.eq_10, ↓tyD.eq_11, ↓clsD.eq_1, ↓clsD.eq_2, ↓clsD.eq_3, ↓clsDs.eq_1, ↓clsDs.eq_2, ↓needT.eq_1, ↓needT.eq_2, ↓needT.eq_3, ↓needT.eq_4, ↓mHeard.eq_1, ↓mAsk.eq_1, ↓sTry.eq_1, ↓sFrz.eq_1, List.getElem?_cons_zero, List.getElem?_cons_succ, List.getElem?_nil, List.set_cons_zero, List.set_cons_succ, List.set_nil, List.length_cons, List.length_nil, List.map_cons, List.map_nil, List.cons_append, List.nil_append, List.append_nil, List.replicate_zero, List.replicate_succ, List.zip_cons_cons, List.zip_nil_left, List.zip_nil_right, Nat.reduceAdd, Nat.reduceSub, Nat.reduceEqDiff, Nat.reduceLT, Nat.reduceLeDiff, Nat.zero_add, Nat.add_zero, Bool.not_true, Bool.not_false, Bool.not_not, true_and, and_true, false_and, and_false, true_or, or_true, false_or, or_false, if_true, if_false, ite_true, ite_false, Bool.false_eq_true, reduceIte, reduceCtorEq, eq_self_iff_true, and_self, or_self, put_same, del_same, decide_true, decide_false, String.reduceEq, List.mem_cons, List.not_mem_nil, Int.reduceNeg, Int.reduceEq, Int.reduceLT, ne_eq, not_true_eq_false, not_false_eq_true])
set_option hygiene false in
local macro_rules | `(tactic| walk_at "evz") => `(tactic| simp (config := {decide := false}) only [↓mEqW.eq_1, ↓mNeW.eq_1, ↓mFmtO.eq_1, ↓mCallP.eq_1, ↓mMethP.eq_1, ↓mCMethP.eq_1, ↓mCallO.eq_1, ↓mMakeP.eq_1, ↓bArgs.eq_1, ↓selA.eq_1, ↓selA.eq_2, ↓selA.eq_3, ↓selA.eq_4, ↓mSorted.eq_1, Option.getD_some, Option.getD_none, ↓mLc.eq_1, ↓goLc.eq_1, ↓goLc.eq_2, ↓wipeM.eq_1, ↓wipeM.eq_2, ↓bodyM.eq_1, ↓mVar.eq_1, ↓mC.eq_1, ↓mOp.eq_1, ↓mTest.eq_1, ↓mChain.eq_1, ↓mUn.eq_1, ↓mTru.eq_1, ↓dTru.eq_1, ↓dTru.eq_2, ↓dTru.eq_3, ↓dTru.eq_4, ↓dTru.eq_5, ↓dTru.eq_6, ↓dTru.eq_7, ↓dTru.eq_8, ↓dTru.eq_9, ↓dTru.eq_10, ↓mTr.eq_1, ↓mAnd.eq_1, ↓mOr.eq_1, ↓mNot.eq_1, ↓mAndV.eq_1, ↓mOrV.eq_1, ↓mNotV.eq_1, ↓mIf.eq_1, ↓mNil.eq_1, ↓mCons.eq_1, ↓mTup.eq_1, ↓mLst.eq_1, ↓mLstM.eq_1, ↓mAlt.eq_1, ↓uAlt.eq_1, ↓tAlt.eq_1, ↓fAlt.eq_1, ↓eAlt.eq_1, ↓lAlt.eq_1, ↓bAlt.eq_1, ↓gmName.eq_1, ↓gmNil.eq_1, ↓gmNil.eq_2, ↓gmCons.eq_1, ↓gmCons.eq_2, ↓gmTup.eq_1, ↓gmTup.eq_2, ↓gmSub.eq_1, ↓mSetL.eq_1, ↓mSetL.eq_2, ↓sNext.eq_1, ↓sSeq.eq_1, ↓sBreak.eq_1, ↓sCont.eq_1, ↓sExpr.eq_1, ↓sRet.eq_1, ↓sRetN.eq_1, ↓sIf.eq_1, ↓sSet.eq_1, ↓sAsg.eq_1, ↓sPar.eq_1, ↓sPar3.eq_1, ↓sAug.eq_1, ↓sFldM.eq_1, ↓sFldAugM.eq_1, ↓sFor.eq_1, ↓iLs.eq_1, ↓iTupM.eq_1, ↓iRange1.eq_1, ↓mCall.eq_1, ↓isC.eq_1, ↓isC.eq_2, ↓isC.eq_3, ↓mMeth.eq_1, ↓insC.eq_1, ↓insC.eq_2, ↓insC.eq_3, ↓mProp.eq_1, ↓mFld.eq_1, ↓mOwn.eq_1, ↓mOwn.eq_2, ↓mOwnR.eq_1, ↓mOwnR.eq_2, ↓mCmpO.eq_1, ↓mCmpO.eq_2, ↓kNotM.eq_1, ↓kNotM.eq_2, ↓mNeO.eq_1, ↓mNeO.eq_2, ↓mNeR.eq_1, ↓mNeR.eq_2, ↓mOwnU.eq_1, ↓mOwnU.eq_2, ↓kBlM.eq_1, ↓kBlM.eq_2, ↓mTruO.eq_1, ↓mTruO.eq_2, ↓mBoolO.eq_1, ↓mBoolO.eq_2, ↓kStrM.eq_1, ↓kStrM.eq_2, ↓mStrO.eq_1, ↓mStrO.eq_2, ↓mII.eq_1, ↓mII.eq_2, ↓mII0.eq_1, ↓mII0.eq_2, ↓mNeg.eq_1, ↓mNeg.eq_2, ↓mAddS.eq_1, ↓mAddS.eq_2, ↓noneD.eq_1, ↓noneD.eq_2, ↓mIsN.eq_1, ↓mIsN.eq_2, ↓mNotN.eq_1, ↓mNotN.eq_2, ↓mIsB.eq_1, ↓mIsB.eq_2, ↓mInt.eq_1, ↓mInt.eq_2, ↓mInt.eq_3, ↓mIntS.eq_1, ↓mIntS.eq_2, ↓mAbs.eq_1, ↓mAbs.eq_2, ↓mLen.eq_1, ↓mLen.eq_2, ↓mLen.eq_3, ↓mListF.eq_1, ↓mListF.eq_2, ↓mListM.eq_1, ↓mListM.eq_2, ↓mTupF.eq_1, ↓mTupF.eq_2, ↓mTupF.eq_3, ↓mBool1.eq_1, ↓mBool1.eq_2, ↓mBool1.eq_3, ↓mStrI.eq_1, ↓mStrI.eq_2, ↓mIx.eq_1, ↓mIx.eq_2, ↓mIxS.eq_1, ↓mIxS.eq_2, ↓mSl.eq_1, ↓mSlL.eq_1, ↓mSlS.eq_1, ↓mSlS.eq_2, ↓oNone.eq_1, ↓oSome.eq_1, ↓seqD.eq_1, ↓seqD.eq_2, ↓seqD.eq_3, ↓seqD.eq_4, ↓seqD.eq_5, ↓lsD.eq_1, ↓lsD.eq_2, ↓lsD.eq_3, ↓lsD.eq_4, ↓mdD.eq_1, ↓mdD.eq_2, ↓mdD.eq_3, ↓mCatL.eq_1, ↓mRepL.eq_1, ↓mRepL.eq_2, ↓isT.eq_1, ↓isT.eq_2, ↓isT.eq_3, ↓isT.eq_4, ↓isT.eq_5, ↓isT.eq_6, ↓mBM.eq_1, ↓bAppend.eq_1, ↓bAppend.eq_2, ↓bSplit.eq_1, ↓bSplit.eq_2, ↓bStarts.eq_1, ↓bStarts.eq_2, ↓bJoin.eq_1, ↓bJoin.eq_2, ↓mFmt.eq_1, ↓sRaise.eq_1, ↓mXat.eq_1, ↓mDict0.eq_1, ↓mNotT.eq_1, ↓mIsi.eq_1, ↓mIsi.eq_2, ↓mIsi.eq_3, ↓tyI.eq_1, ↓tyI.eq_2, ↓tyD.eq_1, ↓tyD.eq_2, ↓tyD.eq_3, ↓tyD.eq_4, ↓tyD.eq_5, ↓tyD.eq_6, ↓tyD.eq_7, ↓tyD.eq_8, ↓tyD.eq_9, ↓tyD.eq_10, ↓tyD.eq_11, ↓clsD.eq_1, ↓clsD.eq_2, ↓clsD.eq_3, ↓clsDs.eq_1, ↓clsDs.eq_2, ↓needT.eq_1, ↓needT.eq_2, ↓needT.eq_3, ↓needT.eq_4, ↓mHeard.eq_1, ↓mAsk.eq_1, ↓sTry.eq_1, ↓sFrz.eq_1, List.getElem?_cons_zero, List.getElem?_cons_succ, List.getElem?_nil, List.set_cons_zero, List.set_cons_succ, List.set_nil, List.length_cons, List.length_nil, List.map_cons, List.map_nil, List.cons_append, List.nil_append, List.append_nil, List.replicate_zero, List.replicate_succ, List.zip_cons_cons, List.zip_nil_left, List.zip_nil_right, Nat.reduceAdd, Nat.reduceSub, Nat.reduceEqDiff, Nat.reduceLT, Nat.reduceLeDiff, Nat.zero_add, Nat.add_zero, Bool.not_true, Bool.not_false, Bool.not_not, true_and, and_true, false_and, and_false, true_or, or_true, false_or, or_false, if_true, if_false, ite_true, ite_false, Bool.false_eq_true, reduceIte, reduceCtorEq, eq_self_iff_true, and_self, or_self, put_same, del_same, decide_true, decide_false, String.reduceEq, List.mem_cons, List.not_mem_nil, Int.reduceNeg, Int.reduceEq, Int.reduceLT, ne_eq, not_true_eq_false, not_false_eq_true, Z.kit_NoneType_int, Z.kit_bool_int, Z.kit_dict_int, Z.kit_int_int, Z.kit_list_int, Z.kit_str_int, Z.kit_tuple_int, Z.cls_Words, Z.cls_Words.cls, Z.kit_Words_int, Z.cls_Ratio, Z.cls_Ratio.cls, Z.kit_Ratio_int, Z.cls_Rounding, Z.cls_Rounding.cls, Z.kit_Rounding_int, Z.kit_NoneType_bool, Z.kit_bool_bool, Z.kit_dict_bool, Z.kit_int_bool, Z.kit_list_bool, Z.kit_str_bool, Z.kit_tuple_bool, Z.kit_Words_bool, Z.kit_Ratio_bool, Z.kit_Rounding_bool, Z.no_Ratio_over, Z.no_Ratio_under, Z.kit_NoneType_Ratio, Z.kit_bool_Ratio, Z.kit_dict_Ratio, Z.kit_int_Ratio, Z.kit_list_Ratio, Z.kit_str_Ratio, Z.kit_tuple_Ratio, Z.kit_Words_Ratio, Z.kit_Ratio_Ratio, Z.kit_Rounding_Ratio, Z.no_Rounding_threshold, Z.no_Rounding_is_from, lkF_self, asR_rat, toQ_rat, anyD_non, anyD_bl, anyD_int, anyD_str, anyD_tup, anyD_lst, anyD_wls, anyD_dict, isIntD_non, isIntD_bl, isIntD_int, isIntD_str, isIntD_tup, isIntD_lst, isIntD_wls, isIntD_dict, isNumD_non, isNumD_bl, isNumD_int, isNumD_str, isNumD_tup, isNumD_lst, isNumD_wls, isNumD_dict, toQ_non, toQ_bl, toQ_int, toQ_str, toQ_tup, toQ_lst, toQ_wls, toQ_dict, yOk_non, yOk_bl, yOk_int, yOk_str, yOk_tup, yOk_lst, yOk_wls, yOk_dict, cOk_non, cOk_bl, cOk_int, cOk_str, cOk_tup, cOk_lst, cOk_wls, cOk_dict, oddD, yOk_ins, cOk_ins, anyD_ins, isIntD_ins, isNumD_ins, BEq.rfl, mEqD_ii, mNeD_ii, mEqD_insL, mNeD_insL, mEqD_insR, mNeD_insR, asRd_rnd, put_put, Bool.false_or, Bool.or_false, Bool.or_true, Bool.true_or, Bool.and_true, Bool.true_and, Bool.and_false, Bool.false_and, Option.map_some, decide_eq_true_eq, lk_Ratio_over, pt_Ratio_over, lk_Ratio_under, pt_Ratio_under, nf_Ratio_divided, nf_Ratio_floor, lk_Words_all_words, pt_Words_all_words, lk_Words_taken, pt_Words_taken, lk_Rounding_threshold, pt_Rounding_threshold, lk_Rounding_is_from, pt_Rounding_is_from, nf_Rounding_stepped, nf_Rounding_is_step, nf_Rounding_before, nf_Rounding_behind, nf_Rounding_places, ↓c__law_pen.eq_1, ↓c__law_pen.eq_2, ↓c__law_draw.eq_1, ↓c__law_draw.eq_2, ↓c__law_pick.eq_1, ↓c__law_pick.eq_2, ↓c__law_frac.eq_1, ↓c__law_frac.eq_2, ↓c__law_number.eq_1, ↓c__law_number.eq_2, ↓c__law_kind.eq_1, ↓c__law_kind.eq_2, ↓c_is_integer.eq_1, ↓c_is_integer.eq_2, ↓c_divisor.eq_1, ↓c_divisor.eq_2, ↓c_new_Ratio.eq_1, ↓c_new_Ratio.eq_2, ↓c_new_Ratio.eq_3, ↓c_new_Ratio.eq_4, ↓c_is_number.eq_1, ↓c_is_number.eq_2, ↓c_Ratio_of.eq_1, ↓c_Ratio_of.eq_2, ↓c_Ratio___lt__.eq_1, ↓c_Ratio___lt__.eq_2, ↓c_Ratio___ge__.eq_1, ↓c_Ratio___ge__.eq_2, ↓c_Ratio___gt__.eq_1, ↓c_Ratio___gt__.eq_2, ↓c_Ratio___le__.eq_1, ↓c_Ratio___le__.eq_2, ↓c_is_same.eq_1, ↓c_is_same.eq_2, ↓c_Ratio___eq__.eq_1, ↓c_Ratio___eq__.eq_2, ↓c_Ratio___bool__.eq_1, ↓c_Ratio___bool__.eq_2, ↓c_new_Rounding.eq_1, ↓c_new_Rounding.eq_2, ↓c__law_rounding.eq_1, ↓c__law_rounding.eq_2, ↓c_Ratio___add__.eq_1, ↓c_Ratio___add__.eq_2, ↓c_need_number.eq_1, ↓c_need_number.eq_2, ↓c_Rounding_stepped.eq_1, ↓c_Rounding_stepped.eq_2, ↓c_Rounding___call__.eq_1, ↓c_Rounding___call__.eq_2, ↓c_Ratio___neg__.eq_1, ↓c_Ratio___neg__.eq_2, ↓c_Ratio___sub__.eq_1, ↓c_Ratio___sub__.eq_2, ↓c_Ratio_divided.eq_1, ↓c_Ratio_divided.eq_2, ↓c_Ratio_floor.eq_1, ↓c_Ratio_floor.eq_2, ↓c_Ratio___floordiv__.eq_1, ↓c_Ratio___floordiv__.eq_2, ↓c_Ratio___mul__.eq_1, ↓c_Ratio___mul__.eq_2, ↓c_Ratio___mod__.eq_1, ↓c_Ratio___mod__.eq_2, ↓c_Rounding_is_step.eq_1, ↓c_Rounding_is_step.eq_2, ↓c_Rounding_behind.eq_1, ↓c_Rounding_behind.eq_2, ↓c_Rounding_before.eq_1, ↓c_Rounding_before.eq_2, ↓c_Rounding_places.eq_1, ↓c_Rounding_places.eq_2, ↓c__law_right.eq_1, ↓c__law_right.eq_2, ↓c_law.eq_1, ↓c_law.eq_2])
set_option hygiene false in
local macro_rules | `(tactic| simp_arith [$ts,*]) => `(tactic| simp (config := {decide := false}) only [↓mEqW.eq_1, ↓mNeW.eq_1, ↓mFmtO.eq_1, ↓mCallP.eq_1, ↓mMethP.eq_1, ↓mCMethP.eq_1, ↓mCallO.eq_1, ↓mMakeP.eq_1, ↓bArgs.eq_1, ↓selA.eq_1, ↓selA.eq_2, ↓selA.eq_3, ↓selA.eq_4, ↓mSorted.eq_1, Option.getD_some, Option.getD_none, ↓mLc.eq_1, ↓goLc.eq_1, ↓goLc.eq_2, ↓wipeM.eq_1, ↓wipeM.eq_2, ↓bodyM.eq_1, ↓mVar.eq_1, ↓mC.eq_1, ↓mOp.eq_1, ↓mTest.eq_1, ↓mChain.eq_1, ↓mUn.eq_1, ↓mTru.eq_1, ↓dTru.eq_1, ↓dTru.eq_2, ↓dTru.eq_3, ↓dTru.eq_4, ↓dTru.eq_5, ↓dTru.eq_6, ↓dTru.eq_7, ↓dTru.eq_8, ↓dTru.eq_9, ↓dTru.eq_10, ↓mTr.eq_1, ↓mAnd.eq_1, ↓mOr.eq_1, ↓mNot.eq_1, ↓mAndV.eq_1, ↓mOrV.eq_1, ↓mNotV.eq_1, ↓mIf.eq_1, ↓mNil.eq_1, ↓mCons.eq_1, ↓mTup.eq_1, ↓mLst.eq_1, ↓mLstM.eq_1, ↓mAlt.eq_1, ↓uAlt.eq_1, ↓tAlt.eq_1, ↓fAlt.eq_1, ↓eAlt.eq_1, ↓lAlt.eq_1, ↓bAlt.eq_1, ↓gmName.eq_1, ↓gmNil.eq_1, ↓gmNil.eq_2, ↓gmCons.eq_1, ↓gmCons.eq_2, ↓gmTup.eq_1, ↓gmTup.eq_2, ↓gmSub.eq_1, ↓mSetL.eq_1, ↓mSetL.eq_2, ↓sNext.eq_1, ↓sSeq.eq_1, ↓sBreak.eq_1, ↓sCont.eq_1, ↓sExpr.eq_1, ↓sRet.eq_1, ↓sRetN.eq_1, ↓sIf.eq_1, ↓sSet.eq_1, ↓sAsg.eq_1, ↓sPar.eq_1, ↓sPar3.eq_1, ↓sAug.eq_1, ↓sFldM.eq_1, ↓sFldAugM.eq_1, ↓sFor.eq_1, ↓iLs.eq_1, ↓iTupM.eq_1, ↓iRange1.eq_1, ↓mCall.eq_1, ↓isC.eq_1, ↓isC.eq_2, ↓isC.eq_3, ↓mMeth.eq_1, ↓insC.eq_1, ↓insC.eq_2, ↓insC.eq_3, ↓mProp.eq_1, ↓mFld.eq_1, ↓mOwn.eq_1, ↓mOwn.eq_2, ↓mOwnR.eq_1, ↓mOwnR.eq_2, ↓mCmpO.eq_1, ↓mCmpO.eq_2, ↓kNotM.eq_1, ↓kNotM.eq_2, ↓mNeO.eq_1, ↓mNeO.eq_2, ↓mNeR.eq_1, ↓mNeR.eq_2, ↓mOwnU.eq_1, ↓mOwnU.eq_2, ↓kBlM.eq_1, ↓kBlM.eq_2, ↓mTruO.eq_1, ↓mTruO.eq_2, ↓mBoolO.eq_1, ↓mBoolO.eq_2, ↓kStrM.eq_1, ↓kStrM.eq_2, ↓mStrO.eq_1, ↓mStrO.eq_2, ↓mII.eq_1, ↓mII.eq_2, ↓mII0.eq_1, ↓mII0.eq_2, ↓mNeg.eq_1, ↓mNeg.eq_2, ↓mAddS.eq_1, ↓mAddS.eq_2, ↓noneD.eq_1, ↓noneD.eq_2, ↓mIsN.eq_1, ↓mIsN.eq_2, ↓mNotN.eq_1, ↓mNotN.eq_2, ↓mIsB.eq_1, ↓mIsB.eq_2, ↓mInt.eq_1, ↓mInt.eq_2, ↓mInt.eq_3, ↓mIntS.eq_1, ↓mIntS.eq_2, ↓mAbs.eq_1, ↓mAbs.eq_2, ↓mLen.eq_1, ↓mLen.eq_2, ↓mLen.eq_3, ↓mListF.eq_1, ↓mListF.eq_2, ↓mListM.eq_1, ↓mListM.eq_2, ↓mTupF.eq_1, ↓mTupF.eq_2, ↓mTupF.eq_3, ↓mBool1.eq_1, ↓mBool1.eq_2, ↓mBool1.eq_3, ↓mStrI.eq_1, ↓mStrI.eq_2, ↓mIx.eq_1, ↓mIx.eq_2, ↓mIxS.eq_1, ↓mIxS.eq_2, ↓mSl.eq_1, ↓mSlL.eq_1, ↓mSlS.eq_1, ↓mSlS.eq_2, ↓oNone.eq_1, ↓oSome.eq_1, ↓seqD.eq_1, ↓seqD.eq_2, ↓seqD.eq_3, ↓seqD.eq_4, ↓seqD.eq_5, ↓lsD.eq_1, ↓lsD.eq_2, ↓lsD.eq_3, ↓lsD.eq_4, ↓mdD.eq_1, ↓mdD.eq_2, ↓mdD.eq_3, ↓mCatL.eq_1, ↓mRepL.eq_1, ↓mRepL.eq_2, ↓isT.eq_1, ↓isT.eq_2, ↓isT.eq_3, ↓isT.eq_4, ↓isT.eq_5, ↓isT.eq_6, ↓mBM.eq_1, ↓bAppend.eq_1, ↓bAppend.eq_2, ↓bSplit.eq_1, ↓bSplit.eq_2, ↓bStarts.eq_1, ↓bStarts.eq_2, ↓bJoin.eq_1, ↓bJoin.eq_2, ↓mFmt.eq_1, ↓sRaise.eq_1, ↓mXat.eq_1, ↓mDict0.eq_1, ↓mNotT.eq_1, ↓mIsi.eq_1, ↓mIsi.eq_2, ↓mIsi.eq_3, ↓tyI.eq_1, ↓tyI.eq_2, ↓tyD.eq_1, ↓tyD.eq_2, ↓tyD.eq_3, ↓tyD.eq_4, ↓tyD.eq_5, ↓tyD.eq_6, ↓tyD.eq_7, ↓tyD.eq_8, ↓tyD.eq_9, ↓tyD.eq_10, ↓tyD.eq_11, ↓clsD.eq_1, ↓clsD.eq_2, ↓clsD.eq_3, ↓clsDs.eq_1, ↓clsDs.eq_2, ↓needT.eq_1, ↓needT.eq_2, ↓needT.eq_3, ↓needT.eq_4, ↓mHeard.eq_1, ↓mAsk.eq_1, ↓sTry.eq_1, ↓sFrz.eq_1, List.getElem?_cons_zero, List.getElem?_cons_succ, List.getElem?_nil, List.set_cons_zero, List.set_cons_succ, List.set_nil, List.length_cons, List.length_nil, List.map_cons, List.map_nil, List.cons_append, List.nil_append, List.append_nil, List.replicate_zero, List.replicate_succ, List.zip_cons_cons, List.zip_nil_left, List.zip_nil_right, Nat.reduceAdd, Nat.reduceSub, Nat.reduceEqDiff, Nat.reduceLT, Nat.reduceLeDiff, Nat.zero_add, Nat.add_zero, Bool.not_true, Bool.not_false, Bool.not_not, true_and, and_true, false_and, and_false, true_or, or_true, false_or, or_false, if_true, if_false, ite_true, ite_false, Bool.false_eq_true, reduceIte, reduceCtorEq, eq_self_iff_true, and_self, or_self, put_same, del_same, decide_true, decide_false, String.reduceEq, List.mem_cons, List.not_mem_nil, Int.reduceNeg, Int.reduceEq, Int.reduceLT, ne_eq, not_true_eq_false, not_false_eq_true, Z.kit_NoneType_int, Z.kit_bool_int, Z.kit_dict_int, Z.kit_int_int, Z.kit_list_int, Z.kit_str_int, Z.kit_tuple_int, Z.cls_Words, Z.cls_Words.cls, Z.kit_Words_int, Z.cls_Ratio, Z.cls_Ratio.cls, Z.kit_Ratio_int, Z.cls_Rounding, Z.cls_Rounding.cls, Z.kit_Rounding_int, Z.kit_NoneType_bool, Z.kit_bool_bool, Z.kit_dict_bool, Z.kit_int_bool, Z.kit_list_bool, Z.kit_str_bool, Z.kit_tuple_bool, Z.kit_Words_bool, Z.kit_Ratio_bool, Z.kit_Rounding_bool, Z.no_Ratio_over, Z.no_Ratio_under, Z.kit_NoneType_Ratio, Z.kit_bool_Ratio, Z.kit_dict_Ratio, Z.kit_int_Ratio, Z.kit_list_Ratio, Z.kit_str_Ratio, Z.kit_tuple_Ratio, Z.kit_Words_Ratio, Z.kit_Ratio_Ratio, Z.kit_Rounding_Ratio, Z.no_Rounding_threshold, Z.no_Rounding_is_from, lkF_self, asR_rat, toQ_rat, anyD_non, anyD_bl, anyD_int, anyD_str, anyD_tup, anyD_lst, anyD_wls, anyD_dict, isIntD_non, isIntD_bl, isIntD_int, isIntD_str, isIntD_tup, isIntD_lst, isIntD_wls, isIntD_dict, isNumD_non, isNumD_bl, isNumD_int, isNumD_str, isNumD_tup, isNumD_lst, isNumD_wls, isNumD_dict, toQ_non, toQ_bl, toQ_int, toQ_str, toQ_tup, toQ_lst, toQ_wls, toQ_dict, yOk_non, yOk_bl, yOk_int, yOk_str, yOk_tup, yOk_lst, yOk_wls, yOk_dict, cOk_non, cOk_bl, cOk_int, cOk_str, cOk_tup, cOk_lst, cOk_wls, cOk_dict, oddD, yOk_ins, cOk_ins, anyD_ins, isIntD_ins, isNumD_ins, BEq.rfl, mEqD_ii, mNeD_ii, mEqD_insL, mNeD_insL, mEqD_insR, mNeD_insR, asRd_rnd, put_put, Bool.false_or, Bool.or_false, Bool.or_true, Bool.true_or, Bool.and_true, Bool.true_and, Bool.and_false, Bool.false_and, Option.map_some, decide_eq_true_eq, lk_Ratio_over, pt_Ratio_over, lk_Ratio_under, pt_Ratio_under, nf_Ratio_divided, nf_Ratio_floor, lk_Words_all_words, pt_Words_all_words, lk_Words_taken, pt_Words_taken, lk_Rounding_threshold, pt_Rounding_threshold, lk_Rounding_is_from, pt_Rounding_is_from, nf_Rounding_stepped, nf_Rounding_is_step, nf_Rounding_before, nf_Rounding_behind, nf_Rounding_places, ↓c__law_pen.eq_1, ↓c__law_pen.eq_2, ↓c__law_draw.eq_1, ↓c__law_draw.eq_2, ↓c__law_pick.eq_1, ↓c__law_pick.eq_2, ↓c__law_frac.eq_1, ↓c__law_frac.eq_2, ↓c__law_number.eq_1, ↓c__law_number.eq_2, ↓c__law_kind.eq_1, ↓c__law_kind.eq_2, ↓c_is_integer.eq_1, ↓c_is_integer.eq_2, ↓c_divisor.eq_1, ↓c_divisor.eq_2, ↓c_new_Ratio.eq_1, ↓c_new_Ratio.eq_2, ↓c_new_Ratio.eq_3, ↓c_new_Ratio.eq_4, ↓c_is_number.eq_1, ↓c_is_number.eq_2, ↓c_Ratio_of.eq_1, ↓c_Ratio_of.eq_2, ↓c_Ratio___lt__.eq_1, ↓c_Ratio___lt__.eq_2, ↓c_Ratio___ge__.eq_1, ↓c_Ratio___ge__.eq_2, ↓c_Ratio___gt__.eq_1, ↓c_Ratio___gt__.eq_2, ↓c_Ratio___le__.eq_1, ↓c_Ratio___le__.eq_2, ↓c_is_same.eq_1, ↓c_is_same.eq_2, ↓c_Ratio___eq__.eq_1, ↓c_Ratio___eq__.eq_2, ↓c_Ratio___bool__.eq_1, ↓c_Ratio___bool__.eq_2, ↓c_new_Rounding.eq_1, ↓c_new_Rounding.eq_2, ↓c__law_rounding.eq_1, ↓c__law_rounding.eq_2, ↓c_Ratio___add__.eq_1, ↓c_Ratio___add__.eq_2, ↓c_need_number.eq_1, ↓c_need_number.eq_2, ↓c_Rounding_stepped.eq_1, ↓c_Rounding_stepped.eq_2, ↓c_Rounding___call__.eq_1, ↓c_Rounding___call__.eq_2, ↓c_Ratio___neg__.eq_1, ↓c_Ratio___neg__.eq_2, ↓c_Ratio___sub__.eq_1, ↓c_Ratio___sub__.eq_2, ↓c_Ratio_divided.eq_1, ↓c_Ratio_divided.eq_2, ↓c_Ratio_floor.eq_1, ↓c_Ratio_floor.eq_2, ↓c_Ratio___floordiv__.eq_1, ↓c_Ratio___floordiv__.eq_2, ↓c_Ratio___mul__.eq_1, ↓c_Ratio___mul__.eq_2, ↓c_Ratio___mod__.eq_1, ↓c_Ratio___mod__.eq_2, ↓c_Rounding_is_step.eq_1, ↓c_Rounding_is_step.eq_2, ↓c_Rounding_behind.eq_1, ↓c_Rounding_behind.eq_2, ↓c_Rounding_before.eq_1, ↓c_Rounding_before.eq_2, ↓c_Rounding_places.eq_1, ↓c_Rounding_places.eq_2, ↓c__law_right.eq_1, ↓c__law_right.eq_2, ↓c_law.eq_1, ↓c_law.eq_2, $ts,*])
section
variable {P : Program} {w : World} {K : PySem.W.Frag} {mg : Str → Option Value} {base : Heap}
/-! _law_pen -/
def b__law_pen (K : PySem.W.Frag) : FS :=
    (sRet (mLstM (mCons (mCall mListF [] (mCons (mSl mSlL (mVar 0) oNone (oSome (mC (.int 63)))) mNil)) (mCons (mC (.int 0)) (mCons (mC (.int 0)) mNil)))))
def m__law_pen (K : PySem.W.Frag) : FM := bodyM 1 1 (b__law_pen K)
theorem cl__law_pen (Z : Zf P w K mg) {ds : List D} {μ : MS} {Q : D → MS → Prop} {X : MX} (h : c__law_pen K ds μ Q X) : m__law_pen K ds μ Q X := by
  unfold c__law_pen at h
  split at h
  · obtain ⟨⟨ns, rfl⟩, h⟩ := h
    unfold m__law_pen b__law_pen
    simp_arith [cut60, cut63]
    refine ⟨by show 3 ≤ sizeLine; decide, fun p hp => h p _ hp ⟨_, 0, 0, rfl, by decide, by decide, by decide, by rw [List.length_take]; omega⟩⟩
  · exact h.elim
theorem fo__law_pen {fd : FuncData} (M : MT mg K) (Z : Zf P w K mg) (F : FnP K d__law_pen fd) :
    FnOk P w K mg base (L2.CX P w) 1 (a__law_pen K) fd ["_law_script"] (spF K (Tt K) (c__law_pen K)) :=
  FnOk.impM (fnM (b := b__law_pen K) F sc__law_pen (fun cdv A outer s H E hr =>
    (pssm_one (psm_ret (pm_lstM (pam_cons (pm_callTy f_list (by rfl) M.f_list (by decide +kernel) (pam_cons (pm_slice s_list (pmv 0) pom_none (pom_some pm_int)) pam_nil)) (pam_cons pm_int (pam_cons pm_int pam_nil)))))))) (fun ds μ Q X h => cl__law_pen Z h)
theorem ok__law_pen {fd : FuncData} (M : MT mg K) (Z : Zf P w K mg) (F : FnP K d__law_pen fd) :
    DnM P w K mg base (Tt K) 1 (a__law_pen K) ["_law_script"] [] (c__law_pen K) :=
  dn_mk F rfl (fun _ _ _ _ _ _ us hl => match us, hl with | [_], _ => rfl) (fo__law_pen M Z  F)
/-! _law_draw -/
def b__law_draw (K : PySem.W.Frag) : FS :=
    (sSeq (sIf (mTest (mOp mGt (mOp mIx (mVar 0) (mC (.int 2))) (mC (.int 0))))
      (sSeq (sSet 2 (mOp mMod (mCall mInt [] (mCons (mOp mIx (mVar 0) (mC (.int 2))) mNil)) (mVar 1)))
      (sSeq (sAsg (mOp mFdiv (mCall mInt [] (mCons (mOp mIx (mVar 0) (mC (.int 2))) mNil)) (mVar 1)) (gmSub (mVar 0) (mC (.int 2)) mSetL))
      (sRet (mVar 2))))
      sNext)
    (sSeq (sSet 3 (mOp mIx (mVar 0) (mC (.int 1))))
    (sSeq (sAsg (mOp mAdd (mVar 3) (mC (.int 1))) (gmSub (mVar 0) (mC (.int 1)) mSetL))
    (sSeq (sSet 4 (mOp mAdd (mOp mMul (mC (.int 64437)) (mVar 3)) (mC (.int 2151))))
    (sSeq (sIf (mTest (mOp mNeD (mOp mIx (mVar 0) (mC (.int 0))) (mLst mNil)))
      (sSet 4 (mOp mIx (mOp mIx (mVar 0) (mC (.int 0))) (mOp mMod (mCall mInt [] (mCons (mVar 3) mNil)) (mCall mLen [] (mCons (mOp mIx (mVar 0) (mC (.int 0))) mNil)))))
      sNext)
    (sSeq (sIf (mAnd (mTest (mOp mLt (mVar 3) (mCall mLen [] (mCons (mOp mIx (mVar 0) (mC (.int 0))) mNil)))) (mTest (mOp mGe (mCall mAbs [] (mCons (mVar 4) mNil)) (mOp mPow (mC (.int 10)) (mC (.int 18))))))
      (sSeq (sSet 5 (mOp mAdd (mOp mMul (mC (.int 2)) (mOp mSub (mCall mAbs [] (mCons (mVar 4) mNil)) (mOp mPow (mC (.int 10)) (mC (.int 18))))) (mCall mInt [] (mCons (mOp mLt (mVar 4) (mC (.int 0))) mNil))))
      (sSeq (sAsg (mOp mFdiv (mCall mInt [] (mCons (mVar 5) mNil)) (mVar 1)) (gmSub (mVar 0) (mC (.int 2)) mSetL))
      (sRet (mOp mMod (mCall mInt [] (mCons (mVar 5) mNil)) (mVar 1)))))
      sNext)
    (sSeq (sSet 6 (mOp mMod (mCall mInt [] (mCons (mOp mPow (mOp mAdd (mOp mAdd (mOp mMod (mCall mInt [] (mCons (mVar 4) mNil)) (mC (.int 2147483579))) (mOp mMul (mC (.int 5913)) (mVar 3))) (mC (.int 2151))) (mC (.int 5))) mNil)) (mC (.int 2147483629))))
    (sSeq (sSet 6 (mOp mMod (mCall mInt [] (mCons (mOp mPow (mOp mAdd (mOp mAdd (mOp mMul (mVar 6) (mOp mAdd (mOp mMul (mC (.int 2)) (mVar 3)) (mC (.int 413)))) (mOp mMul (mOp mMul (mC (.int 31689)) (mVar 3)) (mVar 3))) (mC (.int 64437))) (mC (.int 3))) mNil)) (mC (.int 2147483563))))
    (sRet (mOp mMod (mCall mInt [] (mCons (mOp mFdiv (mVar 6) (mC (.int 32))) mNil)) (mVar 1)))))))))))
def m__law_draw (K : PySem.W.Frag) : FM := bodyM 2 7 (b__law_draw K)
theorem cl__law_draw (Z : Zf P w K mg) {ds : List D} {μ : MS} {Q : D → MS → Prop} {X : MX} (h : c__law_draw K ds μ Q X) : m__law_draw K ds μ Q X := by
  unfold c__law_draw at h
  split at h
  · rename_i a m
    obtain ⟨v, n, hv, ⟨cs, spot, great, rfl, h0, h1, hg, hl⟩, hn, hm0, hm1, k⟩ := h
    have e64 : (2 : Int) ^ 64 = 18446744073709551616 := by decide
    have n64 : (2 : Nat) ^ 64 = 18446744073709551616 := by decide
    have mne : ¬ m = 0 := by omega
    have mlog : m.natAbs.log2 < 9000 := Nat.lt_trans (PySem.Flt.log2_lt_of (k := 64) (by decide) (by omega)) (by decide)
    unfold m__law_draw b__law_draw
    simp_arith [hv, neD_ints_nil, atI_0, atI_1, atI_2, ixN_31, ixN_32, mne, mlog, List.length_map]
    by_cases c1 : (0 : Int) < great
    · rw [if_pos c1]
      exact k _ _ (fm0 hm0) (fm1 hm0) ⟨cs, spot, _, rfl, h0, by omega, fd0 hg hm0, hl⟩
    · rw [if_neg c1]
      refine ⟨mulL (by decide), Nat.zero_le _, ?_⟩
      have km : ∀ r, 0 ≤ r → r < m → Q (.int r) (put μ a (MO.lst [D.lst (intsD cs), D.int (spot + 1), D.int great])) := fun r r0 r1 => k _ _ r0 r1 ⟨cs, spot + 1, great, rfl, by omega, by omega, hg, hl⟩
      have e10 : CPow 10 18 := ⟨by decide, by decide, by decide⟩
      cases hc : cs.isEmpty with
      | true =>
        have hcs : cs = [] := List.isEmpty_iff.mp hc
        subst hcs
        simp_arith [List.length_nil, Int.ofNat_zero, mne, mlog]
        rw [if_neg (by omega : ¬ spot < 0)]
        exact mix_leaf (by decide) (by decide) (by decide) (by decide) (by decide) (by decide) (by decide) h0 (by omega) (km _ (fm0 hm0) (fm1 hm0))
      | false =>
        have hcs : 0 < cs.length := by
          cases cs with
          | nil => cases hc
          | cons => simp
        have hl0 : ¬ ((cs.length : Int) = 0) := by omega
        obtain ⟨z, hz⟩ := atI_ints (cs := cs) (i := spot.fmod cs.length) (fm0 (by omega)) (fm1 (by omega))
        simp_arith [hz, hl0, mne, mlog]
        by_cases c2 : spot < (cs.length : Int)
        · rw [if_pos c2]
          refine ⟨e10, ?_⟩
          by_cases c3 : ipow 10 (Int.toNat 18) ≤ (if z < 0 then -z else z)
          · rw [if_pos c3]
            refine ⟨e10, mulL (by decide), ?_⟩
            refine k _ _ (fm0 hm0) (fm1 hm0) ⟨cs, spot + 1, _, rfl, by omega, by omega, fd0 ?_ hm0, hl⟩
            have e : (0 : Int) ≤ (if decide (z < 0) = true then 1 else 0) := by split <;> decide
            omega
          · rw [if_neg c3]
            exact mix_leaf (by decide) (by decide) (by decide) (by decide) (by decide) (by decide) (by decide) h0 (by omega) (km _ (fm0 hm0) (fm1 hm0))
        · rw [if_neg c2]
          exact mix_leaf (by decide) (by decide) (by decide) (by decide) (by decide) (by decide) (by decide) h0 (by omega) (km _ (fm0 hm0) (fm1 hm0))
  · exact h.elim
theorem fo__law_draw {fd : FuncData} (M : MT mg K) (Z : Zf P w K mg) (F : FnP K d__law_draw fd) :
    FnOk P w K mg base (L2.CX P w) 1 (a__law_draw K) fd ["_law_pen_here", "_law_many"] (spF K (Tt K) (c__law_draw K)) :=
  FnOk.impM (fnM (b := b__law_draw K) F sc__law_draw (fun cdv A outer s H E hr =>
    (pssm_cons (psm_if (ptm_cmp o_gt (pm_ix i_seq (pmv 0) pm_int (fun _ _ => rfl)) pm_int (nomark _))
      (pssm_cons (psm_set (i := 2) sc__law_draw.nd rfl (Or.inl rfl) (pm_op o_mod (pm_callTy f_int (by rfl) M.f_int (by decide +kernel) (pam_cons (pm_ix i_seq (pmv 0) pm_int (fun _ _ => rfl)) pam_nil)) (pmv 1)))
      (pssm_cons (psm_asg (pm_op o_fdiv (pm_callTy f_int (by rfl) M.f_int (by decide +kernel) (pam_cons (pm_ix i_seq (pmv 0) pm_int (fun _ _ => rfl)) pam_nil)) (pmv 1)) (pgm_sub (pmv 0) pm_int psetm_list))
      (pssm_one (psm_ret (pmv 2)))))
      pssm_nil)
    (pssm_cons (psm_set (i := 3) sc__law_draw.nd rfl (Or.inl rfl) (pm_ix i_seq (pmv 0) pm_int (fun _ _ => rfl)))
    (pssm_cons (psm_asg (pm_op o_add (pmv 3) pm_int) (pgm_sub (pmv 0) pm_int psetm_list))
    (pssm_cons (psm_set (i := 4) sc__law_draw.nd rfl (Or.inl rfl) (pm_op o_add (pm_op o_mul pm_int (pmv 3)) pm_int))
    (pssm_cons (psm_if (ptm_cmp (o_neD hr.units) (pm_ix i_seq (pmv 0) pm_int (fun _ _ => rfl)) (pm_lst pam_nil) (nomark _))
      (pssm_one (psm_set (i := 4) sc__law_draw.nd rfl (Or.inl rfl) (pm_ix i_seq (pm_ix i_seq (pmv 0) pm_int (fun _ _ => rfl)) (pm_op o_mod (pm_callTy f_int (by rfl) M.f_int (by decide +kernel) (pam_cons (pmv 3) pam_nil)) (pm_callB f_len (by rfl) M.f_len (by decide +kernel) (pam_cons (pm_ix i_seq (pmv 0) pm_int (fun _ _ => rfl)) pam_nil))) (fun _ _ => rfl))))
      pssm_nil)
    (pssm_cons (psm_if (PWM.pt (pwm_and (ptm_cmp o_lt (pmv 3) (pm_callB f_len (by rfl) M.f_len (by decide +kernel) (pam_cons (pm_ix i_seq (pmv 0) pm_int (fun _ _ => rfl)) pam_nil)) (nomark _)) (pwm_and1 (ptm_cmp o_ge (pm_callB f_abs (by rfl) M.f_abs (by decide +kernel) (pam_cons (pmv 4) pam_nil)) (pm_op o_pow pm_int pm_int) (nomark _)))))
      (pssm_cons (psm_set (i := 5) sc__law_draw.nd rfl (Or.inl rfl) (pm_op o_add (pm_op o_mul pm_int (pm_op o_sub (pm_callB f_abs (by rfl) M.f_abs (by decide +kernel) (pam_cons (pmv 4) pam_nil)) (pm_op o_pow pm_int pm_int))) (pm_callTy f_int (by rfl) M.f_int (by decide +kernel) (pam_cons (pm_cmp o_lt (pmv 4) pm_int (nomark _)) pam_nil))))
      (pssm_cons (psm_asg (pm_op o_fdiv (pm_callTy f_int (by rfl) M.f_int (by decide +kernel) (pam_cons (pmv 5) pam_nil)) (pmv 1)) (pgm_sub (pmv 0) pm_int psetm_list))
      (pssm_one (psm_ret (pm_op o_mod (pm_callTy f_int (by rfl) M.f_int (by decide +kernel) (pam_cons (pmv 5) pam_nil)) (pmv 1))))))
      pssm_nil)
    (pssm_cons (psm_set (i := 6) sc__law_draw.nd rfl (Or.inl rfl) (pm_op o_mod (pm_callTy f_int (by rfl) M.f_int (by decide +kernel) (pam_cons (pm_op o_pow (pm_op o_add (pm_op o_add (pm_op o_mod (pm_callTy f_int (by rfl) M.f_int (by decide +kernel) (pam_cons (pmv 4) pam_nil)) pm_int) (pm_op o_mul pm_int (pmv 3))) pm_int) pm_int) pam_nil)) pm_int))
    (pssm_cons (psm_set (i := 6) sc__law_draw.nd rfl (Or.inl rfl) (pm_op o_mod (pm_callTy f_int (by rfl) M.f_int (by decide +kernel) (pam_cons (pm_op o_pow (pm_op o_add (pm_op o_add (pm_op o_mul (pmv 6) (pm_op o_add (pm_op o_mul pm_int (pmv 3)) pm_int)) (pm_op o_mul (pm_op o_mul pm_int (pmv 3)) (pmv 3))) pm_int) pm_int) pam_nil)) pm_int))
    (pssm_one (psm_ret (pm_op o_mod (pm_callTy f_int (by rfl) M.f_int (by decide +kernel) (pam_cons (pm_op o_fdiv (pmv 6) pm_int) pam_nil)) (pmv 1)))))))))))))) (fun ds μ Q X h => cl__law_draw Z h)
theorem ok__law_draw {fd : FuncData} (M : MT mg K) (Z : Zf P w K mg) (F : FnP K d__law_draw fd) :
    DnM P w K mg base (Tt K) 1 (a__law_draw K) ["_law_pen_here", "_law_many"] [] (c__law_draw K) :=
  dn_mk F rfl (fun _ _ _ _ _ _ us hl => match us, hl with | [_, _], _ => rfl) (fo__law_draw M Z  F)
/-! _law_pick -/
def b__law_pick (K : PySem.W.Frag) : FS :=
    (sRet (mOp mIx (mVar 1) (mCall (c__law_draw K) [] (mCons (mVar 0) (mCons (mCall mLen [] (mCons (mVar 1) mNil)) mNil)))))
def m__law_pick (K : PySem.W.Frag) : FM := bodyM 2 2 (b__law_pick K)
theorem cl__law_pick (Z : Zf P w K mg) {ds : List D} {μ : MS} {Q : D → MS → Prop} {X : MX} (h : c__law_pick K ds μ Q X) : m__law_pick K ds μ Q X := by
  unfold c__law_pick at h
  split at h
  · rename_i a xs
    obtain ⟨v, n, hv, hp, hn, hx, hl, k⟩ := h
    have hpos : 0 < xs.length := List.length_pos_iff.mpr hx
    have e64 : (2 : Int) ^ 64 = 18446744073709551616 := by decide
    have n60 : (2 : Nat) ^ 60 = 1152921504606846976 := by decide
    unfold m__law_pick b__law_pick
    simp_arith []
    refine ⟨v, n, hv, hp, hn, by omega, by omega, fun r v' r0 r1 hp' => ?_⟩
    obtain ⟨x, e, hm⟩ := atI_in (xs := xs) r0 r1
    simp_arith [e]
    exact k x v' hm hp'
  · exact h.elim
theorem fo__law_pick {fd : FuncData} (M : MT mg K) (Z : Zf P w K mg) (D__law_draw : DnM P w K mg base (Tt K) 1 (a__law_draw K) ["_law_pen_here", "_law_many"] [] (c__law_draw K)) (F : FnP K d__law_pick fd) :
    FnOk P w K mg base (L2.CX P w) 2 (a__law_pick K) fd ["_law_pen_here", "_law_some"] (spF K (Tt K) (c__law_pick K)) :=
  FnOk.impM (fnM (b := b__law_pick K) F sc__law_pick (fun cdv A outer s H E hr =>
    (pssm_one (psm_ret (pm_ix i_seq (pmv 1) (pm_call (dv := []) (dd := []) D__law_draw 0 (hr.mono (by decide)) rfl M.g__law_draw passX (pam_cons (pmv 0) (pam_cons (pm_callB f_len (by rfl) M.f_len (by decide +kernel) (pam_cons (pmv 1) pam_nil)) pam_nil)) (fun _ => .nil)) (fun _ _ => rfl)))))) (fun ds μ Q X h => cl__law_pick Z h)
theorem ok__law_pick {fd : FuncData} (M : MT mg K) (Z : Zf P w K mg) (D__law_draw : DnM P w K mg base (Tt K) 1 (a__law_draw K) ["_law_pen_here", "_law_many"] [] (c__law_draw K)) (F : FnP K d__law_pick fd) :
    DnM P w K mg base (Tt K) 2 (a__law_pick K) ["_law_pen_here", "_law_some"] [] (c__law_pick K) :=
  dn_mk F rfl (fun _ _ _ _ _ _ us hl => match us, hl with | [_, _], _ => rfl) (fo__law_pick M Z D__law_draw F)
end
end Mz

namespace Mz
open PySem PySem.Spec PyProof.Rows L2 AzX ClX LamX Hz He Az
local macro_rules | `(tactic| walk_at "ev") => `(tactic| simp (config := {decide := false}) only [↓mEqW.eq_1, ↓mNeW.eq_1, ↓mFmtO.eq_1, ↓mCallP.eq_1, ↓mMethP.eq_1, ↓mCMethP.eq_1, ↓mCallO.eq_1, ↓mMakeP.eq_1, ↓bArgs.eq_1, ↓selA.eq_1, ↓selA.eq_2, ↓selA.eq_3, ↓selA.eq_4, ↓mSorted.eq_1, Option.getD_some, Option.getD_none, ↓mLc.eq_1, ↓goLc.eq_1, ↓goLc.eq_2, ↓wipeM.eq_1, ↓wipeM.eq_2, ↓bodyM.eq_1, ↓mVar.eq_1, ↓mC.eq_1, ↓mOp.eq_1, ↓mTest.eq_1, ↓mChain.eq_1, ↓mUn.eq_1, ↓mTru.eq_1, ↓dTru.eq_1, ↓dTru.eq_2, ↓dTru.eq_3, ↓dTru.eq_4, ↓dTru.eq_5, ↓dTru.eq_6, ↓dTru.eq_7, ↓dTru.eq_8, ↓dTru.eq_9, ↓dTru.eq_10, ↓mTr.eq_1, ↓mAnd.eq_1, ↓mOr.eq_1, ↓mNot.eq_1, ↓mAndV.eq_1, ↓mOrV.eq_1, ↓mNotV.eq_1, ↓mIf.eq_1, ↓mNil.eq_1, ↓mCons.eq_1, ↓mTup.eq_1, ↓mLst.eq_1, ↓mLstM.eq_1, ↓mAlt.eq_1, ↓uAlt.eq_1, ↓tAlt.eq_1, ↓fAlt.eq_1, ↓eAlt.eq_1, ↓lAlt.eq_1, ↓bAlt.eq_1, ↓gmName.eq_1, ↓gmNil.eq_1, ↓gmNil.eq_2, ↓gmCons.eq_1, ↓gmCons.eq_2, ↓gmTup.eq_1, ↓gmTup.eq_2, ↓gmSub.eq_1, ↓mSetL.eq_1, ↓mSetL.eq_2, ↓sNext.eq_1, ↓sSeq.eq_1, ↓sBreak.eq_1, ↓sCont.eq_1, ↓sExpr.eq_1, ↓sRet.eq_1, ↓sRetN.eq_1, ↓sIf.eq_1, ↓sSet.eq_1, ↓sAsg.eq_1, ↓sPar.eq_1, ↓sPar3.eq_1, ↓sAug.eq_1, ↓sFldM.eq_1, ↓sFldAugM.eq_1, ↓sFor.eq_1, ↓iLs.eq_1, ↓iTupM.eq_1, ↓iRange1.eq_1, ↓mCall.eq_1, ↓isC.eq_1, ↓isC.eq_2, ↓isC.eq_3, ↓mMeth.eq_1, ↓insC.eq_1, ↓insC.eq_2, ↓insC.eq_3, ↓mProp.eq_1, ↓mFld.eq_1, ↓mOwn.eq_1, ↓mOwn.eq_2, ↓mOwnR.eq_1, ↓mOwnR.eq_2, ↓mCmpO.eq_1, ↓mCmpO.eq_2, ↓kNotM.eq_1, ↓kNotM.eq_2, ↓mNeO.eq_1, ↓mNeO.eq_2, ↓mNeR.eq_1, ↓mNeR.eq_2, ↓mOwnU.eq_1, ↓mOwnU.eq_2, ↓kBlM.eq_1, ↓kBlM.eq_2, ↓mTruO.eq_1, ↓mTruO.eq_2, ↓mBoolO.eq_1, ↓mBoolO.eq_2, ↓kStrM.eq_1, ↓kStrM.eq_2, ↓mStrO.eq_1, ↓mStrO.eq_2, ↓mII.eq_1, ↓mII.eq_2, ↓mII0.eq_1, ↓mII0.eq_2, ↓mNeg.eq_1, ↓mNeg.eq_2, ↓mAddS.eq_1, ↓mAddS.eq_2, ↓noneD.eq_1, ↓noneD.eq_2, ↓mIsN.eq_1, ↓mIsN.eq_2, ↓mNotN.eq_1, ↓mNotN.eq_2, ↓mIsB.eq_1, ↓mIsB.eq_2, ↓mInt.eq_1, ↓mInt.eq_2, ↓mInt.eq_3, ↓mIntS.eq_1, ↓mIntS.eq_2, ↓mAbs.eq_1, ↓mAbs.eq_2, ↓mLen.eq_1, ↓mLen.eq_2, ↓mLen.eq_3, ↓mListF.eq_1, ↓mListF.eq_2, ↓mListM.eq_1, ↓mListM.eq_2, ↓mTupF.eq_1, ↓mTupF.eq_2, ↓mTupF.eq_3, ↓mBool1.eq_1, ↓mBool1.eq_2, ↓mBool1.eq_3, ↓mStrI.eq_1, ↓mStrI.eq_2, ↓mIx.eq_1, ↓mIx.eq_2, ↓mIxS.eq_1, ↓mIxS.eq_2, ↓mSl.eq_1, ↓mSlL.eq_1, ↓mSlS.eq_1, ↓mSlS.eq_2, ↓oNone.eq_1, ↓oSome.eq_1, ↓seqD.eq_1, ↓seqD.eq_2, ↓seqD.eq_3, ↓seqD.eq_4, ↓seqD.eq_5, ↓lsD.eq_1, ↓lsD.eq_2, ↓lsD.eq_3, ↓lsD.eq_4, ↓mdD.eq_1, ↓mdD.eq_2, ↓mdD.eq_3, ↓mCatL.eq_1, ↓mRepL.eq_1, ↓mRepL.eq_2, ↓isT.eq_1, ↓isT.eq_2, ↓isT.eq_3, ↓isT.eq_4, ↓isT.eq_5, ↓isT.eq_6, ↓mBM.eq_1, ↓bAppend.eq_1, ↓bAppend.eq_2, ↓bSplit.eq_1, ↓bSplit.eq_2, ↓bStarts.eq_1, ↓bStarts.eq_2, ↓bJoin.eq_1, ↓bJoin.eq_2, ↓mFmt.eq_1, ↓sRaise.eq_1, ↓mXat.eq_1, ↓mDict0.eq_1, ↓mNotT.eq_1, ↓mIsi.eq_1, ↓mIsi.eq_2, ↓mIsi.eq_3, ↓tyI.eq_1, ↓tyI.eq_2, ↓tyD.eq_1, ↓tyD.eq_2, ↓tyD.eq_3, ↓tyD.eq_4, ↓tyD.eq_5, ↓tyD.eq_6, ↓tyD.eq_7, ↓tyD.eq_8, ↓tyD.eq_9, ↓tyD.eq_10, ↓tyD.eq_11, ↓clsD.eq_1, ↓clsD.eq_2, ↓clsD.eq_3, ↓clsDs.eq_1, ↓clsDs.eq_2, ↓needT.eq_1, ↓needT.eq_2, ↓needT.eq_3, ↓needT.eq_4, ↓mHeard.eq_1, ↓mAsk.eq_1, ↓sTry.eq_1, ↓sFrz.eq_1, List.getElem?_cons_zero, List.getElem?_cons_succ, List.getElem?_nil, List.set_cons_zero, List.set_cons_succ, List.set_nil, List.length_cons, List.length_nil, List.map_cons, List.map_nil, List.cons_append, List.nil_append, List.append_nil, List.replicate_zero, List.replicate_succ, List.zip_cons_cons, List.zip_nil_left, List.zip_nil_right, Nat.reduceAdd, Nat.reduceSub, Nat.reduceEqDiff, Nat.reduceLT, Nat.reduceLeDiff, Nat.zero_add, Nat.add_zero, Bool.not_true, Bool.not_false, Bool.not_not, true_and, and_true, false_and, and_false, true_or, or_true, false_or, or_false, if_true, if_false, ite_true, ite_false, Bool.false_eq_true, reduceIte, reduceCtorEq, eq_self_iff_true, and_self, or_self, put_same, del_same, decide_true, decide_false, String.reduceEq, List.mem_cons, List.not_mem_nil, Int.reduceNeg, Int.reduceEq, Int.reduceLT, ne_eq, not_true_eq_false, not_false_eq_true])
set_option hygiene false in
local macro_rules | `(tactic| walk_at "evz") => `(tactic| simp (config := {decide := false}) only [↓mEqW.eq_1, ↓mNeW.eq_1, ↓mFmtO.eq_1, ↓mCallP.eq_1, ↓mMethP.eq_1, ↓mCMethP.eq_1, ↓mCallO.eq_1, ↓mMakeP.eq_1, ↓bArgs.eq_1, ↓selA.eq_1, ↓selA.eq_2, ↓selA.eq_3, ↓selA.eq_4, ↓mSorted.eq_1, Option.getD_some, Option.getD_none, ↓mLc.eq_1, ↓goLc.eq_1, ↓goLc.eq_2, ↓wipeM.eq_1, ↓wipeM.eq_2, ↓bodyM.eq_1, ↓mVar.eq_1, ↓mC.eq_1, ↓mOp.eq_1, ↓mTest.eq_1, ↓mChain.eq_1, ↓mUn.eq_1, ↓mTru.eq_1, ↓dTru.eq_1, ↓dTru.eq_2, ↓dTru.eq_3, ↓dTru.eq_4, ↓dTru.eq_5, ↓dTru.eq_6, ↓dTru.eq_7, ↓dTru.eq_8, ↓dTru.eq_9, ↓dTru.eq_10, ↓mTr.eq_1, ↓mAnd.eq_1, ↓mOr.eq_1, ↓mNot.eq_1, ↓mAndV.eq_1, ↓mOrV.eq_1, ↓mNotV.eq_1, ↓mIf.eq_1, ↓mNil.eq_1, ↓mCons.eq_1, ↓mTup.eq_1, ↓mLst.eq_1, ↓mLstM.eq_1, ↓mAlt.eq_1, ↓uAlt.eq_1, ↓tAlt.eq_1, ↓fAlt.eq_1, ↓eAlt.eq_1, ↓lAlt.eq_1, ↓bAlt.eq_1, ↓gmName.eq_1, ↓gmNil.eq_1, ↓gmNil.eq_2, ↓gmCons.eq_1, ↓gmCons.eq_2, ↓gmTup.eq_1, ↓gmTup.eq_2, ↓gmSub.eq_1, ↓mSetL.eq_1, ↓mSetL.eq_2, ↓sNext.eq_1, ↓sSeq.eq_1, ↓sBreak.eq_1, ↓sCont.eq_1, ↓sExpr.eq_1, ↓sRet.eq_1, ↓sRetN.eq_1, ↓sIf.eq_1, ↓sSet.eq_1, ↓sAsg.eq_1, ↓sPar.eq_1, ↓sPar3.eq_1, ↓sAug.eq_1, ↓sFldM.eq_1, ↓sFldAugM.eq_1, ↓sFor.eq_1, ↓iLs.eq_1, ↓iTupM.eq_1, ↓iRange1.eq_1, ↓mCall.eq_1, ↓isC.eq_1, ↓isC.eq_2, ↓isC.eq_3, ↓mMeth.eq_1, ↓insC.eq_1, ↓insC.eq_2, ↓insC.eq_3, ↓mProp.eq_1, ↓mFld.eq_1, ↓mOwn.eq_1, ↓mOwn.eq_2, ↓mOwnR.eq_1, ↓mOwnR.eq_2, ↓mCmpO.eq_1, ↓mCmpO.eq_2, ↓kNotM.eq_1, ↓kNotM.eq_2, ↓mNeO.eq_1, ↓mNeO.eq_2, ↓mNeR.eq_1, ↓mNeR.eq_2, ↓mOwnU.eq_1, ↓mOwnU.eq_2, ↓kBlM.eq_1, ↓kBlM.eq_2, ↓mTruO.eq_1, ↓mTruO.eq_2, ↓mBoolO.eq_1, ↓mBoolO.eq_2, ↓kStrM.eq_1, ↓kStrM.eq_2, ↓mStrO.eq_1, ↓mStrO.eq_2, ↓mII.eq_1, ↓mII.eq_2, ↓mII0.eq_1, ↓mII0.eq_2, ↓mNeg.eq_1, ↓mNeg.eq_2, ↓mAddS.eq_1, ↓mAddS.eq_2, ↓noneD.eq_1, ↓noneD.eq_2, ↓mIsN.eq_1, ↓mIsN.eq_2, ↓mNotN.eq_1, ↓mNotN.eq_2, ↓mIsB.eq_1, ↓mIsB.eq_2, ↓mInt.eq_1, ↓mInt.eq_2, ↓mInt.eq_3, ↓mIntS.eq_1, ↓mIntS.eq_2, ↓mAbs.eq_1, ↓mAbs.eq_2, ↓mLen.eq_1, ↓mLen.eq_2, ↓mLen.eq_3, ↓mListF.eq_1, ↓mListF.eq_2, ↓mListM.eq_1, ↓mListM.eq_2, ↓mTupF.eq_1, ↓mTupF.eq_2, ↓mTupF.eq_3, ↓mBool1.eq_1, ↓mBool1.eq_2, ↓mBool1.eq_3, ↓mStrI.eq_1, ↓mStrI.eq_2, ↓mIx.eq_1, ↓mIx.eq_2, ↓mIxS.eq_1, ↓mIxS.eq_2, ↓mSl.eq_1, ↓mSlL.eq_1, ↓mSlS.eq_1, ↓mSlS.eq_2, ↓oNone.eq_1, ↓oSome.eq_1, ↓seqD.eq_1, ↓seqD.eq_2, ↓seqD.eq_3, ↓seqD.eq_4, ↓seqD.eq_5, ↓lsD.eq_1, ↓lsD.eq_2, ↓lsD.eq_3, ↓lsD.eq_4, ↓mdD.eq_1, ↓mdD.eq_2, ↓mdD.eq_3, ↓mCatL.eq_1, ↓mRepL.eq_1, ↓mRepL.eq_2, ↓isT.eq_1, ↓isT.eq_2, ↓isT.eq_3, ↓isT.eq_4, ↓isT.eq_5, ↓isT.eq_6, ↓mBM.eq_1, ↓bAppend.eq_1, ↓bAppend.eq_2, ↓bSplit.eq_1, ↓bSplit.eq_2, ↓bStarts.eq_1, ↓bStarts.eq_2, ↓bJoin.eq_1, ↓bJoin.eq_2, ↓mFmt.eq_1, ↓sRaise.eq_1, ↓mXat.eq_1, ↓mDict0.eq_1, ↓mNotT.eq_1, ↓mIsi.eq_1, ↓mIsi.eq_2, ↓mIsi.eq_3, ↓tyI.eq_1, ↓tyI.eq_2, ↓tyD.eq_1, ↓tyD.eq_2, ↓tyD.eq_3, ↓tyD.eq_4, ↓tyD.eq_5, ↓tyD.eq_6, ↓tyD.eq_7, ↓tyD.eq_8, ↓tyD.eq_9, ↓tyD.eq_10, ↓tyD.eq_11, ↓clsD.eq_1, ↓clsD.eq_2, ↓clsD.eq_3, ↓clsDs.eq_1, ↓clsDs.eq_2, ↓needT.eq_1, ↓needT.eq_2, ↓needT.eq_3, ↓needT.eq_4, ↓mHeard.eq_1, ↓mAsk.eq_1, ↓sTry.eq_1, ↓sFrz.eq_1, List.getElem?_cons_zero, List.getElem?_cons_succ, List.getElem?_nil, List.set_cons_zero, List.set_cons_succ, List.set_nil, List.length_cons, List.length_nil, List.map_cons, List.map_nil, List.cons_append, List.nil_append, List.append_nil, List.replicate_zero, List.replicate_succ, List.zip_cons_cons, List.zip_nil_left, List.zip_nil_right, Nat.reduceAdd, Nat.reduceSub, Nat.reduceEqDiff, Nat.reduceLT, Nat.reduceLeDiff, Nat.zero_add, Nat.add_zero, Bool.not_true, Bool.not_false, Bool.not_not, true_and, and_true, false_and, and_false, true_or, or_true, false_or, or_false, if_true, if_false, ite_true, ite_false, Bool.false_eq_true, reduceIte, reduceCtorEq, eq_self_iff_true, and_self, or_self, put_same, del_same, decide_true, decide_false, String.reduceEq, List.mem_cons, List.not_mem_nil, Int.reduceNeg, Int.reduceEq, Int.reduceLT, ne_eq, not_true_eq_false, not_false_eq_true, Z.kit_NoneType_int, Z.kit_bool_int, Z.kit_dict_int, Z.kit_int_int, Z.kit_list_int, Z.kit_str_int, Z.kit_tuple_int, Z.cls_Words, Z.cls_Words.cls, Z.kit_Words_int, Z.cls_Ratio, Z.cls_Ratio.cls, Z.kit_Ratio_int, Z.cls_Rounding, Z.cls_Rounding.cls, Z.kit_Rounding_int, Z.kit_NoneType_bool, Z.kit_bool_bool, Z.kit_dict_bool, Z.kit_int_bool, Z.kit_list_bool, Z.kit_str_bool, Z.kit_tuple_bool, Z.kit_Words_bool, Z.kit_Ratio_bool, Z.kit_Rounding_bool, Z.no_Ratio_over, Z.no_Ratio_under, Z.kit_NoneType_Ratio, Z.kit_bool_Ratio, Z.kit_dict_Ratio, Z.kit_int_Ratio, Z.kit_list_Ratio, Z.kit_str_Ratio, Z.kit_tuple_Ratio, Z.kit_Words_Ratio, Z.kit_Ratio_Ratio, Z.kit_Rounding_Ratio, Z.no_Rounding_threshold, Z.no_Rounding_is_from, lkF_self, asR_rat, toQ_rat, anyD_non, anyD_bl, anyD_int, anyD_str, anyD_tup, anyD_lst, anyD_wls, anyD_dict, isIntD_non, isIntD_bl, isIntD_int, isIntD_str, isIntD_tup, isIntD_lst, isIntD_wls, isIntD_dict, isNumD_non, isNumD_bl, isNumD_int, isNumD_str, isNumD_tup, isNumD_lst, isNumD_wls, isNumD_dict, toQ_non, toQ_bl, toQ_int, toQ_str, toQ_tup, toQ_lst, toQ_wls, toQ_dict, yOk_non, yOk_bl, yOk_int, yOk_str, yOk_tup, yOk_lst, yOk_wls, yOk_dict, cOk_non, cOk_bl, cOk_int, cOk_str, cOk_tup, cOk_lst, cOk_wls, cOk_dict, oddD, yOk_ins, cOk_ins, anyD_ins, isIntD_ins, isNumD_ins, BEq.rfl, mEqD_ii, mNeD_ii, mEqD_insL, mNeD_insL, mEqD_insR, mNeD_insR, asRd_rnd, put_put, Bool.false_or, Bool.or_false, Bool.or_true, Bool.true_or, Bool.and_true, Bool.true_and, Bool.and_false, Bool.false_and, Option.map_some, decide_eq_true_eq, lk_Ratio_over, pt_Ratio_over, lk_Ratio_under, pt_Ratio_under, nf_Ratio_divided, nf_Ratio_floor, lk_Words_all_words, pt_Words_all_words, lk_Words_taken, pt_Words_taken, lk_Rounding_threshold, pt_Rounding_threshold, lk_Rounding_is_from, pt_Rounding_is_from, nf_Rounding_stepped, nf_Rounding_is_step, nf_Rounding_before, nf_Rounding_behind, nf_Rounding_places, ↓c__law_pen.eq_1, ↓c__law_pen.eq_2, ↓c__law_draw.eq_1, ↓c__law_draw.eq_2, ↓c__law_pick.eq_1, ↓c__law_pick.eq_2, ↓c__law_frac.eq_1, ↓c__law_frac.eq_2, ↓c__law_number.eq_1, ↓c__law_number.eq_2, ↓c__law_kind.eq_1, ↓c__law_kind.eq_2, ↓c_is_integer.eq_1, ↓c_is_integer.eq_2, ↓c_divisor.eq_1, ↓c_divisor.eq_2, ↓c_new_Ratio.eq_1, ↓c_new_Ratio.eq_2, ↓c_new_Ratio.eq_3, ↓c_new_Ratio.eq_4, ↓c_is_number.eq_1, ↓c_is_number.eq_2, ↓c_Ratio_of.eq_1, ↓c_Ratio_of.eq_2, ↓c_Ratio___lt__.eq_1, ↓c_Ratio___lt__.eq_2, ↓c_Ratio___ge__.eq_1, ↓c_Ratio___ge__.eq_2, ↓c_Ratio___gt__.eq_1, ↓c_Ratio___gt__.eq_2, ↓c_Ratio___le__.eq_1, ↓c_Ratio___le__.eq_2, ↓c_is_same.eq_1, ↓c_is_same.eq_2, ↓c_Ratio___eq__.eq_1, ↓c_Ratio___eq__.eq_2, ↓c_Ratio___bool__.eq_1, ↓c_Ratio___bool__.eq_2, ↓c_new_Rounding.eq_1, ↓c_new_Rounding.eq_2, ↓c__law_rounding.eq_1, ↓c__law_rounding.eq_2, ↓c_Ratio___add__.eq_1, ↓c_Ratio___add__.eq_2, ↓c_need_number.eq_1, ↓c_need_number.eq_2, ↓c_Rounding_stepped.eq_1, ↓c_Rounding_stepped.eq_2, ↓c_Rounding___call__.eq_1, ↓c_Rounding___call__.eq_2, ↓c_Ratio___neg__.eq_1, ↓c_Ratio___neg__.eq_2, ↓c_Ratio___sub__.eq_1, ↓c_Ratio___sub__.eq_2, ↓c_Ratio_divided.eq_1, ↓c_Ratio_divided.eq_2, ↓c_Ratio_floor.eq_1, ↓c_Ratio_floor.eq_2, ↓c_Ratio___floordiv__.eq_1, ↓c_Ratio___floordiv__.eq_2, ↓c_Ratio___mul__.eq_1, ↓c_Ratio___mul__.eq_2, ↓c_Ratio___mod__.eq_1, ↓c_Ratio___mod__.eq_2, ↓c_Rounding_is_step.eq_1, ↓c_Rounding_is_step.eq_2, ↓c_Rounding_behind.eq_1, ↓c_Rounding_behind.eq_2, ↓c_Rounding_before.eq_1, ↓c_Rounding_before.eq_2, ↓c_Rounding_places.eq_1, ↓c_Rounding_places.eq_2, ↓c__law_right.eq_1, ↓c__law_right.eq_2, ↓c_law.eq_1, ↓c_law.eq_2])
set_option hygiene false in
local macro_rules | `(tactic| simp_arith [$ts,*]) => `(tactic| simp (config := {decide := false}) only [↓mEqW.eq_1, ↓mNeW.eq_1, ↓mFmtO.eq_1, ↓mCallP.eq_1, ↓mMethP.eq_1, ↓mCMethP.eq_1, ↓mCallO.eq_1, ↓mMakeP.eq_1, ↓bArgs.eq_1, ↓selA.eq_1, ↓selA.eq_2, ↓selA.eq_3, ↓selA.eq_4, ↓mSorted.eq_1, Option.getD_some, Option.getD_none, ↓mLc.eq_1, ↓goLc.eq_1, ↓goLc.eq_2, ↓wipeM.eq_1, ↓wipeM.eq_2, ↓bodyM.eq_1, ↓mVar.eq_1, ↓mC.eq_1, ↓mOp.eq_1, ↓mTest.eq_1, ↓mChain.eq_1, ↓mUn.eq_1, ↓mTru.eq_1, ↓dTru.eq_1, ↓dTru.eq_2, ↓dTru.eq_3, ↓dTru.eq_4, ↓dTru.eq_5, ↓dTru.eq_6, ↓dTru.eq_7, ↓dTru.eq_8, ↓dTru.eq_9, ↓dTru.eq_10, ↓mTr.eq_1, ↓mAnd.eq_1, ↓mOr.eq_1, ↓mNot.eq_1, ↓mAndV.eq_1, ↓mOrV.eq_1, ↓mNotV.eq_1, ↓mIf.eq_1, ↓mNil.eq_1, ↓mCons.eq_1, ↓mTup.eq_1, ↓mLst.eq_1, ↓mLstM.eq_1, ↓mAlt.eq_1, ↓uAlt.eq_1, ↓tAlt.eq_1, ↓fAlt.eq_1, ↓eAlt.eq_1, ↓lAlt.eq_1, ↓bAlt.eq_1, ↓gmName.eq_1, ↓gmNil.eq_1, ↓gmNil.eq_2, ↓gmCons.eq_1, ↓gmCons.eq_2, ↓gmTup.eq_1, ↓gmTup.eq_2, ↓gmSub.eq_1, ↓mSetL.eq_1, ↓mSetL.eq_2, ↓sNext.eq_1, ↓sSeq.eq_1, ↓sBreak.eq_1, ↓sCont.eq_1, ↓sExpr.eq_1, ↓sRet.eq_1, ↓sRetN.eq_1, ↓sIf.eq_1, ↓sSet.eq_1, ↓sAsg.eq_1, ↓sPar.eq_1, ↓sPar3.eq_1, ↓sAug.eq_1, ↓sFldM.eq_1, ↓sFldAugM.eq_1, ↓sFor.eq_1, ↓iLs.eq_1, ↓iTupM.eq_1, ↓iRange1.eq_1, ↓mCall.eq_1, ↓isC.eq_1, ↓isC.eq_2, ↓isC.eq_3, ↓mMeth.eq_1, ↓insC.eq_1, ↓insC.eq_2, ↓insC.eq_3, ↓mProp.eq_1, ↓mFld.eq_1, ↓mOwn.eq_1, ↓mOwn.eq_2, ↓mOwnR.eq_1, ↓mOwnR.eq_2, ↓mCmpO.eq_1, ↓mCmpO.eq_2, ↓kNotM.eq_1, ↓kNotM.eq_2, ↓mNeO.eq_1, ↓mNeO.eq_2, ↓mNeR.eq_1, ↓mNeR.eq_2, ↓mOwnU.eq_1, ↓mOwnU.eq_2, ↓kBlM.eq_1, ↓kBlM.eq_2, ↓mTruO.eq_1, ↓mTruO.eq_2, ↓mBoolO.eq_1, ↓mBoolO.eq_2, ↓kStrM.eq_1, ↓kStrM.eq_2, ↓mStrO.eq_1, ↓mStrO.eq_2, ↓mII.eq_1, ↓mII.eq_2, ↓mII0.eq_1, ↓mII0.eq_2, ↓mNeg.eq_1, ↓mNeg.eq_2, ↓mAddS.eq_1, ↓mAddS.eq_2, ↓noneD.eq_1, ↓noneD.eq_2, ↓mIsN.eq_1, ↓mIsN.eq_2, ↓mNotN.eq_1, ↓mNotN.eq_2, ↓mIsB.eq_1, ↓mIsB.eq_2, ↓mInt.eq_1, ↓mInt.eq_2, ↓mInt.eq_3, ↓mIntS.eq_1, ↓mIntS.eq_2, ↓mAbs.eq_1, ↓mAbs.eq_2, ↓mLen.eq_1, ↓mLen.eq_2, ↓mLen.eq_3, ↓mListF.eq_1, ↓mListF.eq_2, ↓mListM.eq_1, ↓mListM.eq_2, ↓mTupF.eq_1, ↓mTupF.eq_2, ↓mTupF.eq_3, ↓mBool1.eq_1, ↓mBool1.eq_2, ↓mBool1.eq_3, ↓mStrI.eq_1, ↓mStrI.eq_2, ↓mIx.eq_1, ↓mIx.eq_2, ↓mIxS.eq_1, ↓mIxS.eq_2, ↓mSl.eq_1, ↓mSlL.eq_1, ↓mSlS.eq_1, ↓mSlS.eq_2, ↓oNone.eq_1, ↓oSome.eq_1, ↓seqD.eq_1, ↓seqD.eq_2, ↓seqD.eq_3, ↓seqD.eq_4, ↓seqD.eq_5, ↓lsD.eq_1, ↓lsD.eq_2, ↓lsD.eq_3, ↓lsD.eq_4, ↓mdD.eq_1, ↓mdD.eq_2, ↓mdD.eq_3, ↓mCatL.eq_1, ↓mRepL.eq_1, ↓mRepL.eq_2, ↓isT.eq_1, ↓isT.eq_2, ↓isT.eq_3, ↓isT.eq_4, ↓isT.eq_5, ↓isT.eq_6, ↓mBM.eq_1, ↓bAppend.eq_1, ↓bAppend.eq_2, ↓bSplit.eq_1, ↓bSplit.eq_2, ↓bStarts.eq_1, ↓bStarts.eq_2, ↓bJoin.eq_1, ↓bJoin.eq_2, ↓mFmt.eq_1, ↓sRaise.eq_1, ↓mXat.eq_1, ↓mDict0.eq_1, ↓mNotT.eq_1, ↓mIsi.eq_1, ↓mIsi.eq_2, ↓mIsi.eq_3, ↓tyI.eq_1, ↓tyI.eq_2, ↓tyD.eq_1, ↓tyD.eq_2, ↓tyD.eq_3, ↓tyD.eq_4, ↓tyD.eq_5, ↓tyD.eq_6, ↓tyD.eq_7, ↓tyD.eq_8, ↓tyD.eq_9, ↓tyD.eq_10, ↓tyD.eq_11, ↓clsD.eq_1, ↓clsD.eq_2, ↓clsD.eq_3, ↓clsDs.eq_1, ↓clsDs.eq_2, ↓needT.eq_1, ↓needT.eq_2, ↓needT.eq_3, ↓needT.eq_4, ↓mHeard.eq_1, ↓mAsk.eq_1, ↓sTry.eq_1, ↓sFrz.eq_1, List.getElem?_cons_zero, List.getElem?_cons_succ, List.getElem?_nil, List.set_cons_zero, List.set_cons_succ, List.set_nil, List.length_cons, List.length_nil, List.map_cons, List.map_nil, List.cons_append, List.nil_append, List.append_nil, List.replicate_zero, List.replicate_succ, List.zip_cons_cons, List.zip_nil_left, List.zip_nil_right, Nat.reduceAdd, Nat.reduceSub, Nat.reduceEqDiff, Nat.reduceLT, Nat.reduceLeDiff, Nat.zero_add, Nat.add_zero, Bool.not_true, Bool.not_false, Bool.not_not, true_and, and_true, false_and, and_false, true_or, or_true, false_or, or_false, if_true, if_false, ite_true, ite_false, Bool.false_eq_true, reduceIte, reduceCtorEq, eq_self_iff_true, and_self, or_self, put_same, del_same, decide_true, decide_false, String.reduceEq, List.mem_cons, List.not_mem_nil, Int.reduceNeg, Int.reduceEq, Int.reduceLT, ne_eq, not_true_eq_false, not_false_eq_true, Z.kit_NoneType_int, Z.kit_bool_int, Z.kit_dict_int, Z.kit_int_int, Z.kit_list_int, Z.kit_str_int, Z.kit_tuple_int, Z.cls_Words, Z.cls_Words.cls, Z.kit_Words_int, Z.cls_Ratio, Z.cls_Ratio.cls, Z.kit_Ratio_int, Z.cls_Rounding, Z.cls_Rounding.cls, Z.kit_Rounding_int, Z.kit_NoneType_bool, Z.kit_bool_bool, Z.kit_dict_bool, Z.kit_int_bool, Z.kit_list_bool, Z.kit_str_bool, Z.kit_tuple_bool, Z.kit_Words_bool, Z.kit_Ratio_bool, Z.kit_Rounding_bool, Z.no_Ratio_over, Z.no_Ratio_under, Z.kit_NoneType_Ratio, Z.kit_bool_Ratio, Z.kit_dict_Ratio, Z.kit_int_Ratio, Z.kit_list_Ratio, Z.kit_str_Ratio, Z.kit_tuple_Ratio, Z.kit_Words_Ratio, Z.kit_Ratio_Ratio, Z.kit_Rounding_Ratio, Z.no_Rounding_threshold, Z.no_Rounding_is_from, lkF_self, asR_rat, toQ_rat, anyD_non, anyD_bl, anyD_int, anyD_str, anyD_tup, anyD_lst, anyD_wls, anyD_dict, isIntD_non, isIntD_bl, isIntD_int, isIntD_str, isIntD_tup, isIntD_lst, isIntD_wls, isIntD_dict, isNumD_non, isNumD_bl, isNumD_int, isNumD_str, isNumD_tup, isNumD_lst, isNumD_wls, isNumD_dict, toQ_non, toQ_bl, toQ_int, toQ_str, toQ_tup, toQ_lst, toQ_wls, toQ_dict, yOk_non, yOk_bl, yOk_int, yOk_str, yOk_tup, yOk_lst, yOk_wls, yOk_dict, cOk_non, cOk_bl, cOk_int, cOk_str, cOk_tup, cOk_lst, cOk_wls, cOk_dict, oddD, yOk_ins, cOk_ins, anyD_ins, isIntD_ins, isNumD_ins, BEq.rfl, mEqD_ii, mNeD_ii, mEqD_insL, mNeD_insL, mEqD_insR, mNeD_insR, asRd_rnd, put_put, Bool.false_or, Bool.or_false, Bool.or_true, Bool.true_or, Bool.and_true, Bool.true_and, Bool.and_false, Bool.false_and, Option.map_some, decide_eq_true_eq, lk_Ratio_over, pt_Ratio_over, lk_Ratio_under, pt_Ratio_under, nf_Ratio_divided, nf_Ratio_floor, lk_Words_all_words, pt_Words_all_words, lk_Words_taken, pt_Words_taken, lk_Rounding_threshold, pt_Rounding_threshold, lk_Rounding_is_from, pt_Rounding_is_from, nf_Rounding_stepped, nf_Rounding_is_step, nf_Rounding_before, nf_Rounding_behind, nf_Rounding_places, ↓c__law_pen.eq_1, ↓c__law_pen.eq_2, ↓c__law_draw.eq_1, ↓c__law_draw.eq_2, ↓c__law_pick.eq_1, ↓c__law_pick.eq_2, ↓c__law_frac.eq_1, ↓c__law_frac.eq_2, ↓c__law_number.eq_1, ↓c__law_number.eq_2, ↓c__law_kind.eq_1, ↓c__law_kind.eq_2, ↓c_is_integer.eq_1, ↓c_is_integer.eq_2, ↓c_divisor.eq_1, ↓c_divisor.eq_2, ↓c_new_Ratio.eq_1, ↓c_new_Ratio.eq_2, ↓c_new_Ratio.eq_3, ↓c_new_Ratio.eq_4, ↓c_is_number.eq_1, ↓c_is_number.eq_2, ↓c_Ratio_of.eq_1, ↓c_Ratio_of.eq_2, ↓c_Ratio___lt__.eq_1, ↓c_Ratio___lt__.eq_2, ↓c_Ratio___ge__.eq_1, ↓c_Ratio___ge__.eq_2, ↓c_Ratio___gt__.eq_1, ↓c_Ratio___gt__.eq_2, ↓c_Ratio___le__.eq_1, ↓c_Ratio___le__.eq_2, ↓c_is_same.eq_1, ↓c_is_same.eq_2, ↓c_Ratio___eq__.eq_1, ↓c_Ratio___eq__.eq_2, ↓c_Ratio___bool__.eq_1, ↓c_Ratio___bool__.eq_2, ↓c_new_Rounding.eq_1, ↓c_new_Rounding.eq_2, ↓c__law_rounding.eq_1, ↓c__law_rounding.eq_2, ↓c_Ratio___add__.eq_1, ↓c_Ratio___add__.eq_2, ↓c_need_number.eq_1, ↓c_need_number.eq_2, ↓c_Rounding_stepped.eq_1, ↓c_Rounding_stepped.eq_2, ↓c_Rounding___call__.eq_1, ↓c_Rounding___call__.eq_2, ↓c_Ratio___neg__.eq_1, ↓c_Ratio___neg__.eq_2, ↓c_Ratio___sub__.eq_1, ↓c_Ratio___sub__.eq_2, ↓c_Ratio_divided.eq_1, ↓c_Ratio_divided.eq_2, ↓c_Ratio_floor.eq_1, ↓c_Ratio_floor.eq_2, ↓c_Ratio___floordiv__.eq_1, ↓c_Ratio___floordiv__.eq_2, ↓c_Ratio___mul__.eq_1, ↓c_Ratio___mul__.eq_2, ↓c_Ratio___mod__.eq_1, ↓c_Ratio___mod__.eq_2, ↓c_Rounding_is_step.eq_1, ↓c_Rounding_is_step.eq_2, ↓c_Rounding_behind.eq_1, ↓c_Rounding_behind.eq_2, ↓c_Rounding_before.eq_1, ↓c_Rounding_before.eq_2, ↓c_Rounding_places.eq_1, ↓c_Rounding_places.eq_2, ↓c__law_right.eq_1, ↓c__law_right.eq_2, ↓c_law.eq_1, ↓c_law.eq_2, $ts,*])
section
variable {P : Program} {w : World} {K : PySem.W.Frag} {mg : Str → Option Value} {base : Heap}
/-! _law_frac -/
def b__law_frac (K : PySem.W.Frag) : FS :=
    (sSeq (sPar 2 3 (mCons (mCall mAbs [] (mCons (mVar 0) mNil)) (mCons (mCall mAbs [] (mCons (mVar 1) mNil)) mNil)))
    (sSeq (sWhile (mTest (mOp mNeD (mVar 3) (mC (.int 0))))
      (sPar 2 3 (mCons (mVar 3) (mCons (mOp mMod (mCall mInt [] (mCons (mVar 2) mNil)) (mVar 3)) mNil))))
    (sSeq (sSet 4 (mIf (mTest (mOp mGt (mVar 1) (mC (.int 0)))) (mC (.int 1)) (mUn mNeg (mC (.int 1)))))
    (sRet (mIf (mTest (mOp mGt (mVar 2) (mC (.int 0)))) (mTup (mCons (mOp mFdiv (mOp mMul (mVar 4) (mVar 0)) (mVar 2)) (mCons (mOp mFdiv (mOp mMul (mVar 4) (mVar 1)) (mVar 2)) mNil))) (mTup (mCons (mC (.int 0)) (mCons (mC (.int 1)) mNil))))))))
def m__law_frac (K : PySem.W.Frag) : FM := bodyM 2 5 (b__law_frac K)
theorem cl__law_frac (Z : Zf P w K mg) {ds : List D} {μ : MS} {Q : D → MS → Prop} {X : MX} (h : c__law_frac K ds μ Q X) : m__law_frac K ds μ Q X := by
  unfold c__law_frac at h
  split at h
  · rename_i o u
    obtain ⟨hu, bo, bu, h⟩ := h
    unfold m__law_frac b__law_frac
    refine body_gen fun R hR => ?_
    simp_arith []
    subst hR
    refine seq_gen fun R hR => ?_
    simp_arith []
    subst hR
    refine seq_gen fun R hR => ?_
    unfold sSeq sWhile
    refine ⟨fun m ρ μ' => μ' = μ ∧ ∃ x y : Nat, ρ = [some (.int o), some (.int u), some (.int x), some (.int y), none] ∧ Nat.gcd x y = Int.gcd o u ∧ m = y, ⟨_, rfl, o.natAbs, u.natAbs, by rw [absI_nat, absI_nat], rfl, rfl⟩, ?_⟩
    rintro m ρ μ' ⟨rfl, x, y, rfl, hg, hm⟩
    have hm : y = m := hm.symm
    subst hm
    simp_arith []
    by_cases c : (y : Int) = 0
    · have y0 : y = 0 := by omega
      rw [y0, Nat.gcd_zero_right] at hg
      obtain ⟨e1, e2⟩ := own_low (g := x) hu hg
      have gp : 0 < x := by
        rw [hg]
        exact Int.gcd_pos_iff.mpr (.inr hu)
      have gl : x ≤ u.natAbs := by
        rw [hg]
        exact Int.gcd_le_natAbs_right _ hu
      have cg : ¬ (x : Int) = 0 := by omega
      have lg : (x : Int).natAbs.log2 < 9000 := Nat.lt_of_lt_of_le (PySem.Flt.log2_lt_of (k := 8000) (by decide) (by omega)) (by decide)
      have gp2 : (0 : Int) < (x : Int) := by omega
      rw [decide_eq_true c]
      simp_arith []
      subst hR
      refine seq_gen fun R hR => ?_
      simp_arith []
      subst hR
      simp_arith [cg, lg, gp2]
      have fin : ∀ s : Int, s = (if (0 : Int) < u then (1 : Int) else -1) → CMulE s o ∧ CMulE s u ∧ 2 ≤ sizeLine ∧ Q (.tup [.int ((s * o).fdiv (x : Int)), .int ((s * u).fdiv (x : Int))]) μ' := fun s hs => by
        subst hs
        rw [e1, e2]
        exact ⟨mulL (by split <;> decide), mulL (by split <;> decide), by decide, h⟩
      by_cases c3 : (0 : Int) < u
      · rw [if_pos c3]
        have z := fin 1 (by rw [if_pos c3])
        exact z
      · rw [if_neg c3]
        have z := fin (-1) (by rw [if_neg c3])
        exact z
    · have yp : 0 < y := by omega
      rw [decide_eq_false c]
      simp_arith []
      have e : Int.fmod (x : Int) (y : Int) = ((x % y : Nat) : Int) := by
        rw [Int.fmod_eq_emod_of_nonneg _ (by omega)]; rfl
      rw [e]
      refine ⟨c, x % y, Nat.mod_lt x (by omega), y, x % y, rfl, ?_, rfl⟩
      rw [← hg, Nat.gcd_comm x y, Nat.gcd_rec y x, Nat.gcd_comm]
  · exact h.elim
theorem fo__law_frac {fd : FuncData} (M : MT mg K) (Z : Zf P w K mg) (F : FnP K d__law_frac fd) :
    FnOk P w K mg base (L2.CX P w) 1 (a__law_frac K) fd ["_law_over", "_law_under"] (spF K (Tt K) (c__law_frac K)) :=
  FnOk.impM (fnM (b := b__law_frac K) F sc__law_frac (fun cdv A outer s H E hr =>
    (pssm_cons (psm_par (i := 2) (j := 3) (by rfl) sc__law_frac.nd rfl rfl (by decide) rfl rfl (pam_cons (pm_callB f_abs (by rfl) M.f_abs (by decide +kernel) (pam_cons (pmv 0) pam_nil)) (pam_cons (pm_callB f_abs (by rfl) M.f_abs (by decide +kernel) (pam_cons (pmv 1) pam_nil)) pam_nil)) (by rfl))
    (pssm_cons (psm_while ownX (ptm_cmp (o_neD hr.units) (pmv 3) pm_int (nomark _))
      (pssm_one (psm_par (i := 2) (j := 3) (by rfl) sc__law_frac.nd rfl rfl (by decide) rfl rfl (pam_cons (pmv 3) (pam_cons (pm_op o_mod (pm_callTy f_int (by rfl) M.f_int (by decide +kernel) (pam_cons (pmv 2) pam_nil)) (pmv 3)) pam_nil)) (by rfl))))
    (pssm_cons (psm_set (i := 4) sc__law_frac.nd rfl (Or.inl rfl) (pm_ifExp (ptm_cmp o_gt (pmv 1) pm_int (nomark _)) pm_int (pm_un u_neg pm_int)))
    (pssm_one (psm_ret (pm_ifExp (ptm_cmp o_gt (pmv 2) pm_int (nomark _)) (pm_tup (pam_cons (pm_op o_fdiv (pm_op o_mul (pmv 4) (pmv 0)) (pmv 2)) (pam_cons (pm_op o_fdiv (pm_op o_mul (pmv 4) (pmv 1)) (pmv 2)) pam_nil))) (pm_tup (pam_cons pm_int (pam_cons pm_int pam_nil))))))))))) (fun ds μ Q X h => cl__law_frac Z h)
theorem ok__law_frac {fd : FuncData} (M : MT mg K) (Z : Zf P w K mg) (F : FnP K d__law_frac fd) :
    DnM P w K mg base (Tt K) 1 (a__law_frac K) ["_law_over", "_law_under"] [] (c__law_frac K) :=
  dn_mk F rfl (fun _ _ _ _ _ _ us hl => match us, hl with | [_, _], _ => rfl) (fo__law_frac M Z  F)
/-! _law_number -/
def b__law_number (K : PySem.W.Frag) : FS :=
    (sSeq (sSet 1 (mCall (c__law_pick K) [] (mCons (mVar 0) (mCons (mLst (mCons (mC (.int 0)) (mCons (mC (.int 1)) (mCons (mUn mNeg (mC (.int 1))) (mCons (mC (.int 2)) (mCons (mC (.int 3)) (mCons (mUn mNeg (mC (.int 7))) (mCons (mC (.int 5)) (mCons (mOp mSub (mCall (c__law_draw K) [] (mCons (mVar 0) (mCons (mC (.int 60)) mNil))) (mC (.int 30))) (mCons (mOp mAdd (mOp mPow (mC (.int 10)) (mC (.int 30))) (mCall (c__law_draw K) [] (mCons (mVar 0) (mCons (mC (.int 4)) mNil)))) (mCons (mUn mNeg (mOp mPow (mC (.int 10)) (mC (.int 30)))) mNil))))))))))) mNil))))
    (sRet (mCall (c__law_frac K) [] (mCons (mVar 1) (mCons (mCall (c__law_pick K) [] (mCons (mVar 0) (mCons (mLst (mCons (mC (.int 1)) (mCons (mC (.int 1)) (mCons (mC (.int 2)) (mCons (mC (.int 2)) (mCons (mC (.int 3)) (mCons (mC (.int 4)) (mCons (mC (.int 5)) (mCons (mC (.int 6)) (mCons (mOp mAdd (mC (.int 1)) (mCall (c__law_draw K) [] (mCons (mVar 0) (mCons (mC (.int 12)) mNil)))) (mCons (mOp mAdd (mOp mPow (mC (.int 10)) (mC (.int 29))) (mC (.int 1))) mNil))))))))))) mNil))) mNil)))))
def m__law_number (K : PySem.W.Frag) : FM := bodyM 1 2 (b__law_number K)
theorem cl__law_number (Z : Zf P w K mg) {ds : List D} {μ : MS} {Q : D → MS → Prop} {X : MX} (h : c__law_number K ds μ Q X) : m__law_number K ds μ Q X := by
  unfold c__law_number at h
  split at h
  · rename_i a
    obtain ⟨v, n, hv, hp, hn, k⟩ := h
    have e30 : ipow 10 (Int.toNat 30) = 1000000000000000000000000000000 := by rw [ipow_eq]; decide
    have e29 : ipow 10 (Int.toNat 29) = 100000000000000000000000000000 := by rw [ipow_eq]; decide
    have e100 : (2 : Nat) ^ 100 = 1267650600228229401496703205376 := by decide
    have up : ∀ {j : Int}, j.natAbs < 2 ^ 100 → j.natAbs < 2 ^ 8000 := fun h => Nat.lt_of_lt_of_le h (Nat.pow_le_pow_right (by decide) (by decide))
    unfold m__law_number b__law_number
    refine body_gen fun R hR => ?_
    simp_arith []
    subst hR
    refine seq_gen fun R hR => ?_
    simp_arith [e30, e29]
    refine ⟨v, n, hv, hp, by omega, by decide, fun r v1 r0 r1 hp1 => ⟨⟨by decide, by decide, by decide⟩, _, _, rfl, hp1, by omega, by decide, fun r2 v2 r20 r21 hp2 => ⟨⟨by decide, by decide, by decide⟩, by decide, _, _, rfl, hp2, by omega, by decide, fun x v3 hx hp3 => ?_⟩⟩⟩
    have hx : ∃ i : Int, x = .int i ∧ i.natAbs < 2 ^ 100 := by
      rcases hx with rfl | rfl | rfl | rfl | rfl | rfl | rfl | rfl | rfl | rfl <;> exact ⟨_, rfl, by omega⟩
    obtain ⟨i, rfl, hi⟩ := hx
    subst hR
    simp_arith [e29]
    refine ⟨_, _, rfl, hp3, by omega, by decide, fun r3 v4 r30 r31 hp4 => ⟨⟨by decide, by decide, by decide⟩, by decide, _, _, rfl, hp4, by omega, by decide, fun y v5 hy hp5 => ?_⟩⟩
    have hy : ∃ j : Int, y = .int j ∧ j ≠ 0 ∧ j.natAbs < 2 ^ 100 := by
      rcases hy with rfl | rfl | rfl | rfl | rfl | rfl | rfl | rfl | rfl | rfl <;> exact ⟨_, rfl, by omega, by omega⟩
    obtain ⟨j, rfl, hj0, hj⟩ := hy
    simp_arith [hj0]
    exact ⟨up hi, up hj, k _ _ ((frac_sz hj0 hi hj).up (by decide)) hp5⟩
  · exact h.elim
theorem fo__law_number {fd : FuncData} (M : MT mg K) (Z : Zf P w K mg) (D__law_draw : DnM P w K mg base (Tt K) 1 (a__law_draw K) ["_law_pen_here", "_law_many"] [] (c__law_draw K)) (D__law_frac : DnM P w K mg base (Tt K) 1 (a__law_frac K) ["_law_over", "_law_under"] [] (c__law_frac K)) (D__law_pick : DnM P w K mg base (Tt K) 2 (a__law_pick K) ["_law_pen_here", "_law_some"] [] (c__law_pick K)) (F : FnP K d__law_number fd) :
    FnOk P w K mg base (L2.CX P w) 3 (a__law_number K) fd ["_law_pen_here"] (spF K (Tt K) (c__law_number K)) :=
  FnOk.impM (fnM (b := b__law_number K) F sc__law_number (fun cdv A outer s H E hr =>
    (pssm_cons (psm_set (i := 1) sc__law_number.nd rfl (Or.inl rfl) (pm_call (dv := []) (dd := []) D__law_pick 0 (hr.mono (by decide)) rfl M.g__law_pick passX (pam_cons (pmv 0) (pam_cons (pm_lst (pam_cons pm_int (pam_cons pm_int (pam_cons (pm_un u_neg pm_int) (pam_cons pm_int (pam_cons pm_int (pam_cons (pm_un u_neg pm_int) (pam_cons pm_int (pam_cons (pm_op o_sub (pm_call (dv := []) (dd := []) D__law_draw 0 (hr.mono (by decide)) rfl M.g__law_draw passX (pam_cons (pmv 0) (pam_cons pm_int pam_nil)) (fun _ => .nil)) pm_int) (pam_cons (pm_op o_add (pm_op o_pow pm_int pm_int) (pm_call (dv := []) (dd := []) D__law_draw 0 (hr.mono (by decide)) rfl M.g__law_draw passX (pam_cons (pmv 0) (pam_cons pm_int pam_nil)) (fun _ => .nil))) (pam_cons (pm_un u_neg (pm_op o_pow pm_int pm_int)) pam_nil))))))))))) pam_nil)) (fun _ => .nil)))
    (pssm_one (psm_ret (pm_call (dv := []) (dd := []) D__law_frac 0 (hr.mono (by decide)) rfl M.g__law_frac passX (pam_cons (pmv 1) (pam_cons (pm_call (dv := []) (dd := []) D__law_pick 0 (hr.mono (by decide)) rfl M.g__law_pick passX (pam_cons (pmv 0) (pam_cons (pm_lst (pam_cons pm_int (pam_cons pm_int (pam_cons pm_int (pam_cons pm_int (pam_cons pm_int (pam_cons pm_int (pam_cons pm_int (pam_cons pm_int (pam_cons (pm_op o_add pm_int (pm_call (dv := []) (dd := []) D__law_draw 0 (hr.mono (by decide)) rfl M.g__law_draw passX (pam_cons (pmv 0) (pam_cons pm_int pam_nil)) (fun _ => .nil))) (pam_cons (pm_op o_add (pm_op o_pow pm_int pm_int) pm_int) pam_nil))))))))))) pam_nil)) (fun _ => .nil)) pam_nil)) (fun _ => .nil))))))) (fun ds μ Q X h => cl__law_number Z h)
theorem ok__law_number {fd : FuncData} (M : MT mg K) (Z : Zf P w K mg) (D__law_draw : DnM P w K mg base (Tt K) 1 (a__law_draw K) ["_law_pen_here", "_law_many"] [] (c__law_draw K)) (D__law_frac : DnM P w K mg base (Tt K) 1 (a__law_frac K) ["_law_over", "_law_under"] [] (c__law_frac K)) (D__law_pick : DnM P w K mg base (Tt K) 2 (a__law_pick K) ["_law_pen_here", "_law_some"] [] (c__law_pick K)) (F : FnP K d__law_number fd) :
    DnM P w K mg base (Tt K) 3 (a__law_number K) ["_law_pen_here"] [] (c__law_number K) :=
  dn_mk F rfl (fun _ _ _ _ _ _ us hl => match us, hl with | [_], _ => rfl) (fo__law_number M Z D__law_draw D__law_frac D__law_pick F)
/-! _law_kind -/
def b__law_kind (K : PySem.W.Frag) : FS :=
    (sSeq (sSet 1 (mLst (mCons (mTup (mCons (mC (.int 1)) (mCons (mC (.int 2)) (mCons (mC (.bl true)) mNil)))) (mCons (mTup (mCons (mC (.int 1)) (mCons (mC (.int 2)) (mCons (mC (.bl true)) mNil)))) (mCons (mTup (mCons (mC (.int 1)) (mCons (mC (.int 2)) (mCons (mC (.bl false)) mNil)))) (mCons (mTup (mCons (mC (.int 1)) (mCons (mC (.int 1)) (mCons (mC (.bl true)) mNil)))) (mCons (mTup (mCons (mC (.int 0)) (mCons (mC (.int 1)) (mCons (mC (.bl false)) mNil)))) (mCons (mTup (mCons (mC (.int 1)) (mCons (mC (.int 3)) (mCons (mC (.bl true)) mNil)))) (mCons (mTup (mCons (mC (.int 2)) (mCons (mC (.int 3)) (mCons (mC (.bl false)) mNil)))) (mCons (mTup (mCons (mC (.int 1)) (mCons (mC (.int 4)) (mCons (mC (.bl false)) mNil)))) mNil))))))))))
    (sRet (mCall (c__law_pick K) [] (mCons (mVar 0) (mCons (mOp mCatL (mVar 1) (mLst (mCons (mTup (mCons (mC (.int 3)) (mCons (mC (.int 5)) (mCons (mC (.bl true)) mNil)))) (mCons (mTup (mCons (mC (.int 0)) (mCons (mC (.int 1)) (mCons (mC (.bl false)) mNil)))) (mCons (mTup (mCons (mC (.int 1)) (mCons (mC (.int 1)) (mCons (mC (.bl true)) mNil)))) (mCons (mTup (mCons (mC (.int 1)) (mCons (mC (.int 2)) (mCons (mC (.bl true)) mNil)))) mNil)))))) mNil)))))
def m__law_kind (K : PySem.W.Frag) : FM := bodyM 1 2 (b__law_kind K)
theorem cl__law_kind (Z : Zf P w K mg) {ds : List D} {μ : MS} {Q : D → MS → Prop} {X : MX} (h : c__law_kind K ds μ Q X) : m__law_kind K ds μ Q X := by
  unfold c__law_kind at h
  split at h
  · rename_i a
    obtain ⟨v, n, hv, hp, hn, k⟩ := h
    unfold m__law_kind b__law_kind
    simp_arith []
    repeat (refine And.intro (by decide) ?_)
    refine ⟨v, n, hv, hp, by omega, by decide, fun x v1 hx hp1 => ?_⟩
    rcases hx with rfl | rfl | rfl | rfl | rfl | rfl | rfl | rfl | rfl | rfl | rfl | rfl <;> exact k _ _ _ v1 (by decide) (by decide) (by decide) (by decide) (by decide) hp1
  · exact h.elim
theorem fo__law_kind {fd : FuncData} (M : MT mg K) (Z : Zf P w K mg) (D__law_pick : DnM P w K mg base (Tt K) 2 (a__law_pick K) ["_law_pen_here", "_law_some"] [] (c__law_pick K)) (F : FnP K d__law_kind fd) :
    FnOk P w K mg base (L2.CX P w) 3 (a__law_kind K) fd ["_law_pen_here"] (spF K (Tt K) (c__law_kind K)) :=
  FnOk.impM (fnM (b := b__law_kind K) F sc__law_kind (fun cdv A outer s H E hr =>
    (pssm_cons (psm_set (i := 1) sc__law_kind.nd rfl (Or.inl rfl) (pm_lst (pam_cons (pm_tup (pam_cons pm_int (pam_cons pm_int (pam_cons pm_bl pam_nil)))) (pam_cons (pm_tup (pam_cons pm_int (pam_cons pm_int (pam_cons pm_bl pam_nil)))) (pam_cons (pm_tup (pam_cons pm_int (pam_cons pm_int (pam_cons pm_bl pam_nil)))) (pam_cons (pm_tup (pam_cons pm_int (pam_cons pm_int (pam_cons pm_bl pam_nil)))) (pam_cons (pm_tup (pam_cons pm_int (pam_cons pm_int (pam_cons pm_bl pam_nil)))) (pam_cons (pm_tup (pam_cons pm_int (pam_cons pm_int (pam_cons pm_bl pam_nil)))) (pam_cons (pm_tup (pam_cons pm_int (pam_cons pm_int (pam_cons pm_bl pam_nil)))) (pam_cons (pm_tup (pam_cons pm_int (pam_cons pm_int (pam_cons pm_bl pam_nil)))) pam_nil))))))))))
    (pssm_one (psm_ret (pm_call (dv := []) (dd := []) D__law_pick 0 (hr.mono (by decide)) rfl M.g__law_pick passX (pam_cons (pmv 0) (pam_cons (pm_op o_catL (pmv 1) (pm_lst (pam_cons (pm_tup (pam_cons pm_int (pam_cons pm_int (pam_cons pm_bl pam_nil)))) (pam_cons (pm_tup (pam_cons pm_int (pam_cons pm_int (pam_cons pm_bl pam_nil)))) (pam_cons (pm_tup (pam_cons pm_int (pam_cons pm_int (pam_cons pm_bl pam_nil)))) (pam_cons (pm_tup (pam_cons pm_int (pam_cons pm_int (pam_cons pm_bl pam_nil)))) pam_nil)))))) pam_nil)) (fun _ => .nil))))))) (fun ds μ Q X h => cl__law_kind Z h)
theorem ok__law_kind {fd : FuncData} (M : MT mg K) (Z : Zf P w K mg) (D__law_pick : DnM P w K mg base (Tt K) 2 (a__law_pick K) ["_law_pen_here", "_law_some"] [] (c__law_pick K)) (F : FnP K d__law_kind fd) :
    DnM P w K mg base (Tt K) 3 (a__law_kind K) ["_law_pen_here"] [] (c__law_kind K) :=
  dn_mk F rfl (fun _ _ _ _ _ _ us hl => match us, hl with | [_], _ => rfl) (fo__law_kind M Z D__law_pick F)
end
end Mz

namespace Mz
open PySem PySem.Spec PyProof.Rows L2 AzX ClX LamX Hz He Az
local macro_rules | `(tactic| walk_at "ev") => `(tactic| simp (config := {decide := false}) only [↓mEqW.eq_1, ↓mNeW.eq_1, ↓mFmtO.eq_1, ↓mCallP.eq_1, ↓mMethP.eq_1, ↓mCMethP.eq_1, ↓mCallO.eq_1, ↓mMakeP.eq_1, ↓bArgs.eq_1, ↓selA.eq_1, ↓selA.eq_2, ↓selA.eq_3, ↓selA.eq_4, ↓mSorted.eq_1, Option.getD_some, Option.getD_none, ↓mLc.eq_1, ↓goLc.eq_1, ↓goLc.eq_2, ↓wipeM.eq_1, ↓wipeM.eq_2, ↓bodyM.eq_1, ↓mVar.eq_1, ↓mC.eq_1, ↓mOp.eq_1, ↓mTest.eq_1, ↓mChain.eq_1, ↓mUn.eq_1, ↓mTru.eq_1, ↓dTru.eq_1, ↓dTru.eq_2, ↓dTru.eq_3, ↓dTru.eq_4, ↓dTru.eq_5, ↓dTru.eq_6, ↓dTru.eq_7, ↓dTru.eq_8, ↓dTru.eq_9, ↓dTru.eq_10, ↓mTr.eq_1, ↓mAnd.eq_1, ↓mOr.eq_1, ↓mNot.eq_1, ↓mAndV.eq_1, ↓mOrV.eq_1, ↓mNotV.eq_1, ↓mIf.eq_1, ↓mNil.eq_1, ↓mCons.eq_1, ↓mTup.eq_1, ↓mLst.eq_1, ↓mLstM.eq_1, ↓mAlt.eq_1, ↓uAlt.eq_1, ↓tAlt.eq_1, ↓fAlt.eq_1, ↓eAlt.eq_1, ↓lAlt.eq_1, ↓bAlt.eq_1, ↓gmName.eq_1, ↓gmNil.eq_1, ↓gmNil.eq_2, ↓gmCons.eq_1, ↓gmCons.eq_2, ↓gmTup.eq_1, ↓gmTup.eq_2, ↓gmSub.eq_1, ↓mSetL.eq_1, ↓mSetL.eq_2, ↓sNext.eq_1, ↓sSeq.eq_1, ↓sBreak.eq_1, ↓sCont.eq_1, ↓sExpr.eq_1, ↓sRet.eq_1, ↓sRetN.eq_1, ↓sIf.eq_1, ↓sSet.eq_1, ↓sAsg.eq_1, ↓sPar.eq_1, ↓sPar3.eq_1, ↓sAug.eq_1, ↓sFldM.eq_1, ↓sFldAugM.eq_1, ↓sFor.eq_1, ↓iLs.eq_1, ↓iTupM.eq_1, ↓iRange1.eq_1, ↓mCall.eq_1, ↓isC.eq_1, ↓isC.eq_2, ↓isC.eq_3, ↓mMeth.eq_1, ↓insC.eq_1, ↓insC.eq_2, ↓insC.eq_3, ↓mProp.eq_1, ↓mFld.eq_1, ↓mOwn.eq_1, ↓mOwn.eq_2, ↓mOwnR.eq_1, ↓mOwnR.eq_2, ↓mCmpO.eq_1, ↓mCmpO.eq_2, ↓kNotM.eq_1, ↓kNotM.eq_2, ↓mNeO.eq_1, ↓mNeO.eq_2, ↓mNeR.eq_1, ↓mNeR.eq_2, ↓mOwnU.eq_1, ↓mOwnU.eq_2, ↓kBlM.eq_1, ↓kBlM.eq_2, ↓mTruO.eq_1, ↓mTruO.eq_2, ↓mBoolO.eq_1, ↓mBoolO.eq_2, ↓kStrM.eq_1, ↓kStrM.eq_2, ↓mStrO.eq_1, ↓mStrO.eq_2, ↓mII.eq_1, ↓mII.eq_2, ↓mII0.eq_1, ↓mII0.eq_2, ↓mNeg.eq_1, ↓mNeg.eq_2, ↓mAddS.eq_1, ↓mAddS.eq_2, ↓noneD.eq_1, ↓noneD.eq_2, ↓mIsN.eq_1, ↓mIsN.eq_2, ↓mNotN.eq_1, ↓mNotN.eq_2, ↓mIsB.eq_1, ↓mIsB.eq_2, ↓mInt.eq_1, ↓mInt.eq_2, ↓mInt.eq_3, ↓mIntS.eq_1, ↓mIntS.eq_2, ↓mAbs.eq_1, ↓mAbs.eq_2, ↓mLen.eq_1, ↓mLen.eq_2, ↓mLen.eq_3, ↓mListF.eq_1, ↓mListF.eq_2, ↓mListM.eq_1, ↓mListM.eq_2, ↓mTupF.eq_1, ↓mTupF.eq_2, ↓mTupF.eq_3, ↓mBool1.eq_1, ↓mBool1.eq_2, ↓mBool1.eq_3, ↓mStrI.eq_1, ↓mStrI.eq_2, ↓mIx.eq_1, ↓mIx.eq_2, ↓mIxS.eq_1, ↓mIxS.eq_2, ↓mSl.eq_1, ↓mSlL.eq_1, ↓mSlS.eq_1, ↓mSlS.eq_2, ↓oNone.eq_1, ↓oSome.eq_1, ↓seqD.eq_1, ↓seqD.eq_2, ↓seqD.eq_3, ↓seqD.eq_4, ↓seqD.eq_5, ↓lsD.eq_1, ↓lsD.eq_2, ↓lsD.eq_3, ↓lsD.eq_4, ↓mdD.eq_1, ↓mdD.eq_2, ↓mdD.eq_3, ↓mCatL.eq_1, ↓mRepL.eq_1, ↓mRepL.eq_2, ↓isT.eq_1, ↓isT.eq_2, ↓isT.eq_3, ↓isT.eq_4, ↓isT.eq_5, ↓isT.eq_6, ↓mBM.eq_1, ↓bAppend.eq_1, ↓bAppend.eq_2, ↓bSplit.eq_1, ↓bSplit.eq_2, ↓bStarts.eq_1, ↓bStarts.eq_2, ↓bJoin.eq_1, ↓bJoin.eq_2, ↓mFmt.eq_1, ↓sRaise.eq_1, ↓mXat.eq_1, ↓mDict0.eq_1, ↓mNotT.eq_1, ↓mIsi.eq_1, ↓mIsi.eq_2, ↓mIsi.eq_3, ↓tyI.eq_1, ↓tyI.eq_2, ↓tyD.eq_1, ↓tyD.eq_2, ↓tyD.eq_3, ↓tyD.eq_4, ↓tyD.eq_5, ↓tyD.eq_6, ↓tyD.eq_7, ↓tyD.eq_8, ↓tyD.eq_9, ↓tyD.eq_10, ↓tyD.eq_11, ↓clsD.eq_1, ↓clsD.eq_2, ↓clsD.eq_3, ↓clsDs.eq_1, ↓clsDs.eq_2, ↓needT.eq_1, ↓needT.eq_2, ↓needT.eq_3, ↓needT.eq_4, ↓mHeard.eq_1, ↓mAsk.eq_1, ↓sTry.eq_1, ↓sFrz.eq_1, List.getElem?_cons_zero, List.getElem?_cons_succ, List.getElem?_nil, List.set_cons_zero, List.set_cons_succ, List.set_nil, List.length_cons, List.length_nil, List.map_cons, List.map_nil, List.cons_append, List.nil_append, List.append_nil, List.replicate_zero, List.replicate_succ, List.zip_cons_cons, List.zip_nil_left, List.zip_nil_right, Nat.reduceAdd, Nat.reduceSub, Nat.reduceEqDiff, Nat.reduceLT, Nat.reduceLeDiff, Nat.zero_add, Nat.add_zero, Bool.not_true, Bool.not_false, Bool.not_not, true_and, and_true, false_and, and_false, true_or, or_true, false_or, or_false, if_true, if_false, ite_true, ite_false, Bool.false_eq_true, reduceIte, reduceCtorEq, eq_self_iff_true, and_self, or_self, put_same, del_same, decide_true, decide_false, String.reduceEq, List.mem_cons, List.not_mem_nil, Int.reduceNeg, Int.reduceEq, Int.reduceLT, ne_eq, not_true_eq_false, not_false_eq_true])
set_option hygiene false in
local macro_rules | `(tactic| walk_at "evz") => `(tactic| simp (config := {decide := false}) only [↓mEqW.eq_1, ↓mNeW.eq_1, ↓mFmtO.eq_1, ↓mCallP.eq_1, ↓mMethP.eq_1, ↓mCMethP.eq_1, ↓mCallO.eq_1, ↓mMakeP.eq_1, ↓bArgs.eq_1, ↓selA.eq_1, ↓selA.eq_2, ↓selA.eq_3, ↓selA.eq_4, ↓mSorted.eq_1, Option.getD_some, Option.getD_none, ↓mLc.eq_1, ↓goLc.eq_1, ↓goLc.eq_2, ↓wipeM.eq_1, ↓wipeM.eq_2, ↓bodyM.eq_1, ↓mVar.eq_1, ↓mC.eq_1, ↓mOp.eq_1, ↓mTest.eq_1, ↓mChain.eq_1, ↓mUn.eq_1, ↓mTru.eq_1, ↓dTru.eq_1, ↓dTru.eq_2, ↓dTru.eq_3, ↓dTru.eq_4, ↓dTru.eq_5, ↓dTru.eq_6, ↓dTru.eq_7, ↓dTru.eq_8, ↓dTru.eq_9, ↓dTru.eq_10, ↓mTr.eq_1, ↓mAnd.eq_1, ↓mOr.eq_1, ↓mNot.eq_1, ↓mAndV.eq_1, ↓mOrV.eq_1, ↓mNotV.eq_1, ↓mIf.eq_1, ↓mNil.eq_1, ↓mCons.eq_1, ↓mTup.eq_1, ↓mLst.eq_1, ↓mLstM.eq_1, ↓mAlt.eq_1, ↓uAlt.eq_1, ↓tAlt.eq_1, ↓fAlt.eq_1, ↓eAlt.eq_1, ↓lAlt.eq_1, ↓bAlt.eq_1, ↓gmName.eq_1, ↓gmNil.eq_1, ↓gmNil.eq_2, ↓gmCons.eq_1, ↓gmCons.eq_2, ↓gmTup.eq_1, ↓gmTup.eq_2, ↓gmSub.eq_1, ↓mSetL.eq_1, ↓mSetL.eq_2, ↓sNext.eq_1, ↓sSeq.eq_1, ↓sBreak.eq_1, ↓sCont.eq_1, ↓sExpr.eq_1, ↓sRet.eq_1, ↓sRetN.eq_1, ↓sIf.eq_1, ↓sSet.eq_1, ↓sAsg.eq_1, ↓sPar.eq_1, ↓sPar3.eq_1, ↓sAug.eq_1, ↓sFldM.eq_1, ↓sFldAugM.eq_1, ↓sFor.eq_1, ↓iLs.eq_1, ↓iTupM.eq_1, ↓iRange1.eq_1, ↓mCall.eq_1, ↓isC.eq_1, ↓isC.eq_2, ↓isC.eq_3, ↓mMeth.eq_1, ↓insC.eq_1, ↓insC.eq_2, ↓insC.eq_3, ↓mProp.eq_1, ↓mFld.eq_1, ↓mOwn.eq_1, ↓mOwn.eq_2, ↓mOwnR.eq_1, ↓mOwnR.eq_2, ↓mCmpO.eq_1, ↓mCmpO.eq_2, ↓kNotM.eq_1, ↓kNotM.eq_2, ↓mNeO.eq_1, ↓mNeO.eq_2, ↓mNeR.eq_1, ↓mNeR.eq_2, ↓mOwnU.eq_1, ↓mOwnU.eq_2, ↓kBlM.eq_1, ↓kBlM.eq_2, ↓mTruO.eq_1, ↓mTruO.eq_2, ↓mBoolO.eq_1, ↓mBoolO.eq_2, ↓kStrM.eq_1, ↓kStrM.eq_2, ↓mStrO.eq_1, ↓mStrO.eq_2, ↓mII.eq_1, ↓mII.eq_2, ↓mII0.eq_1, ↓mII0.eq_2, ↓mNeg.eq_1, ↓mNeg.eq_2, ↓mAddS.eq_1, ↓mAddS.eq_2, ↓noneD.eq_1, ↓noneD.eq_2, ↓mIsN.eq_1, ↓mIsN.eq_2, ↓mNotN.eq_1, ↓mNotN.eq_2, ↓mIsB.eq_1, ↓mIsB.eq_2, ↓mInt.eq_1, ↓mInt.eq_2, ↓mInt.eq_3, ↓mIntS.eq_1, ↓mIntS.eq_2, ↓mAbs.eq_1, ↓mAbs.eq_2, ↓mLen.eq_1, ↓mLen.eq_2, ↓mLen.eq_3, ↓mListF.eq_1, ↓mListF.eq_2, ↓mListM.eq_1, ↓mListM.eq_2, ↓mTupF.eq_1, ↓mTupF.eq_2, ↓mTupF.eq_3, ↓mBool1.eq_1, ↓mBool1.eq_2, ↓mBool1.eq_3, ↓mStrI.eq_1, ↓mStrI.eq_2, ↓mIx.eq_1, ↓mIx.eq_2, ↓mIxS.eq_1, ↓mIxS.eq_2, ↓mSl.eq_1, ↓mSlL.eq_1, ↓mSlS.eq_1, ↓mSlS.eq_2, ↓oNone.eq_1, ↓oSome.eq_1, ↓seqD.eq_1, ↓seqD.eq_2, ↓seqD.eq_3, ↓seqD.eq_4, ↓seqD.eq_5, ↓lsD.eq_1, ↓lsD.eq_2, ↓lsD.eq_3, ↓lsD.eq_4, ↓mdD.eq_1, ↓mdD.eq_2, ↓mdD.eq_3, ↓mCatL.eq_1, ↓mRepL.eq_1, ↓mRepL.eq_2, ↓isT.eq_1, ↓isT.eq_2, ↓isT.eq_3, ↓isT.eq_4, ↓isT.eq_5, ↓isT.eq_6, ↓mBM.eq_1, ↓bAppend.eq_1, ↓bAppend.eq_2, ↓bSplit.eq_1, ↓bSplit.eq_2, ↓bStarts.eq_1, ↓bStarts.eq_2, ↓bJoin.eq_1, ↓bJoin.eq_2, ↓mFmt.eq_1, ↓sRaise.eq_1, ↓mXat.eq_1, ↓mDict0.eq_1, ↓mNotT.eq_1, ↓mIsi.eq_1, ↓mIsi.eq_2, ↓mIsi.eq_3, ↓tyI.eq_1, ↓tyI.eq_2, ↓tyD.eq_1, ↓tyD.eq_2, ↓tyD.eq_3, ↓tyD.eq_4, ↓tyD.eq_5, ↓tyD.eq_6, ↓tyD.eq_7, ↓tyD.eq_8, ↓tyD.eq_9, ↓tyD.eq_10, ↓tyD.eq_11, ↓clsD.eq_1, ↓clsD.eq_2, ↓clsD.eq_3, ↓clsDs.eq_1, ↓clsDs.eq_2, ↓needT.eq_1, ↓needT.eq_2, ↓needT.eq_3, ↓needT.eq_4, ↓mHeard.eq_1, ↓mAsk.eq_1, ↓sTry.eq_1, ↓sFrz.eq_1, List.getElem?_cons_zero, List.getElem?_cons_succ, List.getElem?_nil, List.set_cons_zero, List.set_cons_succ, List.set_nil, List.length_cons, List.length_nil, List.map_cons, List.map_nil, List.cons_append, List.nil_append, List.append_nil, List.replicate_zero, List.replicate_succ, List.zip_cons_cons, List.zip_nil_left, List.zip_nil_right, Nat.reduceAdd, Nat.reduceSub, Nat.reduceEqDiff, Nat.reduceLT, Nat.reduceLeDiff, Nat.zero_add, Nat.add_zero, Bool.not_true, Bool.not_false, Bool.not_not, true_and, and_true, false_and, and_false, true_or, or_true, false_or, or_false, if_true, if_false, ite_true, ite_false, Bool.false_eq_true, reduceIte, reduceCtorEq, eq_self_iff_true, and_self, or_self, put_same, del_same, decide_true, decide_false, String.reduceEq, List.mem_cons, List.not_mem_nil, Int.reduceNeg, Int.reduceEq, Int.reduceLT, ne_eq, not_true_eq_false, not_false_eq_true, Z.kit_NoneType_int, Z.kit_bool_int, Z.kit_dict_int, Z.kit_int_int, Z.kit_list_int, Z.kit_str_int, Z.kit_tuple_int, Z.cls_Words, Z.cls_Words.cls, Z.kit_Words_int, Z.cls_Ratio, Z.cls_Ratio.cls, Z.kit_Ratio_int, Z.cls_Rounding, Z.cls_Rounding.cls, Z.kit_Rounding_int, Z.kit_NoneType_bool, Z.kit_bool_bool, Z.kit_dict_bool, Z.kit_int_bool, Z.kit_list_bool, Z.kit_str_bool, Z.kit_tuple_bool, Z.kit_Words_bool, Z.kit_Ratio_bool, Z.kit_Rounding_bool, Z.no_Ratio_over, Z.no_Ratio_under, Z.kit_NoneType_Ratio, Z.kit_bool_Ratio, Z.kit_dict_Ratio, Z.kit_int_Ratio, Z.kit_list_Ratio, Z.kit_str_Ratio, Z.kit_tuple_Ratio, Z.kit_Words_Ratio, Z.kit_Ratio_Ratio, Z.kit_Rounding_Ratio, Z.no_Rounding_threshold, Z.no_Rounding_is_from, lkF_self, asR_rat, toQ_rat, anyD_non, anyD_bl, anyD_int, anyD_str, anyD_tup, anyD_lst, anyD_wls, anyD_dict, isIntD_non, isIntD_bl, isIntD_int, isIntD_str, isIntD_tup, isIntD_lst, isIntD_wls, isIntD_dict, isNumD_non, isNumD_bl, isNumD_int, isNumD_str, isNumD_tup, isNumD_lst, isNumD_wls, isNumD_dict, toQ_non, toQ_bl, toQ_int, toQ_str, toQ_tup, toQ_lst, toQ_wls, toQ_dict, yOk_non, yOk_bl, yOk_int, yOk_str, yOk_tup, yOk_lst, yOk_wls, yOk_dict, cOk_non, cOk_bl, cOk_int, cOk_str, cOk_tup, cOk_lst, cOk_wls, cOk_dict, oddD, yOk_ins, cOk_ins, anyD_ins, isIntD_ins, isNumD_ins, BEq.rfl, mEqD_ii, mNeD_ii, mEqD_insL, mNeD_insL, mEqD_insR, mNeD_insR, asRd_rnd, put_put, Bool.false_or, Bool.or_false, Bool.or_true, Bool.true_or, Bool.and_true, Bool.true_and, Bool.and_false, Bool.false_and, Option.map_some, decide_eq_true_eq, lk_Ratio_over, pt_Ratio_over, lk_Ratio_under, pt_Ratio_under, nf_Ratio_divided, nf_Ratio_floor, lk_Words_all_words, pt_Words_all_words, lk_Words_taken, pt_Words_taken, lk_Rounding_threshold, pt_Rounding_threshold, lk_Rounding_is_from, pt_Rounding_is_from, nf_Rounding_stepped, nf_Rounding_is_step, nf_Rounding_before, nf_Rounding_behind, nf_Rounding_places, ↓c__law_pen.eq_1, ↓c__law_pen.eq_2, ↓c__law_draw.eq_1, ↓c__law_draw.eq_2, ↓c__law_pick.eq_1, ↓c__law_pick.eq_2, ↓c__law_frac.eq_1, ↓c__law_frac.eq_2, ↓c__law_number.eq_1, ↓c__law_number.eq_2, ↓c__law_kind.eq_1, ↓c__law_kind.eq_2, ↓c_is_integer.eq_1, ↓c_is_integer.eq_2, ↓c_divisor.eq_1, ↓c_divisor.eq_2, ↓c_new_Ratio.eq_1, ↓c_new_Ratio.eq_2, ↓c_new_Ratio.eq_3, ↓c_new_Ratio.eq_4, ↓c_is_number.eq_1, ↓c_is_number.eq_2, ↓c_Ratio_of.eq_1, ↓c_Ratio_of.eq_2, ↓c_Ratio___lt__.eq_1, ↓c_Ratio___lt__.eq_2, ↓c_Ratio___ge__.eq_1, ↓c_Ratio___ge__.eq_2, ↓c_Ratio___gt__.eq_1, ↓c_Ratio___gt__.eq_2, ↓c_Ratio___le__.eq_1, ↓c_Ratio___le__.eq_2, ↓c_is_same.eq_1, ↓c_is_same.eq_2, ↓c_Ratio___eq__.eq_1, ↓c_Ratio___eq__.eq_2, ↓c_Ratio___bool__.eq_1, ↓c_Ratio___bool__.eq_2, ↓c_new_Rounding.eq_1, ↓c_new_Rounding.eq_2, ↓c__law_rounding.eq_1, ↓c__law_rounding.eq_2, ↓c_Ratio___add__.eq_1, ↓c_Ratio___add__.eq_2, ↓c_need_number.eq_1, ↓c_need_number.eq_2, ↓c_Rounding_stepped.eq_1, ↓c_Rounding_stepped.eq_2, ↓c_Rounding___call__.eq_1, ↓c_Rounding___call__.eq_2, ↓c_Ratio___neg__.eq_1, ↓c_Ratio___neg__.eq_2, ↓c_Ratio___sub__.eq_1, ↓c_Ratio___sub__.eq_2, ↓c_Ratio_divided.eq_1, ↓c_Ratio_divided.eq_2, ↓c_Ratio_floor.eq_1, ↓c_Ratio_floor.eq_2, ↓c_Ratio___floordiv__.eq_1, ↓c_Ratio___floordiv__.eq_2, ↓c_Ratio___mul__.eq_1, ↓c_Ratio___mul__.eq_2, ↓c_Ratio___mod__.eq_1, ↓c_Ratio___mod__.eq_2, ↓c_Rounding_is_step.eq_1, ↓c_Rounding_is_step.eq_2, ↓c_Rounding_behind.eq_1, ↓c_Rounding_behind.eq_2, ↓c_Rounding_before.eq_1, ↓c_Rounding_before.eq_2, ↓c_Rounding_places.eq_1, ↓c_Rounding_places.eq_2, ↓c__law_right.eq_1, ↓c__law_right.eq_2, ↓c_law.eq_1, ↓c_law.eq_2])
set_option hygiene false in
local macro_rules | `(tactic| simp_arith [$ts,*]) => `(tactic| simp (config := {decide := false}) only [↓mEqW.eq_1, ↓mNeW.eq_1, ↓mFmtO.eq_1, ↓mCallP.eq_1, ↓mMethP.eq_1, ↓mCMethP.eq_1, ↓mCallO.eq_1, ↓mMakeP.eq_1, ↓bArgs.eq_1, ↓selA.eq_1, ↓selA.eq_2, ↓selA.eq_3, ↓selA.eq_4, ↓mSorted.eq_1, Option.getD_some, Option.getD_none, ↓mLc.eq_1, ↓goLc.eq_1, ↓goLc.eq_2, ↓wipeM.eq_1, ↓wipeM.eq_2, ↓bodyM.eq_1, ↓mVar.eq_1, ↓mC.eq_1, ↓mOp.eq_1, ↓mTest.eq_1, ↓mChain.eq_1, ↓mUn.eq_1, ↓mTru.eq_1, ↓dTru.eq_1, ↓dTru.eq_2, ↓dTru.eq_3, ↓dTru.eq_4, ↓dTru.eq_5, ↓dTru.eq_6, ↓dTru.eq_7, ↓dTru.eq_8, ↓dTru.eq_9, ↓dTru.eq_10, ↓mTr.eq_1, ↓mAnd.eq_1, ↓mOr.eq_1, ↓mNot.eq_1, ↓mAndV.eq_1, ↓mOrV.eq_1, ↓mNotV.eq_1, ↓mIf.eq_1, ↓mNil.eq_1, ↓mCons.eq_1, ↓mTup.eq_1, ↓mLst.eq_1, ↓mLstM.eq_1, ↓mAlt.eq_1, ↓uAlt.eq_1, ↓tAlt.eq_1, ↓fAlt.eq_1, ↓eAlt.eq_1, ↓lAlt.eq_1, ↓bAlt.eq_1, ↓gmName.eq_1, ↓gmNil.eq_1, ↓gmNil.eq_2, ↓gmCons.eq_1, ↓gmCons.eq_2, ↓gmTup.eq_1, ↓gmTup.eq_2, ↓gmSub.eq_1, ↓mSetL.eq_1, ↓mSetL.eq_2, ↓sNext.eq_1, ↓sSeq.eq_1, ↓sBreak.eq_1, ↓sCont.eq_1, ↓sExpr.eq_1, ↓sRet.eq_1, ↓sRetN.eq_1, ↓sIf.eq_1, ↓sSet.eq_1, ↓sAsg.eq_1, ↓sPar.eq_1, ↓sPar3.eq_1, ↓sAug.eq_1, ↓sFldM.eq_1, ↓sFldAugM.eq_1, ↓sFor.eq_1, ↓iLs.eq_1, ↓iTupM.eq_1, ↓iRange1.eq_1, ↓mCall.eq_1, ↓isC.eq_1, ↓isC.eq_2, ↓isC.eq_3, ↓mMeth.eq_1, ↓insC.eq_1, ↓insC.eq_2, ↓insC.eq_3, ↓mProp.eq_1, ↓mFld.eq_1, ↓mOwn.eq_1, ↓mOwn.eq_2, ↓mOwnR.eq_1, ↓mOwnR.eq_2, ↓mCmpO.eq_1, ↓mCmpO.eq_2, ↓kNotM.eq_1, ↓kNotM.eq_2, ↓mNeO.eq_1, ↓mNeO.eq_2, ↓mNeR.eq_1, ↓mNeR.eq_2, ↓mOwnU.eq_1, ↓mOwnU.eq_2, ↓kBlM.eq_1, ↓kBlM.eq_2, ↓mTruO.eq_1, ↓mTruO.eq_2, ↓mBoolO.eq_1, ↓mBoolO.eq_2, ↓kStrM.eq_1, ↓kStrM.eq_2, ↓mStrO.eq_1, ↓mStrO.eq_2, ↓mII.eq_1, ↓mII.eq_2, ↓mII0.eq_1, ↓mII0.eq_2, ↓mNeg.eq_1, ↓mNeg.eq_2, ↓mAddS.eq_1, ↓mAddS.eq_2, ↓noneD.eq_1, ↓noneD.eq_2, ↓mIsN.eq_1, ↓mIsN.eq_2, ↓mNotN.eq_1, ↓mNotN.eq_2, ↓mIsB.eq_1, ↓mIsB.eq_2, ↓mInt.eq_1, ↓mInt.eq_2, ↓mInt.eq_3, ↓mIntS.eq_1, ↓mIntS.eq_2, ↓mAbs.eq_1, ↓mAbs.eq_2, ↓mLen.eq_1, ↓mLen.eq_2, ↓mLen.eq_3, ↓mListF.eq_1, ↓mListF.eq_2, ↓mListM.eq_1, ↓mListM.eq_2, ↓mTupF.eq_1, ↓mTupF.eq_2, ↓mTupF.eq_3, ↓mBool1.eq_1, ↓mBool1.eq_2, ↓mBool1.eq_3, ↓mStrI.eq_1, ↓mStrI.eq_2, ↓mIx.eq_1, ↓mIx.eq_2, ↓mIxS.eq_1, ↓mIxS.eq_2, ↓mSl.eq_1, ↓mSlL.eq_1, ↓mSlS.eq_1, ↓mSlS.eq_2, ↓oNone.eq_1, ↓oSome.eq_1, ↓seqD.eq_1, ↓seqD.eq_2, ↓seqD.eq_3, ↓seqD.eq_4, ↓seqD.eq_5, ↓lsD.eq_1, ↓lsD.eq_2, ↓lsD.eq_3, ↓lsD.eq_4, ↓mdD.eq_1, ↓mdD.eq_2, ↓mdD.eq_3, ↓mCatL.eq_1, ↓mRepL.eq_1, ↓mRepL.eq_2, ↓isT.eq_1, ↓isT.eq_2, ↓isT.eq_3, ↓isT.eq_4, ↓isT.eq_5, ↓isT.eq_6, ↓mBM.eq_1, ↓bAppend.eq_1, ↓bAppend.eq_2, ↓bSplit.eq_1, ↓bSplit.eq_2, ↓bStarts.eq_1, ↓bStarts.eq_2, ↓bJoin.eq_1, ↓bJoin.eq_2, ↓mFmt.eq_1, ↓sRaise.eq_1, ↓mXat.eq_1, ↓mDict0.eq_1, ↓mNotT.eq_1, ↓mIsi.eq_1, ↓mIsi.eq_2, ↓mIsi.eq_3, ↓tyI.eq_1, ↓tyI.eq_2, ↓tyD.eq_1, ↓tyD.eq_2, ↓tyD.eq_3, ↓tyD.eq_4, ↓tyD.eq_5, ↓tyD.eq_6, ↓tyD.eq_7, ↓tyD.eq_8, ↓tyD.eq_9, ↓tyD.eq_10, ↓tyD.eq_11, ↓clsD.eq_1, ↓clsD.eq_2, ↓clsD.eq_3, ↓clsDs.eq_1, ↓clsDs.eq_2, ↓needT.eq_1, ↓needT.eq_2, ↓needT.eq_3, ↓needT.eq_4, ↓mHeard.eq_1, ↓mAsk.eq_1, ↓sTry.eq_1, ↓sFrz.eq_1, List.getElem?_cons_zero, List.getElem?_cons_succ, List.getElem?_nil, List.set_cons_zero, List.set_cons_succ, List.set_nil, List.length_cons, List.length_nil, List.map_cons, List.map_nil, List.cons_append, List.nil_append, List.append_nil, List.replicate_zero, List.replicate_succ, List.zip_cons_cons, List.zip_nil_left, List.zip_nil_right, Nat.reduceAdd, Nat.reduceSub, Nat.reduceEqDiff, Nat.reduceLT, Nat.reduceLeDiff, Nat.zero_add, Nat.add_zero, Bool.not_true, Bool.not_false, Bool.not_not, true_and, and_true, false_and, and_false, true_or, or_true, false_or, or_false, if_true, if_false, ite_true, ite_false, Bool.false_eq_true, reduceIte, reduceCtorEq, eq_self_iff_true, and_self, or_self, put_same, del_same, decide_true, decide_false, String.reduceEq, List.mem_cons, List.not_mem_nil, Int.reduceNeg, Int.reduceEq, Int.reduceLT, ne_eq, not_true_eq_false, not_false_eq_true, Z.kit_NoneType_int, Z.kit_bool_int, Z.kit_dict_int, Z.kit_int_int, Z.kit_list_int, Z.kit_str_int, Z.kit_tuple_int, Z.cls_Words, Z.cls_Words.cls, Z.kit_Words_int, Z.cls_Ratio, Z.cls_Ratio.cls, Z.kit_Ratio_int, Z.cls_Rounding, Z.cls_Rounding.cls, Z.kit_Rounding_int, Z.kit_NoneType_bool, Z.kit_bool_bool, Z.kit_dict_bool, Z.kit_int_bool, Z.kit_list_bool, Z.kit_str_bool, Z.kit_tuple_bool, Z.kit_Words_bool, Z.kit_Ratio_bool, Z.kit_Rounding_bool, Z.no_Ratio_over, Z.no_Ratio_under, Z.kit_NoneType_Ratio, Z.kit_bool_Ratio, Z.kit_dict_Ratio, Z.kit_int_Ratio, Z.kit_list_Ratio, Z.kit_str_Ratio, Z.kit_tuple_Ratio, Z.kit_Words_Ratio, Z.kit_Ratio_Ratio, Z.kit_Rounding_Ratio, Z.no_Rounding_threshold, Z.no_Rounding_is_from, lkF_self, asR_rat, toQ_rat, anyD_non, anyD_bl, anyD_int, anyD_str, anyD_tup, anyD_lst, anyD_wls, anyD_dict, isIntD_non, isIntD_bl, isIntD_int, isIntD_str, isIntD_tup, isIntD_lst, isIntD_wls, isIntD_dict, isNumD_non, isNumD_bl, isNumD_int, isNumD_str, isNumD_tup, isNumD_lst, isNumD_wls, isNumD_dict, toQ_non, toQ_bl, toQ_int, toQ_str, toQ_tup, toQ_lst, toQ_wls, toQ_dict, yOk_non, yOk_bl, yOk_int, yOk_str, yOk_tup, yOk_lst, yOk_wls, yOk_dict, cOk_non, cOk_bl, cOk_int, cOk_str, cOk_tup, cOk_lst, cOk_wls, cOk_dict, oddD, yOk_ins, cOk_ins, anyD_ins, isIntD_ins, isNumD_ins, BEq.rfl, mEqD_ii, mNeD_ii, mEqD_insL, mNeD_insL, mEqD_insR, mNeD_insR, asRd_rnd, put_put, Bool.false_or, Bool.or_false, Bool.or_true, Bool.true_or, Bool.and_true, Bool.true_and, Bool.and_false, Bool.false_and, Option.map_some, decide_eq_true_eq, lk_Ratio_over, pt_Ratio_over, lk_Ratio_under, pt_Ratio_under, nf_Ratio_divided, nf_Ratio_floor, lk_Words_all_words, pt_Words_all_words, lk_Words_taken, pt_Words_taken, lk_Rounding_threshold, pt_Rounding_threshold, lk_Rounding_is_from, pt_Rounding_is_from, nf_Rounding_stepped, nf_Rounding_is_step, nf_Rounding_before, nf_Rounding_behind, nf_Rounding_places, ↓c__law_pen.eq_1, ↓c__law_pen.eq_2, ↓c__law_draw.eq_1, ↓c__law_draw.eq_2, ↓c__law_pick.eq_1, ↓c__law_pick.eq_2, ↓c__law_frac.eq_1, ↓c__law_frac.eq_2, ↓c__law_number.eq_1, ↓c__law_number.eq_2, ↓c__law_kind.eq_1, ↓c__law_kind.eq_2, ↓c_is_integer.eq_1, ↓c_is_integer.eq_2, ↓c_divisor.eq_1, ↓c_divisor.eq_2, ↓c_new_Ratio.eq_1, ↓c_new_Ratio.eq_2, ↓c_new_Ratio.eq_3, ↓c_new_Ratio.eq_4, ↓c_is_number.eq_1, ↓c_is_number.eq_2, ↓c_Ratio_of.eq_1, ↓c_Ratio_of.eq_2, ↓c_Ratio___lt__.eq_1, ↓c_Ratio___lt__.eq_2, ↓c_Ratio___ge__.eq_1, ↓c_Ratio___ge__.eq_2, ↓c_Ratio___gt__.eq_1, ↓c_Ratio___gt__.eq_2, ↓c_Ratio___le__.eq_1, ↓c_Ratio___le__.eq_2, ↓c_is_same.eq_1, ↓c_is_same.eq_2, ↓c_Ratio___eq__.eq_1, ↓c_Ratio___eq__.eq_2, ↓c_Ratio___bool__.eq_1, ↓c_Ratio___bool__.eq_2, ↓c_new_Rounding.eq_1, ↓c_new_Rounding.eq_2, ↓c__law_rounding.eq_1, ↓c__law_rounding.eq_2, ↓c_Ratio___add__.eq_1, ↓c_Ratio___add__.eq_2, ↓c_need_number.eq_1, ↓c_need_number.eq_2, ↓c_Rounding_stepped.eq_1, ↓c_Rounding_stepped.eq_2, ↓c_Rounding___call__.eq_1, ↓c_Rounding___call__.eq_2, ↓c_Ratio___neg__.eq_1, ↓c_Ratio___neg__.eq_2, ↓c_Ratio___sub__.eq_1, ↓c_Ratio___sub__.eq_2, ↓c_Ratio_divided.eq_1, ↓c_Ratio_divided.eq_2, ↓c_Ratio_floor.eq_1, ↓c_Ratio_floor.eq_2, ↓c_Ratio___floordiv__.eq_1, ↓c_Ratio___floordiv__.eq_2, ↓c_Ratio___mul__.eq_1, ↓c_Ratio___mul__.eq_2, ↓c_Ratio___mod__.eq_1, ↓c_Ratio___mod__.eq_2, ↓c_Rounding_is_step.eq_1, ↓c_Rounding_is_step.eq_2, ↓c_Rounding_behind.eq_1, ↓c_Rounding_behind.eq_2, ↓c_Rounding_before.eq_1, ↓c_Rounding_before.eq_2, ↓c_Rounding_places.eq_1, ↓c_Rounding_places.eq_2, ↓c__law_right.eq_1, ↓c__law_right.eq_2, ↓c_law.eq_1, ↓c_law.eq_2, $ts,*])
section
variable {P : Program} {w : World} {K : PySem.W.Frag} {mg : Str → Option Value} {base : Heap}
/-! is_integer -/
def b_is_integer (K : PySem.W.Frag) : FS :=
    (sRet (mAndV (mCall (mIsi K) [] (mCons (mVar 0) (mCons (mC (.ty "int")) mNil))) (mNotV (mCall (mIsi K) [] (mCons (mVar 0) (mCons (mC (.ty "bool")) mNil))))))
def m_is_integer (K : PySem.W.Frag) : FM := bodyM 1 1 (b_is_integer K)
theorem cl_is_integer (Z : Zf P w K mg) {ds : List D} {μ : MS} {Q : D → MS → Prop} {X : MX} (h : c_is_integer K ds μ Q X) : m_is_integer K ds μ Q X := by
  unfold c_is_integer at h
  split at h
  · rename_i d
    obtain ⟨ha, h⟩ := h
    unfold m_is_integer b_is_integer
    cases d with
    | ins c fs =>
      simp only [anyD, List.mem_cons, List.not_mem_nil, or_false] at ha
      rcases ha with rfl | rfl | rfl
      all_goals (walk_at "evz"; exact h)
    | ref a => exact ha.elim
    | ty n => exact ha.elim
    | exc c fs => exact ha.elim
    | _ => walk_at "evz"; exact h
  · exact h.elim
theorem fo_is_integer {fd : FuncData} (M : MT mg K) (Z : Zf P w K mg) (F : FnP K d_is_integer fd) :
    FnOk P w K mg base (L2.CX P w) 1 (a_is_integer K) fd ["value"] (spF K (Tt K) (c_is_integer K)) :=
  FnOk.impM (fnM (b := b_is_integer K) F sc_is_integer (fun cdv A outer s H E hr =>
    (pssm_one (psm_ret (pm_and (pm_callB c_isi (by rfl) M.f_isinstance (by decide +kernel) (pam_cons (pmv 0) (pam_cons (pm_bltn (by rfl) M.f_int (by decide +kernel)) pam_nil))) (pm_one (pm_not (pm_callB c_isi (by rfl) M.f_isinstance (by decide +kernel) (pam_cons (pmv 0) (pam_cons (pm_bltn (by rfl) M.f_bool (by decide +kernel)) pam_nil)))))))))) (fun ds μ Q X h => cl_is_integer Z h)
theorem ok_is_integer {fd : FuncData} (M : MT mg K) (Z : Zf P w K mg) (F : FnP K d_is_integer fd) :
    DnM P w K mg base (Tt K) 1 (a_is_integer K) ["value"] [] (c_is_integer K) :=
  dn_mk F rfl (fun _ _ _ _ _ _ us hl => match us, hl with | [_], _ => rfl) (fo_is_integer M Z  F)
/-! divisor -/
def b_divisor (K : PySem.W.Frag) : FS :=
    (sSeq (sPar 2 3 (mCons (mCall mAbs [] (mCons (mVar 0) mNil)) (mCons (mCall mAbs [] (mCons (mVar 1) mNil)) mNil)))
    (sSeq (sWhile (mTest (mOp mGt (mVar 3) (mC (.int 0))))
      (sPar 2 3 (mCons (mVar 3) (mCons (mOp mMod (mVar 2) (mVar 3)) mNil))))
    (sRet (mVar 2))))
def m_divisor (K : PySem.W.Frag) : FM := bodyM 2 4 (b_divisor K)
theorem abs_nat (z : Int) : (if z < 0 then -z else z) = (z.natAbs : Int) := by split <;> omega
theorem cl_divisor (Z : Zf P w K mg) {ds : List D} {μ : MS} {Q : D → MS → Prop} {X : MX} (h : c_divisor K ds μ Q X) : m_divisor K ds μ Q X := by
  unfold c_divisor at h
  split at h
  · rename_i a b
    unfold m_divisor b_divisor
    walk_at "ev"
    unfold sWhile
    refine ⟨fun m ρ μ' => μ' = μ ∧ ∃ x y : Nat, ρ = [some (.int a), some (.int b), some (.int x), some (.int y)] ∧ Nat.gcd x y = Int.gcd a b ∧ m = y, ⟨_, rfl, a.natAbs, b.natAbs, by rw [abs_nat, abs_nat], rfl, rfl⟩, ?_⟩
    rintro m ρ μ' ⟨rfl, x, y, rfl, hg, hm⟩
    have hm : y = m := hm.symm
    subst hm
    walk_at "ev"
    by_cases c : (0 : Int) < (y : Int)
    · rw [if_pos (decide_eq_true c)]
      have c2 : ¬ ((y : Int) = 0) := by omega
      refine ⟨c2, ?_⟩
      have e : Int.fmod (x : Int) (y : Int) = ((x % y : Nat) : Int) := by
        rw [Int.fmod_eq_emod_of_nonneg _ (by omega)]; rfl
      rw [e]
      refine ⟨x % y, Nat.mod_lt x (by omega), y, x % y, rfl, ?_, rfl⟩
      rw [← hg, Nat.gcd_comm x y, Nat.gcd_rec y x, Nat.gcd_comm]
    · rw [if_neg (by rw [decide_eq_false c]; exact Bool.false_ne_true)]
      have e : y = 0 := by omega
      rw [e, Nat.gcd_zero_right] at hg
      rw [hg]
      exact h
  · exact h.elim
theorem fo_divisor {fd : FuncData} (M : MT mg K) (Z : Zf P w K mg) (F : FnP K d_divisor fd) :
    FnOk P w K mg base (L2.CX P w) 1 (a_divisor K) fd ["one", "other"] (spF K (Tt K) (c_divisor K)) :=
  FnOk.impM (fnM (b := b_divisor K) F sc_divisor (fun cdv A outer s H E hr =>
    (pssm_cons (psm_par (i := 2) (j := 3) (by rfl) sc_divisor.nd rfl rfl (by decide) rfl rfl (pam_cons (pm_callB f_abs (by rfl) M.f_abs (by decide +kernel) (pam_cons (pmv 0) pam_nil)) (pam_cons (pm_callB f_abs (by rfl) M.f_abs (by decide +kernel) (pam_cons (pmv 1) pam_nil)) pam_nil)) (by rfl))
    (pssm_cons (psm_while ownX (ptm_cmp o_gt (pmv 3) pm_int (nomark _))
      (pssm_one (psm_par (i := 2) (j := 3) (by rfl) sc_divisor.nd rfl rfl (by decide) rfl rfl (pam_cons (pmv 3) (pam_cons (pm_op o_mod (pmv 2) (pmv 3)) pam_nil)) (by rfl))))
    (pssm_one (psm_ret (pmv 2))))))) (fun ds μ Q X h => cl_divisor Z h)
theorem ok_divisor {fd : FuncData} (M : MT mg K) (Z : Zf P w K mg) (F : FnP K d_divisor fd) :
    DnM P w K mg base (Tt K) 1 (a_divisor K) ["one", "other"] [] (c_divisor K) :=
  dn_mk F rfl (fun _ _ _ _ _ _ us hl => match us, hl with | [_, _], _ => rfl) (fo_divisor M Z  F)
/-! Ratio.__init__ -/
def b_Ratio___init__ (K : PySem.W.Frag) : FS :=
    (sSeq (sIf (mNot (mTr mTru (mCall (c_is_integer K) [] (mCons (mVar 1) mNil))))
      (sRaise "BadRatio" ["value"] (mCons (mVar 1) mNil))
      sNext)
    (sSeq (sIf (mOr (mNot (mTr mTru (mCall (c_is_integer K) [] (mCons (mVar 2) mNil)))) (mTest (mOp mEqD (mVar 2) (mC (.int 0)))))
      (sRaise "BadRatio" ["value"] (mCons (mVar 2) mNil))
      sNext)
    (sSeq (sSet 3 (mIf (mTest (mOp mGt (mVar 2) (mC (.int 0)))) (mCall (c_divisor K) [] (mCons (mVar 1) (mCons (mVar 2) mNil))) (mUn mNeg (mCall (c_divisor K) [] (mCons (mVar 1) (mCons (mVar 2) mNil))))))
    (sSeq (sFldM K (mVar 0) (mOp mFdiv (mVar 1) (mVar 3)) "over")
    (sFldM K (mVar 0) (mOp mFdiv (mVar 2) (mVar 3)) "under")))))
def m_Ratio___init__ (K : PySem.W.Frag) : FM := bodyM 3 4 (b_Ratio___init__ K)
abbrev c_Ratio___init__ (K : PySem.W.Frag) : FM := m_Ratio___init__ K
theorem cl_Ratio___init__ (_ : Zf P w K mg) {ds : List D} {μ : MS} {Q : D → MS → Prop} {X : MX} (h : c_Ratio___init__ K ds μ Q X) : m_Ratio___init__ K ds μ Q X := h
theorem fo_Ratio___init__ {fd : FuncData} (M : MT mg K) (Z : Zf P w K mg) (D_divisor : DnM P w K mg base (Tt K) 1 (a_divisor K) ["one", "other"] [] (c_divisor K)) (D_is_integer : DnM P w K mg base (Tt K) 1 (a_is_integer K) ["value"] [] (c_is_integer K)) (F : FnP K d_Ratio___init__ fd) :
    FnOk P w K mg base (L2.CX P w) 2 (a_Ratio___init__ K) fd ["self", "over", "under"] (spF K (Tt K) (c_Ratio___init__ K)) :=
  FnOk.impM (fnM (b := b_Ratio___init__ K) F sc_Ratio___init__ (fun cdv A outer s H E hr =>
    (pssm_cons (psm_if (ptm_not (ptm_tru tm_tru (pm_call (dv := []) (dd := []) D_is_integer 0 (hr.mono (by decide)) rfl M.g_is_integer passX (pam_cons (pmv 1) pam_nil) (fun _ => .nil)) (by intro _; rfl)))
      (pssm_one (psm_raise (c := "BadRatio") (names := ["value"]) (by rfl) takeX Z.err_BadRatio hr rfl M.g_BadRatio (pam_cons (pmv 1) pam_nil)))
      pssm_nil)
    (pssm_cons (psm_if (PWM.pt (pwm_or (ptm_not (ptm_tru tm_tru (pm_call (dv := []) (dd := []) D_is_integer 0 (hr.mono (by decide)) rfl M.g_is_integer passX (pam_cons (pmv 2) pam_nil) (fun _ => .nil)) (by intro _; rfl))) (pwm_or1 (ptm_cmp (o_eqD hr.units) (pmv 2) pm_int (nomark _)))))
      (pssm_one (psm_raise (c := "BadRatio") (names := ["value"]) (by rfl) takeX Z.err_BadRatio hr rfl M.g_BadRatio (pam_cons (pmv 2) pam_nil)))
      pssm_nil)
    (pssm_cons (psm_set (i := 3) sc_Ratio___init__.nd rfl (Or.inl rfl) (pm_ifExp (ptm_cmp o_gt (pmv 2) pm_int (nomark _)) (pm_call (dv := []) (dd := []) D_divisor 0 (hr.mono (by decide)) rfl M.g_divisor passX (pam_cons (pmv 1) (pam_cons (pmv 2) pam_nil)) (fun _ => .nil)) (pm_un u_neg (pm_call (dv := []) (dd := []) D_divisor 0 (hr.mono (by decide)) rfl M.g_divisor passX (pam_cons (pmv 1) (pam_cons (pmv 2) pam_nil)) (fun _ => .nil)))))
    (pssm_cons (psm_fld (pmv 0) (pm_op o_fdiv (pmv 1) (pmv 3)) (by rfl))
    (pssm_one (psm_fld (pmv 0) (pm_op o_fdiv (pmv 2) (pmv 3)) (by rfl))))))))) (fun ds μ Q X h => cl_Ratio___init__ Z h)
theorem ok_Ratio___init__ {fd : FuncData} (M : MT mg K) (Z : Zf P w K mg) (D_divisor : DnM P w K mg base (Tt K) 1 (a_divisor K) ["one", "other"] [] (c_divisor K)) (D_is_integer : DnM P w K mg base (Tt K) 1 (a_is_integer K) ["value"] [] (c_is_integer K)) (F : FnP K d_Ratio___init__ fd) :
    DnM P w K mg base (Tt K) 2 (a_Ratio___init__ K) ["self", "over", "under"] [.int 1] (c_Ratio___init__ K) :=
  dn_mk1 (v := .int (1)) (n := 2) F rfl rfl (fun _ _ _ _ _ _ _ us its hl hi => match us, its, hl, hi with | [_, _], [_], _, _ => ⟨_, rfl, rfl⟩) (fun _ _ _ _ _ _ _ us its hl hi => match us, its, hl, hi with | [_, _, _], [_], _, _ => ⟨_, rfl, rfl⟩) (fo_Ratio___init__ M Z D_divisor D_is_integer F)
theorem new_Ratio (Z : Zf P w K mg) : ∀ ds μ Q Xm, c_new_Ratio K ds μ Q Xm → mkM "Ratio" (c_Ratio___init__ K) [] ds μ Q Xm ∨ mkMM "Ratio" (c_Ratio___init__ K) [] ds μ Q Xm := by
  intro ds μ Q X h
  refine .inl fun a ha => ?_
  unfold c_Ratio___init__ m_Ratio___init__ b_Ratio___init__
  unfold c_new_Ratio at h
  split at h
  · rename_i o u
    by_cases hu : u = 0
    · subst hu
      rw [if_pos rfl] at h
      simp_arith [List.cons_append]
      exact ⟨[], rfl, by rw [del_put ha]; exact h⟩
    · rw [if_neg hu] at h
      obtain ⟨hb, h⟩ := h
      have hs := shd_ne (o := o) hu
      have hl := gcd_log (o := o) hu hb
      obtain ⟨e1, e2⟩ := r_rat (o := o) hu
      simp_arith [hu]
      have fin : ∀ g : Int, g = shd o u → (¬ g = 0 ∧ g.natAbs.log2 < 9000) ∧ (¬ g = 0 ∧ g.natAbs.log2 < 9000) ∧ ∃ fs, some (MO.ins "Ratio" [("over", D.int (o.fdiv g)), ("under", D.int (u.fdiv g))]) = some (MO.ins "Ratio" fs) ∧ Q (.ins "Ratio" fs) (del (put μ a (MO.ins "Ratio" [("over", D.int (o.fdiv g)), ("under", D.int (u.fdiv g))])) a) := fun g hg => by
        subst hg
        refine ⟨⟨hs, hl⟩, ⟨hs, hl⟩, _, rfl, ?_⟩
        rw [del_put ha]
        have z : ratQ ((o : Rat) / (u : Rat)) = D.ins "Ratio" [("over", D.int (o.fdiv (shd o u))), ("under", D.int (u.fdiv (shd o u)))] := by
          unfold ratQ ratD
          rw [← e1, ← e2]; rfl
        rw [← z]
        exact h
      by_cases c : (0 : Int) < u
      · rw [if_pos c]
        exact fin _ (by unfold shd; rw [if_pos c])
      · rw [if_neg c]
        exact fin _ (by unfold shd; rw [if_neg c])
  · rename_i d hne
    obtain ⟨h1, h2, h⟩ := h
    simp_arith [h1, h2]
    exact ⟨[], rfl, by rw [del_put ha]; exact h⟩
  · rename_i hne hne2
    obtain ⟨h1, h2, h⟩ := h
    simp_arith [h1, h2]
    exact ⟨[], rfl, by rw [del_put ha]; exact h⟩
  · exact h.elim
/-! is_number -/
def b_is_number (K : PySem.W.Frag) : FS :=
    (sRet (mOrV (mCall (c_is_integer K) [] (mCons (mVar 0) mNil)) (mCall (mIsi K) [] (mCons (mVar 0) (mCons (mC (.ref (ca K "Ratio"))) mNil)))))
def m_is_number (K : PySem.W.Frag) : FM := bodyM 1 1 (b_is_number K)
theorem cl_is_number (Z : Zf P w K mg) {ds : List D} {μ : MS} {Q : D → MS → Prop} {X : MX} (h : c_is_number K ds μ Q X) : m_is_number K ds μ Q X := by
  unfold c_is_number at h
  split at h
  · rename_i d
    obtain ⟨ha, h⟩ := h
    unfold m_is_number b_is_number
    cases d with
    | ins c fs =>
      simp only [anyD, List.mem_cons, List.not_mem_nil, or_false] at ha
      rcases ha with rfl | rfl | rfl
      all_goals (walk_at "evz"; exact h)
    | ref a => exact ha.elim
    | ty n => exact ha.elim
    | exc c fs => exact ha.elim
    | _ => walk_at "evz"; exact h
  · exact h.elim
theorem fo_is_number {fd : FuncData} (M : MT mg K) (Z : Zf P w K mg) (D_is_integer : DnM P w K mg base (Tt K) 1 (a_is_integer K) ["value"] [] (c_is_integer K)) (F : FnP K d_is_number fd) :
    FnOk P w K mg base (L2.CX P w) 2 (a_is_number K) fd ["value"] (spF K (Tt K) (c_is_number K)) :=
  FnOk.impM (fnM (b := b_is_number K) F sc_is_number (fun cdv A outer s H E hr =>
    (pssm_one (psm_ret (pm_or (pm_call (dv := []) (dd := []) D_is_integer 0 (hr.mono (by decide)) rfl M.g_is_integer passX (pam_cons (pmv 0) pam_nil) (fun _ => .nil)) (pm_one (pm_callB c_isi (by rfl) M.f_isinstance (by decide +kernel) (pam_cons (pmv 0) (pam_cons (pm_glob (a := ca K "Ratio") rfl M.g_Ratio) pam_nil))))))))) (fun ds μ Q X h => cl_is_number Z h)
theorem ok_is_number {fd : FuncData} (M : MT mg K) (Z : Zf P w K mg) (D_is_integer : DnM P w K mg base (Tt K) 1 (a_is_integer K) ["value"] [] (c_is_integer K)) (F : FnP K d_is_number fd) :
    DnM P w K mg base (Tt K) 2 (a_is_number K) ["value"] [] (c_is_number K) :=
  dn_mk F rfl (fun _ _ _ _ _ _ us hl => match us, hl with | [_], _ => rfl) (fo_is_number M Z D_is_integer F)
end
end Mz

namespace Mz
open PySem PySem.Spec PyProof.Rows L2 AzX ClX LamX Hz He Az
local macro_rules | `(tactic| walk_at "ev") => `(tactic| simp (config := {decide := false}) only [↓mEqW.eq_1, ↓mNeW.eq_1, ↓mFmtO.eq_1, ↓mCallP.eq_1, ↓mMethP.eq_1, ↓mCMethP.eq_1, ↓mCallO.eq_1, ↓mMakeP.eq_1, ↓bArgs.eq_1, ↓selA.eq_1, ↓selA.eq_2, ↓selA.eq_3, ↓selA.eq_4, ↓mSorted.eq_1, Option.getD_some, Option.getD_none, ↓mLc.eq_1, ↓goLc.eq_1, ↓goLc.eq_2, ↓wipeM.eq_1, ↓wipeM.eq_2, ↓bodyM.eq_1, ↓mVar.eq_1, ↓mC.eq_1, ↓mOp.eq_1, ↓mTest.eq_1, ↓mChain.eq_1, ↓mUn.eq_1, ↓mTru.eq_1, ↓dTru.eq_1, ↓dTru.eq_2, ↓dTru.eq_3, ↓dTru.eq_4, ↓dTru.eq_5, ↓dTru.eq_6, ↓dTru.eq_7, ↓dTru.eq_8, ↓dTru.eq_9, ↓dTru.eq_10, ↓mTr.eq_1, ↓mAnd.eq_1, ↓mOr.eq_1, ↓mNot.eq_1, ↓mAndV.eq_1, ↓mOrV.eq_1, ↓mNotV.eq_1, ↓mIf.eq_1, ↓mNil.eq_1, ↓mCons.eq_1, ↓mTup.eq_1, ↓mLst.eq_1, ↓mLstM.eq_1, ↓mAlt.eq_1, ↓uAlt.eq_1, ↓tAlt.eq_1, ↓fAlt.eq_1, ↓eAlt.eq_1, ↓lAlt.eq_1, ↓bAlt.eq_1, ↓gmName.eq_1, ↓gmNil.eq_1, ↓gmNil.eq_2, ↓gmCons.eq_1, ↓gmCons.eq_2, ↓gmTup.eq_1, ↓gmTup.eq_2, ↓gmSub.eq_1, ↓mSetL.eq_1, ↓mSetL.eq_2, ↓sNext.eq_1, ↓sSeq.eq_1, ↓sBreak.eq_1, ↓sCont.eq_1, ↓sExpr.eq_1, ↓sRet.eq_1, ↓sRetN.eq_1, ↓sIf.eq_1, ↓sSet.eq_1, ↓sAsg.eq_1, ↓sPar.eq_1, ↓sPar3.eq_1, ↓sAug.eq_1, ↓sFldM.eq_1, ↓sFldAugM.eq_1, ↓sFor.eq_1, ↓iLs.eq_1, ↓iTupM.eq_1, ↓iRange1.eq_1, ↓mCall.eq_1, ↓isC.eq_1, ↓isC.eq_2, ↓isC.eq_3, ↓mMeth.eq_1, ↓insC.eq_1, ↓insC.eq_2, ↓insC.eq_3, ↓mProp.eq_1, ↓mFld.eq_1, ↓mOwn.eq_1, ↓mOwn.eq_2, ↓mOwnR.eq_1, ↓mOwnR.eq_2, ↓mCmpO.eq_1, ↓mCmpO.eq_2, ↓kNotM.eq_1, ↓kNotM.eq_2, ↓mNeO.eq_1, ↓mNeO.eq_2, ↓mNeR.eq_1, ↓mNeR.eq_2, ↓mOwnU.eq_1, ↓mOwnU.eq_2, ↓kBlM.eq_1, ↓kBlM.eq_2, ↓mTruO.eq_1, ↓mTruO.eq_2, ↓mBoolO.eq_1, ↓mBoolO.eq_2, ↓kStrM.eq_1, ↓kStrM.eq_2, ↓mStrO.eq_1, ↓mStrO.eq_2, ↓mII.eq_1, ↓mII.eq_2, ↓mII0.eq_1, ↓mII0.eq_2, ↓mNeg.eq_1, ↓mNeg.eq_2, ↓mAddS.eq_1, ↓mAddS.eq_2, ↓noneD.eq_1, ↓noneD.eq_2, ↓mIsN.eq_1, ↓mIsN.eq_2, ↓mNotN.eq_1, ↓mNotN.eq_2, ↓mIsB.eq_1, ↓mIsB.eq_2, ↓mInt.eq_1, ↓mInt.eq_2, ↓mInt.eq_3, ↓mIntS.eq_1, ↓mIntS.eq_2, ↓mAbs.eq_1, ↓mAbs.eq_2, ↓mLen.eq_1, ↓mLen.eq_2, ↓mLen.eq_3, ↓mListF.eq_1, ↓mListF.eq_2, ↓mListM.eq_1, ↓mListM.eq_2, ↓mTupF.eq_1, ↓mTupF.eq_2, ↓mTupF.eq_3, ↓mBool1.eq_1, ↓mBool1.eq_2, ↓mBool1.eq_3, ↓mStrI.eq_1, ↓mStrI.eq_2, ↓mIx.eq_1, ↓mIx.eq_2, ↓mIxS.eq_1, ↓mIxS.eq_2, ↓mSl.eq_1, ↓mSlL.eq_1, ↓mSlS.eq_1, ↓mSlS.eq_2, ↓oNone.eq_1, ↓oSome.eq_1, ↓seqD.eq_1, ↓seqD.eq_2, ↓seqD.eq_3, ↓seqD.eq_4, ↓seqD.eq_5, ↓lsD.eq_1, ↓lsD.eq_2, ↓lsD.eq_3, ↓lsD.eq_4, ↓mdD.eq_1, ↓mdD.eq_2, ↓mdD.eq_3, ↓mCatL.eq_1, ↓mRepL.eq_1, ↓mRepL.eq_2, ↓isT.eq_1, ↓isT.eq_2, ↓isT.eq_3, ↓isT.eq_4, ↓isT.eq_5, ↓isT.eq_6, ↓mBM.eq_1, ↓bAppend.eq_1, ↓bAppend.eq_2, ↓bSplit.eq_1, ↓bSplit.eq_2, ↓bStarts.eq_1, ↓bStarts.eq_2, ↓bJoin.eq_1, ↓bJoin.eq_2, ↓mFmt.eq_1, ↓sRaise.eq_1, ↓mXat.eq_1, ↓mDict0.eq_1, ↓mNotT.eq_1, ↓mIsi.eq_1, ↓mIsi.eq_2, ↓mIsi.eq_3, ↓tyI.eq_1, ↓tyI.eq_2, ↓tyD.eq_1, ↓tyD.eq_2, ↓tyD.eq_3, ↓tyD.eq_4, ↓tyD.eq_5, ↓tyD.eq_6, ↓tyD.eq_7, ↓tyD.eq_8, ↓tyD.eq_9, ↓tyD.eq_10, ↓tyD.eq_11, ↓clsD.eq_1, ↓clsD.eq_2, ↓clsD.eq_3, ↓clsDs.eq_1, ↓clsDs.eq_2, ↓needT.eq_1, ↓needT.eq_2, ↓needT.eq_3, ↓needT.eq_4, ↓mHeard.eq_1, ↓mAsk.eq_1, ↓sTry.eq_1, ↓sFrz.eq_1, List.getElem?_cons_zero, List.getElem?_cons_succ, List.getElem?_nil, List.set_cons_zero, List.set_cons_succ, List.set_nil, List.length_cons, List.length_nil, List.map_cons, List.map_nil, List.cons_append, List.nil_append, List.append_nil, List.replicate_zero, List.replicate_succ, List.zip_cons_cons, List.zip_nil_left, List.zip_nil_right, Nat.reduceAdd, Nat.reduceSub, Nat.reduceEqDiff, Nat.reduceLT, Nat.reduceLeDiff, Nat.zero_add, Nat.add_zero, Bool.not_true, Bool.not_false, Bool.not_not, true_and, and_true, false_and, and_false, true_or, or_true, false_or, or_false, if_true, if_false, ite_true, ite_false, Bool.false_eq_true, reduceIte, reduceCtorEq, eq_self_iff_true, and_self, or_self, put_same, del_same, decide_true, decide_false, String.reduceEq, List.mem_cons, List.not_mem_nil, Int.reduceNeg, Int.reduceEq, Int.reduceLT, ne_eq, not_true_eq_false, not_false_eq_true])
set_option hygiene false in
local macro_rules | `(tactic| walk_at "evz") => `(tactic| simp (config := {decide := false}) only [↓mEqW.eq_1, ↓mNeW.eq_1, ↓mFmtO.eq_1, ↓mCallP.eq_1, ↓mMethP.eq_1, ↓mCMethP.eq_1, ↓mCallO.eq_1, ↓mMakeP.eq_1, ↓bArgs.eq_1, ↓selA.eq_1, ↓selA.eq_2, ↓selA.eq_3, ↓selA.eq_4, ↓mSorted.eq_1, Option.getD_some, Option.getD_none, ↓mLc.eq_1, ↓goLc.eq_1, ↓goLc.eq_2, ↓wipeM.eq_1, ↓wipeM.eq_2, ↓bodyM.eq_1, ↓mVar.eq_1, ↓mC.eq_1, ↓mOp.eq_1, ↓mTest.eq_1, ↓mChain.eq_1, ↓mUn.eq_1, ↓mTru.eq_1, ↓dTru.eq_1, ↓dTru.eq_2, ↓dTru.eq_3, ↓dTru.eq_4, ↓dTru.eq_5, ↓dTru.eq_6, ↓dTru.eq_7, ↓dTru.eq_8, ↓dTru.eq_9, ↓dTru.eq_10, ↓mTr.eq_1, ↓mAnd.eq_1, ↓mOr.eq_1, ↓mNot.eq_1, ↓mAndV.eq_1, ↓mOrV.eq_1, ↓mNotV.eq_1, ↓mIf.eq_1, ↓mNil.eq_1, ↓mCons.eq_1, ↓mTup.eq_1, ↓mLst.eq_1, ↓mLstM.eq_1, ↓mAlt.eq_1, ↓uAlt.eq_1, ↓tAlt.eq_1, ↓fAlt.eq_1, ↓eAlt.eq_1, ↓lAlt.eq_1, ↓bAlt.eq_1, ↓gmName.eq_1, ↓gmNil.eq_1, ↓gmNil.eq_2, ↓gmCons.eq_1, ↓gmCons.eq_2, ↓gmTup.eq_1, ↓gmTup.eq_2, ↓gmSub.eq_1, ↓mSetL.eq_1, ↓mSetL.eq_2, ↓sNext.eq_1, ↓sSeq.eq_1, ↓sBreak.eq_1, ↓sCont.eq_1, ↓sExpr.eq_1, ↓sRet.eq_1, ↓sRetN.eq_1, ↓sIf.eq_1, ↓sSet.eq_1, ↓sAsg.eq_1, ↓sPar.eq_1, ↓sPar3.eq_1, ↓sAug.eq_1, ↓sFldM.eq_1, ↓sFldAugM.eq_1, ↓sFor.eq_1, ↓iLs.eq_1, ↓iTupM.eq_1, ↓iRange1.eq_1, ↓mCall.eq_1, ↓isC.eq_1, ↓isC.eq_2, ↓isC.eq_3, ↓mMeth.eq_1, ↓insC.eq_1, ↓insC.eq_2, ↓insC.eq_3, ↓mProp.eq_1, ↓mFld.eq_1, ↓mOwn.eq_1, ↓mOwn.eq_2, ↓mOwnR.eq_1, ↓mOwnR.eq_2, ↓mCmpO.eq_1, ↓mCmpO.eq_2, ↓kNotM.eq_1, ↓kNotM.eq_2, ↓mNeO.eq_1, ↓mNeO.eq_2, ↓mNeR.eq_1, ↓mNeR.eq_2, ↓mOwnU.eq_1, ↓mOwnU.eq_2, ↓kBlM.eq_1, ↓kBlM.eq_2, ↓mTruO.eq_1, ↓mTruO.eq_2, ↓mBoolO.eq_1, ↓mBoolO.eq_2, ↓kStrM.eq_1, ↓kStrM.eq_2, ↓mStrO.eq_1, ↓mStrO.eq_2, ↓mII.eq_1, ↓mII.eq_2, ↓mII0.eq_1, ↓mII0.eq_2, ↓mNeg.eq_1, ↓mNeg.eq_2, ↓mAddS.eq_1, ↓mAddS.eq_2, ↓noneD.eq_1, ↓noneD.eq_2, ↓mIsN.eq_1, ↓mIsN.eq_2, ↓mNotN.eq_1, ↓mNotN.eq_2, ↓mIsB.eq_1, ↓mIsB.eq_2, ↓mInt.eq_1, ↓mInt.eq_2, ↓mInt.eq_3, ↓mIntS.eq_1, ↓mIntS.eq_2, ↓mAbs.eq_1, ↓mAbs.eq_2, ↓mLen.eq_1, ↓mLen.eq_2, ↓mLen.eq_3, ↓mListF.eq_1, ↓mListF.eq_2, ↓mListM.eq_1, ↓mListM.eq_2, ↓mTupF.eq_1, ↓mTupF.eq_2, ↓mTupF.eq_3, ↓mBool1.eq_1, ↓mBool1.eq_2, ↓mBool1.eq_3, ↓mStrI.eq_1, ↓mStrI.eq_2, ↓mIx.eq_1, ↓mIx.eq_2, ↓mIxS.eq_1, ↓mIxS.eq_2, ↓mSl.eq_1, ↓mSlL.eq_1, ↓mSlS.eq_1, ↓mSlS.eq_2, ↓oNone.eq_1, ↓oSome.eq_1, ↓seqD.eq_1, ↓seqD.eq_2, ↓seqD.eq_3, ↓seqD.eq_4, ↓seqD.eq_5, ↓lsD.eq_1, ↓lsD.eq_2, ↓lsD.eq_3, ↓lsD.eq_4, ↓mdD.eq_1, ↓mdD.eq_2, ↓mdD.eq_3, ↓mCatL.eq_1, ↓mRepL.eq_1, ↓mRepL.eq_2, ↓isT.eq_1, ↓isT.eq_2, ↓isT.eq_3, ↓isT.eq_4, ↓isT.eq_5, ↓isT.eq_6, ↓mBM.eq_1, ↓bAppend.eq_1, ↓bAppend.eq_2, ↓bSplit.eq_1, ↓bSplit.eq_2, ↓bStarts.eq_1, ↓bStarts.eq_2, ↓bJoin.eq_1, ↓bJoin.eq_2, ↓mFmt.eq_1, ↓sRaise.eq_1, ↓mXat.eq_1, ↓mDict0.eq_1, ↓mNotT.eq_1, ↓mIsi.eq_1, ↓mIsi.eq_2, ↓mIsi.eq_3, ↓tyI.eq_1, ↓tyI.eq_2, ↓tyD.eq_1, ↓tyD.eq_2, ↓tyD.eq_3, ↓tyD.eq_4, ↓tyD.eq_5, ↓tyD.eq_6, ↓tyD.eq_7, ↓tyD.eq_8, ↓tyD.eq_9, ↓tyD.eq_10, ↓tyD.eq_11, ↓clsD.eq_1, ↓clsD.eq_2, ↓clsD.eq_3, ↓clsDs.eq_1, ↓clsDs.eq_2, ↓needT.eq_1, ↓needT.eq_2, ↓needT.eq_3, ↓needT.eq_4, ↓mHeard.eq_1, ↓mAsk.eq_1, ↓sTry.eq_1, ↓sFrz.eq_1, List.getElem?_cons_zero, List.getElem?_cons_succ, List.getElem?_nil, List.set_cons_zero, List.set_cons_succ, List.set_nil, List.length_cons, List.length_nil, List.map_cons, List.map_nil, List.cons_append, List.nil_append, List.append_nil, List.replicate_zero, List.replicate_succ, List.zip_cons_cons, List.zip_nil_left, List.zip_nil_right, Nat.reduceAdd, Nat.reduceSub, Nat.reduceEqDiff, Nat.reduceLT, Nat.reduceLeDiff, Nat.zero_add, Nat.add_zero, Bool.not_true, Bool.not_false, Bool.not_not, true_and, and_true, false_and, and_false, true_or, or_true, false_or, or_false, if_true, if_false, ite_true, ite_false, Bool.false_eq_true, reduceIte, reduceCtorEq, eq_self_iff_true, and_self, or_self, put_same, del_same, decide_true, decide_false, String.reduceEq, List.mem_cons, List.not_mem_nil, Int.reduceNeg, Int.reduceEq, Int.reduceLT, ne_eq, not_true_eq_false, not_false_eq_true, Z.kit_NoneType_int, Z.kit_bool_int, Z.kit_dict_int, Z.kit_int_int, Z.kit_list_int, Z.kit_str_int, Z.kit_tuple_int, Z.cls_Words, Z.cls_Words.cls, Z.kit_Words_int, Z.cls_Ratio, Z.cls_Ratio.cls, Z.kit_Ratio_int, Z.cls_Rounding, Z.cls_Rounding.cls, Z.kit_Rounding_int, Z.kit_NoneType_bool, Z.kit_bool_bool, Z.kit_dict_bool, Z.kit_int_bool, Z.kit_list_bool, Z.kit_str_bool, Z.kit_tuple_bool, Z.kit_Words_bool, Z.kit_Ratio_bool, Z.kit_Rounding_bool, Z.no_Ratio_over, Z.no_Ratio_under, Z.kit_NoneType_Ratio, Z.kit_bool_Ratio, Z.kit_dict_Ratio, Z.kit_int_Ratio, Z.kit_list_Ratio, Z.kit_str_Ratio, Z.kit_tuple_Ratio, Z.kit_Words_Ratio, Z.kit_Ratio_Ratio, Z.kit_Rounding_Ratio, Z.no_Rounding_threshold, Z.no_Rounding_is_from, lkF_self, asR_rat, toQ_rat, anyD_non, anyD_bl, anyD_int, anyD_str, anyD_tup, anyD_lst, anyD_wls, anyD_dict, isIntD_non, isIntD_bl, isIntD_int, isIntD_str, isIntD_tup, isIntD_lst, isIntD_wls, isIntD_dict, isNumD_non, isNumD_bl, isNumD_int, isNumD_str, isNumD_tup, isNumD_lst, isNumD_wls, isNumD_dict, toQ_non, toQ_bl, toQ_int, toQ_str, toQ_tup, toQ_lst, toQ_wls, toQ_dict, yOk_non, yOk_bl, yOk_int, yOk_str, yOk_tup, yOk_lst, yOk_wls, yOk_dict, cOk_non, cOk_bl, cOk_int, cOk_str, cOk_tup, cOk_lst, cOk_wls, cOk_dict, oddD, yOk_ins, cOk_ins, anyD_ins, isIntD_ins, isNumD_ins, BEq.rfl, mEqD_ii, mNeD_ii, mEqD_insL, mNeD_insL, mEqD_insR, mNeD_insR, asRd_rnd, put_put, Bool.false_or, Bool.or_false, Bool.or_true, Bool.true_or, Bool.and_true, Bool.true_and, Bool.and_false, Bool.false_and, Option.map_some, decide_eq_true_eq, lk_Ratio_over, pt_Ratio_over, lk_Ratio_under, pt_Ratio_under, nf_Ratio_divided, nf_Ratio_floor, lk_Words_all_words, pt_Words_all_words, lk_Words_taken, pt_Words_taken, lk_Rounding_threshold, pt_Rounding_threshold, lk_Rounding_is_from, pt_Rounding_is_from, nf_Rounding_stepped, nf_Rounding_is_step, nf_Rounding_before, nf_Rounding_behind, nf_Rounding_places, ↓c__law_pen.eq_1, ↓c__law_pen.eq_2, ↓c__law_draw.eq_1, ↓c__law_draw.eq_2, ↓c__law_pick.eq_1, ↓c__law_pick.eq_2, ↓c__law_frac.eq_1, ↓c__law_frac.eq_2, ↓c__law_number.eq_1, ↓c__law_number.eq_2, ↓c__law_kind.eq_1, ↓c__law_kind.eq_2, ↓c_is_integer.eq_1, ↓c_is_integer.eq_2, ↓c_divisor.eq_1, ↓c_divisor.eq_2, ↓c_new_Ratio.eq_1, ↓c_new_Ratio.eq_2, ↓c_new_Ratio.eq_3, ↓c_new_Ratio.eq_4, ↓c_is_number.eq_1, ↓c_is_number.eq_2, ↓c_Ratio_of.eq_1, ↓c_Ratio_of.eq_2, ↓c_Ratio___lt__.eq_1, ↓c_Ratio___lt__.eq_2, ↓c_Ratio___ge__.eq_1, ↓c_Ratio___ge__.eq_2, ↓c_Ratio___gt__.eq_1, ↓c_Ratio___gt__.eq_2, ↓c_Ratio___le__.eq_1, ↓c_Ratio___le__.eq_2, ↓c_is_same.eq_1, ↓c_is_same.eq_2, ↓c_Ratio___eq__.eq_1, ↓c_Ratio___eq__.eq_2, ↓c_Ratio___bool__.eq_1, ↓c_Ratio___bool__.eq_2, ↓c_new_Rounding.eq_1, ↓c_new_Rounding.eq_2, ↓c__law_rounding.eq_1, ↓c__law_rounding.eq_2, ↓c_Ratio___add__.eq_1, ↓c_Ratio___add__.eq_2, ↓c_need_number.eq_1, ↓c_need_number.eq_2, ↓c_Rounding_stepped.eq_1, ↓c_Rounding_stepped.eq_2, ↓c_Rounding___call__.eq_1, ↓c_Rounding___call__.eq_2, ↓c_Ratio___neg__.eq_1, ↓c_Ratio___neg__.eq_2, ↓c_Ratio___sub__.eq_1, ↓c_Ratio___sub__.eq_2, ↓c_Ratio_divided.eq_1, ↓c_Ratio_divided.eq_2, ↓c_Ratio_floor.eq_1, ↓c_Ratio_floor.eq_2, ↓c_Ratio___floordiv__.eq_1, ↓c_Ratio___floordiv__.eq_2, ↓c_Ratio___mul__.eq_1, ↓c_Ratio___mul__.eq_2, ↓c_Ratio___mod__.eq_1, ↓c_Ratio___mod__.eq_2, ↓c_Rounding_is_step.eq_1, ↓c_Rounding_is_step.eq_2, ↓c_Rounding_behind.eq_1, ↓c_Rounding_behind.eq_2, ↓c_Rounding_before.eq_1, ↓c_Rounding_before.eq_2, ↓c_Rounding_places.eq_1, ↓c_Rounding_places.eq_2, ↓c__law_right.eq_1, ↓c__law_right.eq_2, ↓c_law.eq_1, ↓c_law.eq_2])
set_option hygiene false in
local macro_rules | `(tactic| simp_arith [$ts,*]) => `(tactic| simp (config := {decide := false}) only [↓mEqW.eq_1, ↓mNeW.eq_1, ↓mFmtO.eq_1, ↓mCallP.eq_1, ↓mMethP.eq_1, ↓mCMethP.eq_1, ↓mCallO.eq_1, ↓mMakeP.eq_1, ↓bArgs.eq_1, ↓selA.eq_1, ↓selA.eq_2, ↓selA.eq_3, ↓selA.eq_4, ↓mSorted.eq_1, Option.getD_some, Option.getD_none, ↓mLc.eq_1, ↓goLc.eq_1, ↓goLc.eq_2, ↓wipeM.eq_1, ↓wipeM.eq_2, ↓bodyM.eq_1, ↓mVar.eq_1, ↓mC.eq_1, ↓mOp.eq_1, ↓mTest.eq_1, ↓mChain.eq_1, ↓mUn.eq_1, ↓mTru.eq_1, ↓dTru.eq_1, ↓dTru.eq_2, ↓dTru.eq_3, ↓dTru.eq_4, ↓dTru.eq_5, ↓dTru.eq_6, ↓dTru.eq_7, ↓dTru.eq_8, ↓dTru.eq_9, ↓dTru.eq_10, ↓mTr.eq_1, ↓mAnd.eq_1, ↓mOr.eq_1, ↓mNot.eq_1, ↓mAndV.eq_1, ↓mOrV.eq_1, ↓mNotV.eq_1, ↓mIf.eq_1, ↓mNil.eq_1, ↓mCons.eq_1, ↓mTup.eq_1, ↓mLst.eq_1, ↓mLstM.eq_1, ↓mAlt.eq_1, ↓uAlt.eq_1, ↓tAlt.eq_1, ↓fAlt.eq_1, ↓eAlt.eq_1, ↓lAlt.eq_1, ↓bAlt.eq_1, ↓gmName.eq_1, ↓gmNil.eq_1, ↓gmNil.eq_2, ↓gmCons.eq_1, ↓gmCons.eq_2, ↓gmTup.eq_1, ↓gmTup.eq_2, ↓gmSub.eq_1, ↓mSetL.eq_1, ↓mSetL.eq_2, ↓sNext.eq_1, ↓sSeq.eq_1, ↓sBreak.eq_1, ↓sCont.eq_1, ↓sExpr.eq_1, ↓sRet.eq_1, ↓sRetN.eq_1, ↓sIf.eq_1, ↓sSet.eq_1, ↓sAsg.eq_1, ↓sPar.eq_1, ↓sPar3.eq_1, ↓sAug.eq_1, ↓sFldM.eq_1, ↓sFldAugM.eq_1, ↓sFor.eq_1, ↓iLs.eq_1, ↓iTupM.eq_1, ↓iRange1.eq_1, ↓mCall.eq_1, ↓isC.eq_1, ↓isC.eq_2, ↓isC.eq_3, ↓mMeth.eq_1, ↓insC.eq_1, ↓insC.eq_2, ↓insC.eq_3, ↓mProp.eq_1, ↓mFld.eq_1, ↓mOwn.eq_1, ↓mOwn.eq_2, ↓mOwnR.eq_1, ↓mOwnR.eq_2, ↓mCmpO.eq_1, ↓mCmpO.eq_2, ↓kNotM.eq_1, ↓kNotM.eq_2, ↓mNeO.eq_1, ↓mNeO.eq_2, ↓mNeR.eq_1, ↓mNeR.eq_2, ↓mOwnU.eq_1, ↓mOwnU.eq_2, ↓kBlM.eq_1, ↓kBlM.eq_2, ↓mTruO.eq_1, ↓mTruO.eq_2, ↓mBoolO.eq_1, ↓mBoolO.eq_2, ↓kStrM.eq_1, ↓kStrM.eq_2, ↓mStrO.eq_1, ↓mStrO.eq_2, ↓mII.eq_1, ↓mII.eq_2, ↓mII0.eq_1, ↓mII0.eq_2, ↓mNeg.eq_1, ↓mNeg.eq_2, ↓mAddS.eq_1, ↓mAddS.eq_2, ↓noneD.eq_1, ↓noneD.eq_2, ↓mIsN.eq_1, ↓mIsN.eq_2, ↓mNotN.eq_1, ↓mNotN.eq_2, ↓mIsB.eq_1, ↓mIsB.eq_2, ↓mInt.eq_1, ↓mInt.eq_2, ↓mInt.eq_3, ↓mIntS.eq_1, ↓mIntS.eq_2, ↓mAbs.eq_1, ↓mAbs.eq_2, ↓mLen.eq_1, ↓mLen.eq_2, ↓mLen.eq_3, ↓mListF.eq_1, ↓mListF.eq_2, ↓mListM.eq_1, ↓mListM.eq_2, ↓mTupF.eq_1, ↓mTupF.eq_2, ↓mTupF.eq_3, ↓mBool1.eq_1, ↓mBool1.eq_2, ↓mBool1.eq_3, ↓mStrI.eq_1, ↓mStrI.eq_2, ↓mIx.eq_1, ↓mIx.eq_2, ↓mIxS.eq_1, ↓mIxS.eq_2, ↓mSl.eq_1, ↓mSlL.eq_1, ↓mSlS.eq_1, ↓mSlS.eq_2, ↓oNone.eq_1, ↓oSome.eq_1, ↓seqD.eq_1, ↓seqD.eq_2, ↓seqD.eq_3, ↓seqD.eq_4, ↓seqD.eq_5, ↓lsD.eq_1, ↓lsD.eq_2, ↓lsD.eq_3, ↓lsD.eq_4, ↓mdD.eq_1, ↓mdD.eq_2, ↓mdD.eq_3, ↓mCatL.eq_1, ↓mRepL.eq_1, ↓mRepL.eq_2, ↓isT.eq_1, ↓isT.eq_2, ↓isT.eq_3, ↓isT.eq_4, ↓isT.eq_5, ↓isT.eq_6, ↓mBM.eq_1, ↓bAppend.eq_1, ↓bAppend.eq_2, ↓bSplit.eq_1, ↓bSplit.eq_2, ↓bStarts.eq_1, ↓bStarts.eq_2, ↓bJoin.eq_1, ↓bJoin.eq_2, ↓mFmt.eq_1, ↓sRaise.eq_1, ↓mXat.eq_1, ↓mDict0.eq_1, ↓mNotT.eq_1, ↓mIsi.eq_1, ↓mIsi.eq_2, ↓mIsi.eq_3, ↓tyI.eq_1, ↓tyI.eq_2, ↓tyD.eq_1, ↓tyD.eq_2, ↓tyD.eq_3, ↓tyD.eq_4, ↓tyD.eq_5, ↓tyD.eq_6, ↓tyD.eq_7, ↓tyD.eq_8, ↓tyD.eq_9, ↓tyD.eq_10, ↓tyD.eq_11, ↓clsD.eq_1, ↓clsD.eq_2, ↓clsD.eq_3, ↓clsDs.eq_1, ↓clsDs.eq_2, ↓needT.eq_1, ↓needT.eq_2, ↓needT.eq_3, ↓needT.eq_4, ↓mHeard.eq_1, ↓mAsk.eq_1, ↓sTry.eq_1, ↓sFrz.eq_1, List.getElem?_cons_zero, List.getElem?_cons_succ, List.getElem?_nil, List.set_cons_zero, List.set_cons_succ, List.set_nil, List.length_cons, List.length_nil, List.map_cons, List.map_nil, List.cons_append, List.nil_append, List.append_nil, List.replicate_zero, List.replicate_succ, List.zip_cons_cons, List.zip_nil_left, List.zip_nil_right, Nat.reduceAdd, Nat.reduceSub, Nat.reduceEqDiff, Nat.reduceLT, Nat.reduceLeDiff, Nat.zero_add, Nat.add_zero, Bool.not_true, Bool.not_false, Bool.not_not, true_and, and_true, false_and, and_false, true_or, or_true, false_or, or_false, if_true, if_false, ite_true, ite_false, Bool.false_eq_true, reduceIte, reduceCtorEq, eq_self_iff_true, and_self, or_self, put_same, del_same, decide_true, decide_false, String.reduceEq, List.mem_cons, List.not_mem_nil, Int.reduceNeg, Int.reduceEq, Int.reduceLT, ne_eq, not_true_eq_false, not_false_eq_true, Z.kit_NoneType_int, Z.kit_bool_int, Z.kit_dict_int, Z.kit_int_int, Z.kit_list_int, Z.kit_str_int, Z.kit_tuple_int, Z.cls_Words, Z.cls_Words.cls, Z.kit_Words_int, Z.cls_Ratio, Z.cls_Ratio.cls, Z.kit_Ratio_int, Z.cls_Rounding, Z.cls_Rounding.cls, Z.kit_Rounding_int, Z.kit_NoneType_bool, Z.kit_bool_bool, Z.kit_dict_bool, Z.kit_int_bool, Z.kit_list_bool, Z.kit_str_bool, Z.kit_tuple_bool, Z.kit_Words_bool, Z.kit_Ratio_bool, Z.kit_Rounding_bool, Z.no_Ratio_over, Z.no_Ratio_under, Z.kit_NoneType_Ratio, Z.kit_bool_Ratio, Z.kit_dict_Ratio, Z.kit_int_Ratio, Z.kit_list_Ratio, Z.kit_str_Ratio, Z.kit_tuple_Ratio, Z.kit_Words_Ratio, Z.kit_Ratio_Ratio, Z.kit_Rounding_Ratio, Z.no_Rounding_threshold, Z.no_Rounding_is_from, lkF_self, asR_rat, toQ_rat, anyD_non, anyD_bl, anyD_int, anyD_str, anyD_tup, anyD_lst, anyD_wls, anyD_dict, isIntD_non, isIntD_bl, isIntD_int, isIntD_str, isIntD_tup, isIntD_lst, isIntD_wls, isIntD_dict, isNumD_non, isNumD_bl, isNumD_int, isNumD_str, isNumD_tup, isNumD_lst, isNumD_wls, isNumD_dict, toQ_non, toQ_bl, toQ_int, toQ_str, toQ_tup, toQ_lst, toQ_wls, toQ_dict, yOk_non, yOk_bl, yOk_int, yOk_str, yOk_tup, yOk_lst, yOk_wls, yOk_dict, cOk_non, cOk_bl, cOk_int, cOk_str, cOk_tup, cOk_lst, cOk_wls, cOk_dict, oddD, yOk_ins, cOk_ins, anyD_ins, isIntD_ins, isNumD_ins, BEq.rfl, mEqD_ii, mNeD_ii, mEqD_insL, mNeD_insL, mEqD_insR, mNeD_insR, asRd_rnd, put_put, Bool.false_or, Bool.or_false, Bool.or_true, Bool.true_or, Bool.and_true, Bool.true_and, Bool.and_false, Bool.false_and, Option.map_some, decide_eq_true_eq, lk_Ratio_over, pt_Ratio_over, lk_Ratio_under, pt_Ratio_under, nf_Ratio_divided, nf_Ratio_floor, lk_Words_all_words, pt_Words_all_words, lk_Words_taken, pt_Words_taken, lk_Rounding_threshold, pt_Rounding_threshold, lk_Rounding_is_from, pt_Rounding_is_from, nf_Rounding_stepped, nf_Rounding_is_step, nf_Rounding_before, nf_Rounding_behind, nf_Rounding_places, ↓c__law_pen.eq_1, ↓c__law_pen.eq_2, ↓c__law_draw.eq_1, ↓c__law_draw.eq_2, ↓c__law_pick.eq_1, ↓c__law_pick.eq_2, ↓c__law_frac.eq_1, ↓c__law_frac.eq_2, ↓c__law_number.eq_1, ↓c__law_number.eq_2, ↓c__law_kind.eq_1, ↓c__law_kind.eq_2, ↓c_is_integer.eq_1, ↓c_is_integer.eq_2, ↓c_divisor.eq_1, ↓c_divisor.eq_2, ↓c_new_Ratio.eq_1, ↓c_new_Ratio.eq_2, ↓c_new_Ratio.eq_3, ↓c_new_Ratio.eq_4, ↓c_is_number.eq_1, ↓c_is_number.eq_2, ↓c_Ratio_of.eq_1, ↓c_Ratio_of.eq_2, ↓c_Ratio___lt__.eq_1, ↓c_Ratio___lt__.eq_2, ↓c_Ratio___ge__.eq_1, ↓c_Ratio___ge__.eq_2, ↓c_Ratio___gt__.eq_1, ↓c_Ratio___gt__.eq_2, ↓c_Ratio___le__.eq_1, ↓c_Ratio___le__.eq_2, ↓c_is_same.eq_1, ↓c_is_same.eq_2, ↓c_Ratio___eq__.eq_1, ↓c_Ratio___eq__.eq_2, ↓c_Ratio___bool__.eq_1, ↓c_Ratio___bool__.eq_2, ↓c_new_Rounding.eq_1, ↓c_new_Rounding.eq_2, ↓c__law_rounding.eq_1, ↓c__law_rounding.eq_2, ↓c_Ratio___add__.eq_1, ↓c_Ratio___add__.eq_2, ↓c_need_number.eq_1, ↓c_need_number.eq_2, ↓c_Rounding_stepped.eq_1, ↓c_Rounding_stepped.eq_2, ↓c_Rounding___call__.eq_1, ↓c_Rounding___call__.eq_2, ↓c_Ratio___neg__.eq_1, ↓c_Ratio___neg__.eq_2, ↓c_Ratio___sub__.eq_1, ↓c_Ratio___sub__.eq_2, ↓c_Ratio_divided.eq_1, ↓c_Ratio_divided.eq_2, ↓c_Ratio_floor.eq_1, ↓c_Ratio_floor.eq_2, ↓c_Ratio___floordiv__.eq_1, ↓c_Ratio___floordiv__.eq_2, ↓c_Ratio___mul__.eq_1, ↓c_Ratio___mul__.eq_2, ↓c_Ratio___mod__.eq_1, ↓c_Ratio___mod__.eq_2, ↓c_Rounding_is_step.eq_1, ↓c_Rounding_is_step.eq_2, ↓c_Rounding_behind.eq_1, ↓c_Rounding_behind.eq_2, ↓c_Rounding_before.eq_1, ↓c_Rounding_before.eq_2, ↓c_Rounding_places.eq_1, ↓c_Rounding_places.eq_2, ↓c__law_right.eq_1, ↓c__law_right.eq_2, ↓c_law.eq_1, ↓c_law.eq_2, $ts,*])
section
variable {P : Program} {w : World} {K : PySem.W.Frag} {mg : Str → Option Value} {base : Heap}
/-! Ratio.of -/
def b_Ratio_of (K : PySem.W.Frag) : FS :=
    (sSeq (sIf (mNot (mTr mTru (mCall (c_is_number K) [] (mCons (mVar 0) mNil))))
      (sRaise "BadRatio" ["value"] (mCons (mVar 0) mNil))
      sNext)
    (sRet (mIf (mTr mTru (mCall (mIsi K) [] (mCons (mVar 0) (mCons (mC (.ref (ca K "Ratio"))) mNil)))) (mVar 0) (mCall (c_new_Ratio K) [.int 1] (mCons (mVar 0) mNil)))))
def m_Ratio_of (K : PySem.W.Frag) : FM := bodyM 1 1 (b_Ratio_of K)
theorem cl_Ratio_of (Z : Zf P w K mg) {ds : List D} {μ : MS} {Q : D → MS → Prop} {X : MX} (h : c_Ratio_of K ds μ Q X) : m_Ratio_of K ds μ Q X := by
  unfold c_Ratio_of at h
  split at h
  · rename_i d
    split at h
    · rename_i y e
      unfold m_Ratio_of b_Ratio_of
      rcases toQ_of e with ⟨i, rfl, rfl⟩ | rfl
      · simp_arith []
        rw [int_frac]
        exact ⟨one_8000, h⟩
      · simp_arith [toQ_rat]
        exact h
    · rename_i e
      unfold m_Ratio_of b_Ratio_of
      simp_arith [e, h.1.1, h.1.2]
      exact h.2
  · exact h.elim
theorem fo_Ratio_of {fd : FuncData} (M : MT mg K) (Z : Zf P w K mg) (D_Ratio___init__ : DnM P w K mg base (Tt K) 2 (a_Ratio___init__ K) ["self", "over", "under"] [.int 1] (c_Ratio___init__ K)) (D_is_number : DnM P w K mg base (Tt K) 2 (a_is_number K) ["value"] [] (c_is_number K)) (F : FnP K d_Ratio_of fd) :
    FnOk P w K mg base (L2.CX P w) 4 (a_Ratio_of K) fd ["value"] (spF K (Tt K) (c_Ratio_of K)) :=
  FnOk.impM (fnM (b := b_Ratio_of K) F sc_Ratio_of (fun cdv A outer s H E hr =>
    (pssm_cons (psm_if (ptm_not (ptm_tru tm_tru (pm_call (dv := []) (dd := []) D_is_number 0 (hr.mono (by decide)) rfl M.g_is_number passX (pam_cons (pmv 0) pam_nil) (fun _ => .nil)) (by intro _; rfl)))
      (pssm_one (psm_raise (c := "BadRatio") (names := ["value"]) (by rfl) takeX Z.err_BadRatio hr rfl M.g_BadRatio (pam_cons (pmv 0) pam_nil)))
      pssm_nil)
    (pssm_one (psm_ret (pm_ifExp (ptm_tru tm_tru (pm_callB c_isi (by rfl) M.f_isinstance (by decide +kernel) (pam_cons (pmv 0) (pam_cons (pm_glob (a := ca K "Ratio") rfl M.g_Ratio) pam_nil))) (by intro _; rfl)) (pmv 0) (pm_make (c := "Ratio") (gM := c_new_Ratio K) (dv := [.int 1]) (dd := [.int 1]) ⟨Z.mkr_Ratio, D_Ratio___init__⟩ 0 (hr.mono (by decide)) rfl M.g_Ratio passX (new_Ratio Z) (pam_cons (pmv 0) pam_nil) (fun _ => (.cons (.int _) .nil))))))))) (fun ds μ Q X h => cl_Ratio_of Z h)
theorem ok_Ratio_of {fd : FuncData} (M : MT mg K) (Z : Zf P w K mg) (D_Ratio___init__ : DnM P w K mg base (Tt K) 2 (a_Ratio___init__ K) ["self", "over", "under"] [.int 1] (c_Ratio___init__ K)) (D_is_number : DnM P w K mg base (Tt K) 2 (a_is_number K) ["value"] [] (c_is_number K)) (F : FnP K d_Ratio_of fd) :
    DnM P w K mg base (Tt K) 4 (a_Ratio_of K) ["value"] [] (c_Ratio_of K) :=
  dn_mk F rfl (fun _ _ _ _ _ _ us hl => match us, hl with | [_], _ => rfl) (fo_Ratio_of M Z D_Ratio___init__ D_is_number F)
/-! Ratio.__lt__ -/
def b_Ratio___lt__ (K : PySem.W.Frag) : FS :=
    (sSeq (sSet 2 (mCall (c_Ratio_of K) [] (mCons (mVar 1) mNil)))
    (sRet (mOp mLt (mOp mMul (mFld K (mVar 0) "over") (mFld K (mVar 2) "under")) (mOp mMul (mFld K (mVar 2) "over") (mFld K (mVar 0) "under")))))
def m_Ratio___lt__ (K : PySem.W.Frag) : FM := bodyM 2 3 (b_Ratio___lt__ K)
theorem cl_Ratio___lt__ (Z : Zf P w K mg) {ds : List D} {μ : MS} {Q : D → MS → Prop} {X : MX} (h : c_Ratio___lt__ K ds μ Q X) : m_Ratio___lt__ K ds μ Q X := by
  unfold c_Ratio___lt__ at h
  split at h
  · rename_i d1 d2
    split at h
    · rename_i x y e1 e2
      cases asR_of e1
      unfold m_Ratio___lt__ b_Ratio___lt__
      obtain ⟨s1, s2, h⟩ := h
      simp_arith [e2]
      rw [lt_cross x y]
      exact ⟨cmND s1 s2, cmND s2 s1, h⟩
    · rename_i x e1 e2
      cases asR_of e1
      unfold m_Ratio___lt__ b_Ratio___lt__
      simp_arith [e2, h.1.1, h.1.2]
      exact h.2
    · exact h.elim
  · exact h.elim
theorem fo_Ratio___lt__ {fd : FuncData} (M : MT mg K) (Z : Zf P w K mg) (D_Ratio_of : DnM P w K mg base (Tt K) 4 (a_Ratio_of K) ["value"] [] (c_Ratio_of K)) (F : FnP K d_Ratio___lt__ fd) :
    FnOk P w K mg base (L2.CX P w) 5 (a_Ratio___lt__ K) fd ["self", "other"] (spF K (Tt K) (c_Ratio___lt__ K)) :=
  FnOk.impM (fnM (b := b_Ratio___lt__ K) F sc_Ratio___lt__ (fun cdv A outer s H E hr =>
    (pssm_cons (psm_set (i := 2) sc_Ratio___lt__.nd rfl (Or.inl rfl) (pm_smeth (c := "Ratio") (dv := []) (dd := []) (pe_glob (v := .ref (ca K "Ratio")) rfl M.g_Ratio rfl) Z.cr_Ratio Z.sm_Ratio_of D_Ratio_of 0 (hr.mono (by decide)) passX (pam_cons (pmv 1) pam_nil) (fun _ => .nil)))
    (pssm_one (psm_ret (pm_cmp o_lt (pm_op o_mul (pm_fld (pmv 0) (by rfl)) (pm_fld (pmv 2) (by rfl))) (pm_op o_mul (pm_fld (pmv 2) (by rfl)) (pm_fld (pmv 0) (by rfl))) (nomark _))))))) (fun ds μ Q X h => cl_Ratio___lt__ Z h)
theorem ok_Ratio___lt__ {fd : FuncData} (M : MT mg K) (Z : Zf P w K mg) (D_Ratio_of : DnM P w K mg base (Tt K) 4 (a_Ratio_of K) ["value"] [] (c_Ratio_of K)) (F : FnP K d_Ratio___lt__ fd) :
    DnM P w K mg base (Tt K) 5 (a_Ratio___lt__ K) ["self", "other"] [] (c_Ratio___lt__ K) :=
  dn_mk F rfl (fun _ _ _ _ _ _ us hl => match us, hl with | [_, _], _ => rfl) (fo_Ratio___lt__ M Z D_Ratio_of F)
/-! Ratio.__ge__ -/
def b_Ratio___ge__ (K : PySem.W.Frag) : FS :=
    (sRet (mNotV (mOp (mCmpO "Ratio" ["Words", "Rounding"] (c_Ratio___lt__ K)) (mVar 0) (mVar 1))))
def m_Ratio___ge__ (K : PySem.W.Frag) : FM := bodyM 2 2 (b_Ratio___ge__ K)
theorem cl_Ratio___ge__ (Z : Zf P w K mg) {ds : List D} {μ : MS} {Q : D → MS → Prop} {X : MX} (h : c_Ratio___ge__ K ds μ Q X) : m_Ratio___ge__ K ds μ Q X := by
  unfold c_Ratio___ge__ at h
  split at h
  · rename_i d1 d2
    split at h
    · rename_i x y e1 e2
      cases asR_of e1
      unfold m_Ratio___ge__ b_Ratio___ge__
      obtain ⟨s1, s2, h⟩ := h
      rw [le_not y x] at h
      rcases toQ_of e2 with ⟨i, rfl, rfl⟩ | rfl
      · simp_arith []; exact ⟨s1, s2, h⟩
      · simp_arith []; exact ⟨s1, s2, h⟩
    · rename_i x e1 e2
      cases asR_of e1
      unfold m_Ratio___ge__ b_Ratio___ge__
      simp_arith [e2, h.1.1, h.1.2]
      exact ⟨cOk_of h.1.1 (by simp), h.2⟩
    · exact h.elim
  · exact h.elim
theorem fo_Ratio___ge__ {fd : FuncData} (M : MT mg K) (Z : Zf P w K mg) (D_Ratio___lt__ : DnM P w K mg base (Tt K) 5 (a_Ratio___lt__ K) ["self", "other"] [] (c_Ratio___lt__ K)) (F : FnP K d_Ratio___ge__ fd) :
    FnOk P w K mg base (L2.CX P w) 6 (a_Ratio___ge__ K) fd ["self", "other"] (spF K (Tt K) (c_Ratio___ge__ K)) :=
  FnOk.impM (fnM (b := b_Ratio___ge__ K) F sc_Ratio___ge__ (fun cdv A outer s H E hr =>
    (pssm_one (psm_ret (pm_not (pm_cmp (lt_own Z.nof_Ratio D_Ratio___lt__ (hr.mono (by decide)) passX Z.cm_Ratio___lt__) (pmv 0) (pmv 1) (nomark _))))))) (fun ds μ Q X h => cl_Ratio___ge__ Z h)
theorem ok_Ratio___ge__ {fd : FuncData} (M : MT mg K) (Z : Zf P w K mg) (D_Ratio___lt__ : DnM P w K mg base (Tt K) 5 (a_Ratio___lt__ K) ["self", "other"] [] (c_Ratio___lt__ K)) (F : FnP K d_Ratio___ge__ fd) :
    DnM P w K mg base (Tt K) 6 (a_Ratio___ge__ K) ["self", "other"] [] (c_Ratio___ge__ K) :=
  dn_mk F rfl (fun _ _ _ _ _ _ us hl => match us, hl with | [_, _], _ => rfl) (fo_Ratio___ge__ M Z D_Ratio___lt__ F)
/-! Ratio.__gt__ -/
def b_Ratio___gt__ (K : PySem.W.Frag) : FS :=
    (sSeq (sSet 2 (mCall (c_Ratio_of K) [] (mCons (mVar 1) mNil)))
    (sRet (mOp mGt (mOp mMul (mFld K (mVar 0) "over") (mFld K (mVar 2) "under")) (mOp mMul (mFld K (mVar 2) "over") (mFld K (mVar 0) "under")))))
def m_Ratio___gt__ (K : PySem.W.Frag) : FM := bodyM 2 3 (b_Ratio___gt__ K)
theorem cl_Ratio___gt__ (Z : Zf P w K mg) {ds : List D} {μ : MS} {Q : D → MS → Prop} {X : MX} (h : c_Ratio___gt__ K ds μ Q X) : m_Ratio___gt__ K ds μ Q X := by
  unfold c_Ratio___gt__ at h
  split at h
  · rename_i d1 d2
    split at h
    · rename_i x y e1 e2
      cases asR_of e1
      unfold m_Ratio___gt__ b_Ratio___gt__
      obtain ⟨s1, s2, h⟩ := h
      simp_arith [e2]
      rw [lt_cross y x]
      exact ⟨cmND s1 s2, cmND s2 s1, h⟩
    · rename_i x e1 e2
      cases asR_of e1
      unfold m_Ratio___gt__ b_Ratio___gt__
      simp_arith [e2, h.1.1, h.1.2]
      exact h.2
    · exact h.elim
  · exact h.elim
theorem fo_Ratio___gt__ {fd : FuncData} (M : MT mg K) (Z : Zf P w K mg) (D_Ratio_of : DnM P w K mg base (Tt K) 4 (a_Ratio_of K) ["value"] [] (c_Ratio_of K)) (F : FnP K d_Ratio___gt__ fd) :
    FnOk P w K mg base (L2.CX P w) 5 (a_Ratio___gt__ K) fd ["self", "other"] (spF K (Tt K) (c_Ratio___gt__ K)) :=
  FnOk.impM (fnM (b := b_Ratio___gt__ K) F sc_Ratio___gt__ (fun cdv A outer s H E hr =>
    (pssm_cons (psm_set (i := 2) sc_Ratio___gt__.nd rfl (Or.inl rfl) (pm_smeth (c := "Ratio") (dv := []) (dd := []) (pe_glob (v := .ref (ca K "Ratio")) rfl M.g_Ratio rfl) Z.cr_Ratio Z.sm_Ratio_of D_Ratio_of 0 (hr.mono (by decide)) passX (pam_cons (pmv 1) pam_nil) (fun _ => .nil)))
    (pssm_one (psm_ret (pm_cmp o_gt (pm_op o_mul (pm_fld (pmv 0) (by rfl)) (pm_fld (pmv 2) (by rfl))) (pm_op o_mul (pm_fld (pmv 2) (by rfl)) (pm_fld (pmv 0) (by rfl))) (nomark _))))))) (fun ds μ Q X h => cl_Ratio___gt__ Z h)
theorem ok_Ratio___gt__ {fd : FuncData} (M : MT mg K) (Z : Zf P w K mg) (D_Ratio_of : DnM P w K mg base (Tt K) 4 (a_Ratio_of K) ["value"] [] (c_Ratio_of K)) (F : FnP K d_Ratio___gt__ fd) :
    DnM P w K mg base (Tt K) 5 (a_Ratio___gt__ K) ["self", "other"] [] (c_Ratio___gt__ K) :=
  dn_mk F rfl (fun _ _ _ _ _ _ us hl => match us, hl with | [_, _], _ => rfl) (fo_Ratio___gt__ M Z D_Ratio_of F)
/-! Ratio.__le__ -/
def b_Ratio___le__ (K : PySem.W.Frag) : FS :=
    (sRet (mNotV (mOp (mCmpO "Ratio" ["Words", "Rounding"] (c_Ratio___gt__ K)) (mVar 0) (mVar 1))))
def m_Ratio___le__ (K : PySem.W.Frag) : FM := bodyM 2 2 (b_Ratio___le__ K)
theorem cl_Ratio___le__ (Z : Zf P w K mg) {ds : List D} {μ : MS} {Q : D → MS → Prop} {X : MX} (h : c_Ratio___le__ K ds μ Q X) : m_Ratio___le__ K ds μ Q X := by
  unfold c_Ratio___le__ at h
  split at h
  · rename_i d1 d2
    split at h
    · rename_i x y e1 e2
      cases asR_of e1
      unfold m_Ratio___le__ b_Ratio___le__
      obtain ⟨s1, s2, h⟩ := h
      rw [le_not x y] at h
      rcases toQ_of e2 with ⟨i, rfl, rfl⟩ | rfl
      · simp_arith []; exact ⟨s1, s2, h⟩
      · simp_arith []; exact ⟨s1, s2, h⟩
    · rename_i x e1 e2
      cases asR_of e1
      unfold m_Ratio___le__ b_Ratio___le__
      simp_arith [e2, h.1.1, h.1.2]
      exact ⟨cOk_of h.1.1 (by simp), h.2⟩
    · exact h.elim
  · exact h.elim
theorem fo_Ratio___le__ {fd : FuncData} (M : MT mg K) (Z : Zf P w K mg) (D_Ratio___gt__ : DnM P w K mg base (Tt K) 5 (a_Ratio___gt__ K) ["self", "other"] [] (c_Ratio___gt__ K)) (F : FnP K d_Ratio___le__ fd) :
    FnOk P w K mg base (L2.CX P w) 6 (a_Ratio___le__ K) fd ["self", "other"] (spF K (Tt K) (c_Ratio___le__ K)) :=
  FnOk.impM (fnM (b := b_Ratio___le__ K) F sc_Ratio___le__ (fun cdv A outer s H E hr =>
    (pssm_one (psm_ret (pm_not (pm_cmp (gt_own Z.nof_Ratio D_Ratio___gt__ (hr.mono (by decide)) passX Z.cm_Ratio___gt__) (pmv 0) (pmv 1) (nomark _))))))) (fun ds μ Q X h => cl_Ratio___le__ Z h)
theorem ok_Ratio___le__ {fd : FuncData} (M : MT mg K) (Z : Zf P w K mg) (D_Ratio___gt__ : DnM P w K mg base (Tt K) 5 (a_Ratio___gt__ K) ["self", "other"] [] (c_Ratio___gt__ K)) (F : FnP K d_Ratio___le__ fd) :
    DnM P w K mg base (Tt K) 6 (a_Ratio___le__ K) ["self", "other"] [] (c_Ratio___le__ K) :=
  dn_mk F rfl (fun _ _ _ _ _ _ us hl => match us, hl with | [_, _], _ => rfl) (fo_Ratio___le__ M Z D_Ratio___gt__ F)
/-! is_same -/
def b_is_same (K : PySem.W.Frag) : FS :=
    (sRet (mAndV (mCall (mIsi K) [] (mCons (mVar 1) (mCons (mC (.ref (ca K "Ratio"))) mNil))) (mAndV (mOp mEqD (mFld K (mVar 0) "over") (mFld K (mVar 1) "over")) (mOp mEqD (mFld K (mVar 0) "under") (mFld K (mVar 1) "under")))))
def m_is_same (K : PySem.W.Frag) : FM := bodyM 2 2 (b_is_same K)
theorem cl_is_same (Z : Zf P w K mg) {ds : List D} {μ : MS} {Q : D → MS → Prop} {X : MX} (h : c_is_same K ds μ Q X) : m_is_same K ds μ Q X := by
  unfold c_is_same at h
  split at h
  · rename_i d1 d2
    split at h
    · rename_i x y e1 e2
      cases asR_of e1
      cases asR_of e2
      unfold m_is_same b_is_same
      simp_arith []
      rw [eq_cross] at h
      by_cases c : x.num = y.num
      · rw [decide_eq_true c] at h ⊢
        exact h
      · rw [decide_eq_false c] at h ⊢
        exact h
    · exact h.elim
  · exact h.elim
theorem fo_is_same {fd : FuncData} (M : MT mg K) (Z : Zf P w K mg) (F : FnP K d_is_same fd) :
    FnOk P w K mg base (L2.CX P w) 1 (a_is_same K) fd ["one", "other"] (spF K (Tt K) (c_is_same K)) :=
  FnOk.impM (fnM (b := b_is_same K) F sc_is_same (fun cdv A outer s H E hr =>
    (pssm_one (psm_ret (pm_and (pm_callB c_isi (by rfl) M.f_isinstance (by decide +kernel) (pam_cons (pmv 1) (pam_cons (pm_glob (a := ca K "Ratio") rfl M.g_Ratio) pam_nil))) (pm_and (pm_cmp (o_eqD hr.units) (pm_fld (pmv 0) (by rfl)) (pm_fld (pmv 1) (by rfl)) (nomark _)) (pm_one (pm_cmp (o_eqD hr.units) (pm_fld (pmv 0) (by rfl)) (pm_fld (pmv 1) (by rfl)) (nomark _))))))))) (fun ds μ Q X h => cl_is_same Z h)
theorem ok_is_same {fd : FuncData} (M : MT mg K) (Z : Zf P w K mg) (F : FnP K d_is_same fd) :
    DnM P w K mg base (Tt K) 1 (a_is_same K) ["one", "other"] [] (c_is_same K) :=
  dn_mk F rfl (fun _ _ _ _ _ _ us hl => match us, hl with | [_, _], _ => rfl) (fo_is_same M Z  F)
end
end Mz

namespace Mz
open PySem PySem.Spec PyProof.Rows L2 AzX ClX LamX Hz He Az
local macro_rules | `(tactic| walk_at "ev") => `(tactic| simp (config := {decide := false}) only [↓mEqW.eq_1, ↓mNeW.eq_1, ↓mFmtO.eq_1, ↓mCallP.eq_1, ↓mMethP.eq_1, ↓mCMethP.eq_1, ↓mCallO.eq_1, ↓mMakeP.eq_1, ↓bArgs.eq_1, ↓selA.eq_1, ↓selA.eq_2, ↓selA.eq_3, ↓selA.eq_4, ↓mSorted.eq_1, Option.getD_some, Option.getD_none, ↓mLc.eq_1, ↓goLc.eq_1, ↓goLc.eq_2, ↓wipeM.eq_1, ↓wipeM.eq_2, ↓bodyM.eq_1, ↓mVar.eq_1, ↓mC.eq_1, ↓mOp.eq_1, ↓mTest.eq_1, ↓mChain.eq_1, ↓mUn.eq_1, ↓mTru.eq_1, ↓dTru.eq_1, ↓dTru.eq_2, ↓dTru.eq_3, ↓dTru.eq_4, ↓dTru.eq_5, ↓dTru.eq_6, ↓dTru.eq_7, ↓dTru.eq_8, ↓dTru.eq_9, ↓dTru.eq_10, ↓mTr.eq_1, ↓mAnd.eq_1, ↓mOr.eq_1, ↓mNot.eq_1, ↓mAndV.eq_1, ↓mOrV.eq_1, ↓mNotV.eq_1, ↓mIf.eq_1, ↓mNil.eq_1, ↓mCons.eq_1, ↓mTup.eq_1, ↓mLst.eq_1, ↓mLstM.eq_1, ↓mAlt.eq_1, ↓uAlt.eq_1, ↓tAlt.eq_1, ↓fAlt.eq_1, ↓eAlt.eq_1, ↓lAlt.eq_1, ↓bAlt.eq_1, ↓gmName.eq_1, ↓gmNil.eq_1, ↓gmNil.eq_2, ↓gmCons.eq_1, ↓gmCons.eq_2, ↓gmTup.eq_1, ↓gmTup.eq_2, ↓gmSub.eq_1, ↓mSetL.eq_1, ↓mSetL.eq_2, ↓sNext.eq_1, ↓sSeq.eq_1, ↓sBreak.eq_1, ↓sCont.eq_1, ↓sExpr.eq_1, ↓sRet.eq_1, ↓sRetN.eq_1, ↓sIf.eq_1, ↓sSet.eq_1, ↓sAsg.eq_1, ↓sPar.eq_1, ↓sPar3.eq_1, ↓sAug.eq_1, ↓sFldM.eq_1, ↓sFldAugM.eq_1, ↓sFor.eq_1, ↓iLs.eq_1, ↓iTupM.eq_1, ↓iRange1.eq_1, ↓mCall.eq_1, ↓isC.eq_1, ↓isC.eq_2, ↓isC.eq_3, ↓mMeth.eq_1, ↓insC.eq_1, ↓insC.eq_2, ↓insC.eq_3, ↓mProp.eq_1, ↓mFld.eq_1, ↓mOwn.eq_1, ↓mOwn.eq_2, ↓mOwnR.eq_1, ↓mOwnR.eq_2, ↓mCmpO.eq_1, ↓mCmpO.eq_2, ↓kNotM.eq_1, ↓kNotM.eq_2, ↓mNeO.eq_1, ↓mNeO.eq_2, ↓mNeR.eq_1, ↓mNeR.eq_2, ↓mOwnU.eq_1, ↓mOwnU.eq_2, ↓kBlM.eq_1, ↓kBlM.eq_2, ↓mTruO.eq_1, ↓mTruO.eq_2, ↓mBoolO.eq_1, ↓mBoolO.eq_2, ↓kStrM.eq_1, ↓kStrM.eq_2, ↓mStrO.eq_1, ↓mStrO.eq_2, ↓mII.eq_1, ↓mII.eq_2, ↓mII0.eq_1, ↓mII0.eq_2, ↓mNeg.eq_1, ↓mNeg.eq_2, ↓mAddS.eq_1, ↓mAddS.eq_2, ↓noneD.eq_1, ↓noneD.eq_2, ↓mIsN.eq_1, ↓mIsN.eq_2, ↓mNotN.eq_1, ↓mNotN.eq_2, ↓mIsB.eq_1, ↓mIsB.eq_2, ↓mInt.eq_1, ↓mInt.eq_2, ↓mInt.eq_3, ↓mIntS.eq_1, ↓mIntS.eq_2, ↓mAbs.eq_1, ↓mAbs.eq_2, ↓mLen.eq_1, ↓mLen.eq_2, ↓mLen.eq_3, ↓mListF.eq_1, ↓mListF.eq_2, ↓mListM.eq_1, ↓mListM.eq_2, ↓mTupF.eq_1, ↓mTupF.eq_2, ↓mTupF.eq_3, ↓mBool1.eq_1, ↓mBool1.eq_2, ↓mBool1.eq_3, ↓mStrI.eq_1, ↓mStrI.eq_2, ↓mIx.eq_1, ↓mIx.eq_2, ↓mIxS.eq_1, ↓mIxS.eq_2, ↓mSl.eq_1, ↓mSlL.eq_1, ↓mSlS.eq_1, ↓mSlS.eq_2, ↓oNone.eq_1, ↓oSome.eq_1, ↓seqD.eq_1, ↓seqD.eq_2, ↓seqD.eq_3, ↓seqD.eq_4, ↓seqD.eq_5, ↓lsD.eq_1, ↓lsD.eq_2, ↓lsD.eq_3, ↓lsD.eq_4, ↓mdD.eq_1, ↓mdD.eq_2, ↓mdD.eq_3, ↓mCatL.eq_1, ↓mRepL.eq_1, ↓mRepL.eq_2, ↓isT.eq_1, ↓isT.eq_2, ↓isT.eq_3, ↓isT.eq_4, ↓isT.eq_5, ↓isT.eq_6, ↓mBM.eq_1, ↓bAppend.eq_1, ↓bAppend.eq_2, ↓bSplit.eq_1, ↓bSplit.eq_2, ↓bStarts.eq_1, ↓bStarts.eq_2, ↓bJoin.eq_1, ↓bJoin.eq_2, ↓mFmt.eq_1, ↓sRaise.eq_1, ↓mXat.eq_1, ↓mDict0.eq_1, ↓mNotT.eq_1, ↓mIsi.eq_1, ↓mIsi.eq_2, ↓mIsi.eq_3, ↓tyI.eq_1, ↓tyI.eq_2, ↓tyD.eq_1, ↓tyD.eq_2, ↓tyD.eq_3, ↓tyD.eq_4, ↓tyD.eq_5, ↓tyD.eq_6, ↓tyD.eq_7, ↓tyD.eq_8, ↓tyD.eq_9, ↓tyD.eq_10, ↓tyD.eq_11, ↓clsD.eq_1, ↓clsD.eq_2, ↓clsD.eq_3, ↓clsDs.eq_1, ↓clsDs.eq_2, ↓needT.eq_1, ↓needT.eq_2, ↓needT.eq_3, ↓needT.eq_4, ↓mHeard.eq_1, ↓mAsk.eq_1, ↓sTry.eq_1, ↓sFrz.eq_1, List.getElem?_cons_zero, List.getElem?_cons_succ, List.getElem?_nil, List.set_cons_zero, List.set_cons_succ, List.set_nil, List.length_cons, List.length_nil, List.map_cons, List.map_nil, List.cons_append, List.nil_append, List.append_nil, List.replicate_zero, List.replicate_succ, List.zip_cons_cons, List.zip_nil_left, List.zip_nil_right, Nat.reduceAdd, Nat.reduceSub, Nat.reduceEqDiff, Nat.reduceLT, Nat.reduceLeDiff, Nat.zero_add, Nat.add_zero, Bool.not_true, Bool.not_false, Bool.not_not, true_and, and_true, false_and, and_false, true_or, or_true, false_or, or_false, if_true, if_false, ite_true, ite_false, Bool.false_eq_true, reduceIte, reduceCtorEq, eq_self_iff_true, and_self, or_self, put_same, del_same, decide_true, decide_false, String.reduceEq, List.mem_cons, List.not_mem_nil, Int.reduceNeg, Int.reduceEq, Int.reduceLT, ne_eq, not_true_eq_false, not_false_eq_true])
set_option hygiene false in
local macro_rules | `(tactic| walk_at "evz") => `(tactic| simp (config := {decide := false}) only [↓mEqW.eq_1, ↓mNeW.eq_1, ↓mFmtO.eq_1, ↓mCallP.eq_1, ↓mMethP.eq_1, ↓mCMethP.eq_1, ↓mCallO.eq_1, ↓mMakeP.eq_1, ↓bArgs.eq_1, ↓selA.eq_1, ↓selA.eq_2, ↓selA.eq_3, ↓selA.eq_4, ↓mSorted.eq_1, Option.getD_some, Option.getD_none, ↓mLc.eq_1, ↓goLc.eq_1, ↓goLc.eq_2, ↓wipeM.eq_1, ↓wipeM.eq_2, ↓bodyM.eq_1, ↓mVar.eq_1, ↓mC.eq_1, ↓mOp.eq_1, ↓mTest.eq_1, ↓mChain.eq_1, ↓mUn.eq_1, ↓mTru.eq_1, ↓dTru.eq_1, ↓dTru.eq_2, ↓dTru.eq_3, ↓dTru.eq_4, ↓dTru.eq_5, ↓dTru.eq_6, ↓dTru.eq_7, ↓dTru.eq_8, ↓dTru.eq_9, ↓dTru.eq_10, ↓mTr.eq_1, ↓mAnd.eq_1, ↓mOr.eq_1, ↓mNot.eq_1, ↓mAndV.eq_1, ↓mOrV.eq_1, ↓mNotV.eq_1, ↓mIf.eq_1, ↓mNil.eq_1, ↓mCons.eq_1, ↓mTup.eq_1, ↓mLst.eq_1, ↓mLstM.eq_1, ↓mAlt.eq_1, ↓uAlt.eq_1, ↓tAlt.eq_1, ↓fAlt.eq_1, ↓eAlt.eq_1, ↓lAlt.eq_1, ↓bAlt.eq_1, ↓gmName.eq_1, ↓gmNil.eq_1, ↓gmNil.eq_2, ↓gmCons.eq_1, ↓gmCons.eq_2, ↓gmTup.eq_1, ↓gmTup.eq_2, ↓gmSub.eq_1, ↓mSetL.eq_1, ↓mSetL.eq_2, ↓sNext.eq_1, ↓sSeq.eq_1, ↓sBreak.eq_1, ↓sCont.eq_1, ↓sExpr.eq_1, ↓sRet.eq_1, ↓sRetN.eq_1, ↓sIf.eq_1, ↓sSet.eq_1, ↓sAsg.eq_1, ↓sPar.eq_1, ↓sPar3.eq_1, ↓sAug.eq_1, ↓sFldM.eq_1, ↓sFldAugM.eq_1, ↓sFor.eq_1, ↓iLs.eq_1, ↓iTupM.eq_1, ↓iRange1.eq_1, ↓mCall.eq_1, ↓isC.eq_1, ↓isC.eq_2, ↓isC.eq_3, ↓mMeth.eq_1, ↓insC.eq_1, ↓insC.eq_2, ↓insC.eq_3, ↓mProp.eq_1, ↓mFld.eq_1, ↓mOwn.eq_1, ↓mOwn.eq_2, ↓mOwnR.eq_1, ↓mOwnR.eq_2, ↓mCmpO.eq_1, ↓mCmpO.eq_2, ↓kNotM.eq_1, ↓kNotM.eq_2, ↓mNeO.eq_1, ↓mNeO.eq_2, ↓mNeR.eq_1, ↓mNeR.eq_2, ↓mOwnU.eq_1, ↓mOwnU.eq_2, ↓kBlM.eq_1, ↓kBlM.eq_2, ↓mTruO.eq_1, ↓mTruO.eq_2, ↓mBoolO.eq_1, ↓mBoolO.eq_2, ↓kStrM.eq_1, ↓kStrM.eq_2, ↓mStrO.eq_1, ↓mStrO.eq_2, ↓mII.eq_1, ↓mII.eq_2, ↓mII0.eq_1, ↓mII0.eq_2, ↓mNeg.eq_1, ↓mNeg.eq_2, ↓mAddS.eq_1, ↓mAddS.eq_2, ↓noneD.eq_1, ↓noneD.eq_2, ↓mIsN.eq_1, ↓mIsN.eq_2, ↓mNotN.eq_1, ↓mNotN.eq_2, ↓mIsB.eq_1, ↓mIsB.eq_2, ↓mInt.eq_1, ↓mInt.eq_2, ↓mInt.eq_3, ↓mIntS.eq_1, ↓mIntS.eq_2, ↓mAbs.eq_1, ↓mAbs.eq_2, ↓mLen.eq_1, ↓mLen.eq_2, ↓mLen.eq_3, ↓mListF.eq_1, ↓mListF.eq_2, ↓mListM.eq_1, ↓mListM.eq_2, ↓mTupF.eq_1, ↓mTupF.eq_2, ↓mTupF.eq_3, ↓mBool1.eq_1, ↓mBool1.eq_2, ↓mBool1.eq_3, ↓mStrI.eq_1, ↓mStrI.eq_2, ↓mIx.eq_1, ↓mIx.eq_2, ↓mIxS.eq_1, ↓mIxS.eq_2, ↓mSl.eq_1, ↓mSlL.eq_1, ↓mSlS.eq_1, ↓mSlS.eq_2, ↓oNone.eq_1, ↓oSome.eq_1, ↓seqD.eq_1, ↓seqD.eq_2, ↓seqD.eq_3, ↓seqD.eq_4, ↓seqD.eq_5, ↓lsD.eq_1, ↓lsD.eq_2, ↓lsD.eq_3, ↓lsD.eq_4, ↓mdD.eq_1, ↓mdD.eq_2, ↓mdD.eq_3, ↓mCatL.eq_1, ↓mRepL.eq_1, ↓mRepL.eq_2, ↓isT.eq_1, ↓isT.eq_2, ↓isT.eq_3, ↓isT.eq_4, ↓isT.eq_5, ↓isT.eq_6, ↓mBM.eq_1, ↓bAppend.eq_1, ↓bAppend.eq_2, ↓bSplit.eq_1, ↓bSplit.eq_2, ↓bStarts.eq_1, ↓bStarts.eq_2, ↓bJoin.eq_1, ↓bJoin.eq_2, ↓mFmt.eq_1, ↓sRaise.eq_1, ↓mXat.eq_1, ↓mDict0.eq_1, ↓mNotT.eq_1, ↓mIsi.eq_1, ↓mIsi.eq_2, ↓mIsi.eq_3, ↓tyI.eq_1, ↓tyI.eq_2, ↓tyD.eq_1, ↓tyD.eq_2, ↓tyD.eq_3, ↓tyD.eq_4, ↓tyD.eq_5, ↓tyD.eq_6, ↓tyD.eq_7, ↓tyD.eq_8, ↓tyD.eq_9, ↓tyD.eq_10, ↓tyD.eq_11, ↓clsD.eq_1, ↓clsD.eq_2, ↓clsD.eq_3, ↓clsDs.eq_1, ↓clsDs.eq_2, ↓needT.eq_1, ↓needT.eq_2, ↓needT.eq_3, ↓needT.eq_4, ↓mHeard.eq_1, ↓mAsk.eq_1, ↓sTry.eq_1, ↓sFrz.eq_1, List.getElem?_cons_zero, List.getElem?_cons_succ, List.getElem?_nil, List.set_cons_zero, List.set_cons_succ, List.set_nil, List.length_cons, List.length_nil, List.map_cons, List.map_nil, List.cons_append, List.nil_append, List.append_nil, List.replicate_zero, List.replicate_succ, List.zip_cons_cons, List.zip_nil_left, List.zip_nil_right, Nat.reduceAdd, Nat.reduceSub, Nat.reduceEqDiff, Nat.reduceLT, Nat.reduceLeDiff, Nat.zero_add, Nat.add_zero, Bool.not_true, Bool.not_false, Bool.not_not, true_and, and_true, false_and, and_false, true_or, or_true, false_or, or_false, if_true, if_false, ite_true, ite_false, Bool.false_eq_true, reduceIte, reduceCtorEq, eq_self_iff_true, and_self, or_self, put_same, del_same, decide_true, decide_false, String.reduceEq, List.mem_cons, List.not_mem_nil, Int.reduceNeg, Int.reduceEq, Int.reduceLT, ne_eq, not_true_eq_false, not_false_eq_true, Z.kit_NoneType_int, Z.kit_bool_int, Z.kit_dict_int, Z.kit_int_int, Z.kit_list_int, Z.kit_str_int, Z.kit_tuple_int, Z.cls_Words, Z.cls_Words.cls, Z.kit_Words_int, Z.cls_Ratio, Z.cls_Ratio.cls, Z.kit_Ratio_int, Z.cls_Rounding, Z.cls_Rounding.cls, Z.kit_Rounding_int, Z.kit_NoneType_bool, Z.kit_bool_bool, Z.kit_dict_bool, Z.kit_int_bool, Z.kit_list_bool, Z.kit_str_bool, Z.kit_tuple_bool, Z.kit_Words_bool, Z.kit_Ratio_bool, Z.kit_Rounding_bool, Z.no_Ratio_over, Z.no_Ratio_under, Z.kit_NoneType_Ratio, Z.kit_bool_Ratio, Z.kit_dict_Ratio, Z.kit_int_Ratio, Z.kit_list_Ratio, Z.kit_str_Ratio, Z.kit_tuple_Ratio, Z.kit_Words_Ratio, Z.kit_Ratio_Ratio, Z.kit_Rounding_Ratio, Z.no_Rounding_threshold, Z.no_Rounding_is_from, lkF_self, asR_rat, toQ_rat, anyD_non, anyD_bl, anyD_int, anyD_str, anyD_tup, anyD_lst, anyD_wls, anyD_dict, isIntD_non, isIntD_bl, isIntD_int, isIntD_str, isIntD_tup, isIntD_lst, isIntD_wls, isIntD_dict, isNumD_non, isNumD_bl, isNumD_int, isNumD_str, isNumD_tup, isNumD_lst, isNumD_wls, isNumD_dict, toQ_non, toQ_bl, toQ_int, toQ_str, toQ_tup, toQ_lst, toQ_wls, toQ_dict, yOk_non, yOk_bl, yOk_int, yOk_str, yOk_tup, yOk_lst, yOk_wls, yOk_dict, cOk_non, cOk_bl, cOk_int, cOk_str, cOk_tup, cOk_lst, cOk_wls, cOk_dict, oddD, yOk_ins, cOk_ins, anyD_ins, isIntD_ins, isNumD_ins, BEq.rfl, mEqD_ii, mNeD_ii, mEqD_insL, mNeD_insL, mEqD_insR, mNeD_insR, asRd_rnd, put_put, Bool.false_or, Bool.or_false, Bool.or_true, Bool.true_or, Bool.and_true, Bool.true_and, Bool.and_false, Bool.false_and, Option.map_some, decide_eq_true_eq, lk_Ratio_over, pt_Ratio_over, lk_Ratio_under, pt_Ratio_under, nf_Ratio_divided, nf_Ratio_floor, lk_Words_all_words, pt_Words_all_words, lk_Words_taken, pt_Words_taken, lk_Rounding_threshold, pt_Rounding_threshold, lk_Rounding_is_from, pt_Rounding_is_from, nf_Rounding_stepped, nf_Rounding_is_step, nf_Rounding_before, nf_Rounding_behind, nf_Rounding_places, ↓c__law_pen.eq_1, ↓c__law_pen.eq_2, ↓c__law_draw.eq_1, ↓c__law_draw.eq_2, ↓c__law_pick.eq_1, ↓c__law_pick.eq_2, ↓c__law_frac.eq_1, ↓c__law_frac.eq_2, ↓c__law_number.eq_1, ↓c__law_number.eq_2, ↓c__law_kind.eq_1, ↓c__law_kind.eq_2, ↓c_is_integer.eq_1, ↓c_is_integer.eq_2, ↓c_divisor.eq_1, ↓c_divisor.eq_2, ↓c_new_Ratio.eq_1, ↓c_new_Ratio.eq_2, ↓c_new_Ratio.eq_3, ↓c_new_Ratio.eq_4, ↓c_is_number.eq_1, ↓c_is_number.eq_2, ↓c_Ratio_of.eq_1, ↓c_Ratio_of.eq_2, ↓c_Ratio___lt__.eq_1, ↓c_Ratio___lt__.eq_2, ↓c_Ratio___ge__.eq_1, ↓c_Ratio___ge__.eq_2, ↓c_Ratio___gt__.eq_1, ↓c_Ratio___gt__.eq_2, ↓c_Ratio___le__.eq_1, ↓c_Ratio___le__.eq_2, ↓c_is_same.eq_1, ↓c_is_same.eq_2, ↓c_Ratio___eq__.eq_1, ↓c_Ratio___eq__.eq_2, ↓c_Ratio___bool__.eq_1, ↓c_Ratio___bool__.eq_2, ↓c_new_Rounding.eq_1, ↓c_new_Rounding.eq_2, ↓c__law_rounding.eq_1, ↓c__law_rounding.eq_2, ↓c_Ratio___add__.eq_1, ↓c_Ratio___add__.eq_2, ↓c_need_number.eq_1, ↓c_need_number.eq_2, ↓c_Rounding_stepped.eq_1, ↓c_Rounding_stepped.eq_2, ↓c_Rounding___call__.eq_1, ↓c_Rounding___call__.eq_2, ↓c_Ratio___neg__.eq_1, ↓c_Ratio___neg__.eq_2, ↓c_Ratio___sub__.eq_1, ↓c_Ratio___sub__.eq_2, ↓c_Ratio_divided.eq_1, ↓c_Ratio_divided.eq_2, ↓c_Ratio_floor.eq_1, ↓c_Ratio_floor.eq_2, ↓c_Ratio___floordiv__.eq_1, ↓c_Ratio___floordiv__.eq_2, ↓c_Ratio___mul__.eq_1, ↓c_Ratio___mul__.eq_2, ↓c_Ratio___mod__.eq_1, ↓c_Ratio___mod__.eq_2, ↓c_Rounding_is_step.eq_1, ↓c_Rounding_is_step.eq_2, ↓c_Rounding_behind.eq_1, ↓c_Rounding_behind.eq_2, ↓c_Rounding_before.eq_1, ↓c_Rounding_before.eq_2, ↓c_Rounding_places.eq_1, ↓c_Rounding_places.eq_2, ↓c__law_right.eq_1, ↓c__law_right.eq_2, ↓c_law.eq_1, ↓c_law.eq_2])
set_option hygiene false in
local macro_rules | `(tactic| simp_arith [$ts,*]) => `(tactic| simp (config := {decide := false}) only [↓mEqW.eq_1, ↓mNeW.eq_1, ↓mFmtO.eq_1, ↓mCallP.eq_1, ↓mMethP.eq_1, ↓mCMethP.eq_1, ↓mCallO.eq_1, ↓mMakeP.eq_1, ↓bArgs.eq_1, ↓selA.eq_1, ↓selA.eq_2, ↓selA.eq_3, ↓selA.eq_4, ↓mSorted.eq_1, Option.getD_some, Option.getD_none, ↓mLc.eq_1, ↓goLc.eq_1, ↓goLc.eq_2, ↓wipeM.eq_1, ↓wipeM.eq_2, ↓bodyM.eq_1, ↓mVar.eq_1, ↓mC.eq_1, ↓mOp.eq_1, ↓mTest.eq_1, ↓mChain.eq_1, ↓mUn.eq_1, ↓mTru.eq_1, ↓dTru.eq_1, ↓dTru.eq_2, ↓dTru.eq_3, ↓dTru.eq_4, ↓dTru.eq_5, ↓dTru.eq_6, ↓dTru.eq_7, ↓dTru.eq_8, ↓dTru.eq_9, ↓dTru.eq_10, ↓mTr.eq_1, ↓mAnd.eq_1, ↓mOr.eq_1, ↓mNot.eq_1, ↓mAndV.eq_1, ↓mOrV.eq_1, ↓mNotV.eq_1, ↓mIf.eq_1, ↓mNil.eq_1, ↓mCons.eq_1, ↓mTup.eq_1, ↓mLst.eq_1, ↓mLstM.eq_1, ↓mAlt.eq_1, ↓uAlt.eq_1, ↓tAlt.eq_1, ↓fAlt.eq_1, ↓eAlt.eq_1, ↓lAlt.eq_1, ↓bAlt.eq_1, ↓gmName.eq_1, ↓gmNil.eq_1, ↓gmNil.eq_2, ↓gmCons.eq_1, ↓gmCons.eq_2, ↓gmTup.eq_1, ↓gmTup.eq_2, ↓gmSub.eq_1, ↓mSetL.eq_1, ↓mSetL.eq_2, ↓sNext.eq_1, ↓sSeq.eq_1, ↓sBreak.eq_1, ↓sCont.eq_1, ↓sExpr.eq_1, ↓sRet.eq_1, ↓sRetN.eq_1, ↓sIf.eq_1, ↓sSet.eq_1, ↓sAsg.eq_1, ↓sPar.eq_1, ↓sPar3.eq_1, ↓sAug.eq_1, ↓sFldM.eq_1, ↓sFldAugM.eq_1, ↓sFor.eq_1, ↓iLs.eq_1, ↓iTupM.eq_1, ↓iRange1.eq_1, ↓mCall.eq_1, ↓isC.eq_1, ↓isC.eq_2, ↓isC.eq_3, ↓mMeth.eq_1, ↓insC.eq_1, ↓insC.eq_2, ↓insC.eq_3, ↓mProp.eq_1, ↓mFld.eq_1, ↓mOwn.eq_1, ↓mOwn.eq_2, ↓mOwnR.eq_1, ↓mOwnR.eq_2, ↓mCmpO.eq_1, ↓mCmpO.eq_2, ↓kNotM.eq_1, ↓kNotM.eq_2, ↓mNeO.eq_1, ↓mNeO.eq_2, ↓mNeR.eq_1, ↓mNeR.eq_2, ↓mOwnU.eq_1, ↓mOwnU.eq_2, ↓kBlM.eq_1, ↓kBlM.eq_2, ↓mTruO.eq_1, ↓mTruO.eq_2, ↓mBoolO.eq_1, ↓mBoolO.eq_2, ↓kStrM.eq_1, ↓kStrM.eq_2, ↓mStrO.eq_1, ↓mStrO.eq_2, ↓mII.eq_1, ↓mII.eq_2, ↓mII0.eq_1, ↓mII0.eq_2, ↓mNeg.eq_1, ↓mNeg.eq_2, ↓mAddS.eq_1, ↓mAddS.eq_2, ↓noneD.eq_1, ↓noneD.eq_2, ↓mIsN.eq_1, ↓mIsN.eq_2, ↓mNotN.eq_1, ↓mNotN.eq_2, ↓mIsB.eq_1, ↓mIsB.eq_2, ↓mInt.eq_1, ↓mInt.eq_2, ↓mInt.eq_3, ↓mIntS.eq_1, ↓mIntS.eq_2, ↓mAbs.eq_1, ↓mAbs.eq_2, ↓mLen.eq_1, ↓mLen.eq_2, ↓mLen.eq_3, ↓mListF.eq_1, ↓mListF.eq_2, ↓mListM.eq_1, ↓mListM.eq_2, ↓mTupF.eq_1, ↓mTupF.eq_2, ↓mTupF.eq_3, ↓mBool1.eq_1, ↓mBool1.eq_2, ↓mBool1.eq_3, ↓mStrI.eq_1, ↓mStrI.eq_2, ↓mIx.eq_1, ↓mIx.eq_2, ↓mIxS.eq_1, ↓mIxS.eq_2, ↓mSl.eq_1, ↓mSlL.eq_1, ↓mSlS.eq_1, ↓mSlS.eq_2, ↓oNone.eq_1, ↓oSome.eq_1, ↓seqD.eq_1, ↓seqD.eq_2, ↓seqD.eq_3, ↓seqD.eq_4, ↓seqD.eq_5, ↓lsD.eq_1, ↓lsD.eq_2, ↓lsD.eq_3, ↓lsD.eq_4, ↓mdD.eq_1, ↓mdD.eq_2, ↓mdD.eq_3, ↓mCatL.eq_1, ↓mRepL.eq_1, ↓mRepL.eq_2, ↓isT.eq_1, ↓isT.eq_2, ↓isT.eq_3, ↓isT.eq_4, ↓isT.eq_5, ↓isT.eq_6, ↓mBM.eq_1, ↓bAppend.eq_1, ↓bAppend.eq_2, ↓bSplit.eq_1, ↓bSplit.eq_2, ↓bStarts.eq_1, ↓bStarts.eq_2, ↓bJoin.eq_1, ↓bJoin.eq_2, ↓mFmt.eq_1, ↓sRaise.eq_1, ↓mXat.eq_1, ↓mDict0.eq_1, ↓mNotT.eq_1, ↓mIsi.eq_1, ↓mIsi.eq_2, ↓mIsi.eq_3, ↓tyI.eq_1, ↓tyI.eq_2, ↓tyD.eq_1, ↓tyD.eq_2, ↓tyD.eq_3, ↓tyD.eq_4, ↓tyD.eq_5, ↓tyD.eq_6, ↓tyD.eq_7, ↓tyD.eq_8, ↓tyD.eq_9, ↓tyD.eq_10, ↓tyD.eq_11, ↓clsD.eq_1, ↓clsD.eq_2, ↓clsD.eq_3, ↓clsDs.eq_1, ↓clsDs.eq_2, ↓needT.eq_1, ↓needT.eq_2, ↓needT.eq_3, ↓needT.eq_4, ↓mHeard.eq_1, ↓mAsk.eq_1, ↓sTry.eq_1, ↓sFrz.eq_1, List.getElem?_cons_zero, List.getElem?_cons_succ, List.getElem?_nil, List.set_cons_zero, List.set_cons_succ, List.set_nil, List.length_cons, List.length_nil, List.map_cons, List.map_nil, List.cons_append, List.nil_append, List.append_nil, List.replicate_zero, List.replicate_succ, List.zip_cons_cons, List.zip_nil_left, List.zip_nil_right, Nat.reduceAdd, Nat.reduceSub, Nat.reduceEqDiff, Nat.reduceLT, Nat.reduceLeDiff, Nat.zero_add, Nat.add_zero, Bool.not_true, Bool.not_false, Bool.not_not, true_and, and_true, false_and, and_false, true_or, or_true, false_or, or_false, if_true, if_false, ite_true, ite_false, Bool.false_eq_true, reduceIte, reduceCtorEq, eq_self_iff_true, and_self, or_self, put_same, del_same, decide_true, decide_false, String.reduceEq, List.mem_cons, List.not_mem_nil, Int.reduceNeg, Int.reduceEq, Int.reduceLT, ne_eq, not_true_eq_false, not_false_eq_true, Z.kit_NoneType_int, Z.kit_bool_int, Z.kit_dict_int, Z.kit_int_int, Z.kit_list_int, Z.kit_str_int, Z.kit_tuple_int, Z.cls_Words, Z.cls_Words.cls, Z.kit_Words_int, Z.cls_Ratio, Z.cls_Ratio.cls, Z.kit_Ratio_int, Z.cls_Rounding, Z.cls_Rounding.cls, Z.kit_Rounding_int, Z.kit_NoneType_bool, Z.kit_bool_bool, Z.kit_dict_bool, Z.kit_int_bool, Z.kit_list_bool, Z.kit_str_bool, Z.kit_tuple_bool, Z.kit_Words_bool, Z.kit_Ratio_bool, Z.kit_Rounding_bool, Z.no_Ratio_over, Z.no_Ratio_under, Z.kit_NoneType_Ratio, Z.kit_bool_Ratio, Z.kit_dict_Ratio, Z.kit_int_Ratio, Z.kit_list_Ratio, Z.kit_str_Ratio, Z.kit_tuple_Ratio, Z.kit_Words_Ratio, Z.kit_Ratio_Ratio, Z.kit_Rounding_Ratio, Z.no_Rounding_threshold, Z.no_Rounding_is_from, lkF_self, asR_rat, toQ_rat, anyD_non, anyD_bl, anyD_int, anyD_str, anyD_tup, anyD_lst, anyD_wls, anyD_dict, isIntD_non, isIntD_bl, isIntD_int, isIntD_str, isIntD_tup, isIntD_lst, isIntD_wls, isIntD_dict, isNumD_non, isNumD_bl, isNumD_int, isNumD_str, isNumD_tup, isNumD_lst, isNumD_wls, isNumD_dict, toQ_non, toQ_bl, toQ_int, toQ_str, toQ_tup, toQ_lst, toQ_wls, toQ_dict, yOk_non, yOk_bl, yOk_int, yOk_str, yOk_tup, yOk_lst, yOk_wls, yOk_dict, cOk_non, cOk_bl, cOk_int, cOk_str, cOk_tup, cOk_lst, cOk_wls, cOk_dict, oddD, yOk_ins, cOk_ins, anyD_ins, isIntD_ins, isNumD_ins, BEq.rfl, mEqD_ii, mNeD_ii, mEqD_insL, mNeD_insL, mEqD_insR, mNeD_insR, asRd_rnd, put_put, Bool.false_or, Bool.or_false, Bool.or_true, Bool.true_or, Bool.and_true, Bool.true_and, Bool.and_false, Bool.false_and, Option.map_some, decide_eq_true_eq, lk_Ratio_over, pt_Ratio_over, lk_Ratio_under, pt_Ratio_under, nf_Ratio_divided, nf_Ratio_floor, lk_Words_all_words, pt_Words_all_words, lk_Words_taken, pt_Words_taken, lk_Rounding_threshold, pt_Rounding_threshold, lk_Rounding_is_from, pt_Rounding_is_from, nf_Rounding_stepped, nf_Rounding_is_step, nf_Rounding_before, nf_Rounding_behind, nf_Rounding_places, ↓c__law_pen.eq_1, ↓c__law_pen.eq_2, ↓c__law_draw.eq_1, ↓c__law_draw.eq_2, ↓c__law_pick.eq_1, ↓c__law_pick.eq_2, ↓c__law_frac.eq_1, ↓c__law_frac.eq_2, ↓c__law_number.eq_1, ↓c__law_number.eq_2, ↓c__law_kind.eq_1, ↓c__law_kind.eq_2, ↓c_is_integer.eq_1, ↓c_is_integer.eq_2, ↓c_divisor.eq_1, ↓c_divisor.eq_2, ↓c_new_Ratio.eq_1, ↓c_new_Ratio.eq_2, ↓c_new_Ratio.eq_3, ↓c_new_Ratio.eq_4, ↓c_is_number.eq_1, ↓c_is_number.eq_2, ↓c_Ratio_of.eq_1, ↓c_Ratio_of.eq_2, ↓c_Ratio___lt__.eq_1, ↓c_Ratio___lt__.eq_2, ↓c_Ratio___ge__.eq_1, ↓c_Ratio___ge__.eq_2, ↓c_Ratio___gt__.eq_1, ↓c_Ratio___gt__.eq_2, ↓c_Ratio___le__.eq_1, ↓c_Ratio___le__.eq_2, ↓c_is_same.eq_1, ↓c_is_same.eq_2, ↓c_Ratio___eq__.eq_1, ↓c_Ratio___eq__.eq_2, ↓c_Ratio___bool__.eq_1, ↓c_Ratio___bool__.eq_2, ↓c_new_Rounding.eq_1, ↓c_new_Rounding.eq_2, ↓c__law_rounding.eq_1, ↓c__law_rounding.eq_2, ↓c_Ratio___add__.eq_1, ↓c_Ratio___add__.eq_2, ↓c_need_number.eq_1, ↓c_need_number.eq_2, ↓c_Rounding_stepped.eq_1, ↓c_Rounding_stepped.eq_2, ↓c_Rounding___call__.eq_1, ↓c_Rounding___call__.eq_2, ↓c_Ratio___neg__.eq_1, ↓c_Ratio___neg__.eq_2, ↓c_Ratio___sub__.eq_1, ↓c_Ratio___sub__.eq_2, ↓c_Ratio_divided.eq_1, ↓c_Ratio_divided.eq_2, ↓c_Ratio_floor.eq_1, ↓c_Ratio_floor.eq_2, ↓c_Ratio___floordiv__.eq_1, ↓c_Ratio___floordiv__.eq_2, ↓c_Ratio___mul__.eq_1, ↓c_Ratio___mul__.eq_2, ↓c_Ratio___mod__.eq_1, ↓c_Ratio___mod__.eq_2, ↓c_Rounding_is_step.eq_1, ↓c_Rounding_is_step.eq_2, ↓c_Rounding_behind.eq_1, ↓c_Rounding_behind.eq_2, ↓c_Rounding_before.eq_1, ↓c_Rounding_before.eq_2, ↓c_Rounding_places.eq_1, ↓c_Rounding_places.eq_2, ↓c__law_right.eq_1, ↓c__law_right.eq_2, ↓c_law.eq_1, ↓c_law.eq_2, $ts,*])
section
variable {P : Program} {w : World} {K : PySem.W.Frag} {mg : Str → Option Value} {base : Heap}
/-! Ratio.__eq__ -/
def b_Ratio___eq__ (K : PySem.W.Frag) : FS :=
    (sRet (mAndV (mCall (c_is_number K) [] (mCons (mVar 1) mNil)) (mCall (c_is_same K) [] (mCons (mVar 0) (mCons (mCall (c_Ratio_of K) [] (mCons (mVar 1) mNil)) mNil)))))
def m_Ratio___eq__ (K : PySem.W.Frag) : FM := bodyM 2 2 (b_Ratio___eq__ K)
theorem cl_Ratio___eq__ (Z : Zf P w K mg) {ds : List D} {μ : MS} {Q : D → MS → Prop} {X : MX} (h : c_Ratio___eq__ K ds μ Q X) : m_Ratio___eq__ K ds μ Q X := by
  unfold c_Ratio___eq__ at h
  split at h
  · rename_i d1 d2
    split at h
    · rename_i x y e1 e2
      cases asR_of e1
      unfold m_Ratio___eq__ b_Ratio___eq__
      rcases toQ_of e2 with ⟨i, rfl, rfl⟩ | rfl
      · simp_arith []; exact h
      · simp_arith []; exact h
    · rename_i x e1 e2
      cases asR_of e1
      unfold m_Ratio___eq__ b_Ratio___eq__
      simp_arith [e2, h.1.1, h.1.2]
      exact h.2
    · exact h.elim
  · exact h.elim
theorem fo_Ratio___eq__ {fd : FuncData} (M : MT mg K) (Z : Zf P w K mg) (D_Ratio_of : DnM P w K mg base (Tt K) 4 (a_Ratio_of K) ["value"] [] (c_Ratio_of K)) (D_is_number : DnM P w K mg base (Tt K) 2 (a_is_number K) ["value"] [] (c_is_number K)) (D_is_same : DnM P w K mg base (Tt K) 1 (a_is_same K) ["one", "other"] [] (c_is_same K)) (F : FnP K d_Ratio___eq__ fd) :
    FnOk P w K mg base (L2.CX P w) 5 (a_Ratio___eq__ K) fd ["self", "other"] (spF K (Tt K) (c_Ratio___eq__ K)) :=
  FnOk.impM (fnM (b := b_Ratio___eq__ K) F sc_Ratio___eq__ (fun cdv A outer s H E hr =>
    (pssm_one (psm_ret (pm_and (pm_call (dv := []) (dd := []) D_is_number 0 (hr.mono (by decide)) rfl M.g_is_number passX (pam_cons (pmv 1) pam_nil) (fun _ => .nil)) (pm_one (pm_call (dv := []) (dd := []) D_is_same 0 (hr.mono (by decide)) rfl M.g_is_same passX (pam_cons (pmv 0) (pam_cons (pm_smeth (c := "Ratio") (dv := []) (dd := []) (pe_glob (v := .ref (ca K "Ratio")) rfl M.g_Ratio rfl) Z.cr_Ratio Z.sm_Ratio_of D_Ratio_of 0 (hr.mono (by decide)) passX (pam_cons (pmv 1) pam_nil) (fun _ => .nil)) pam_nil)) (fun _ => .nil)))))))) (fun ds μ Q X h => cl_Ratio___eq__ Z h)
theorem ok_Ratio___eq__ {fd : FuncData} (M : MT mg K) (Z : Zf P w K mg) (D_Ratio_of : DnM P w K mg base (Tt K) 4 (a_Ratio_of K) ["value"] [] (c_Ratio_of K)) (D_is_number : DnM P w K mg base (Tt K) 2 (a_is_number K) ["value"] [] (c_is_number K)) (D_is_same : DnM P w K mg base (Tt K) 1 (a_is_same K) ["one", "other"] [] (c_is_same K)) (F : FnP K d_Ratio___eq__ fd) :
    DnM P w K mg base (Tt K) 5 (a_Ratio___eq__ K) ["self", "other"] [] (c_Ratio___eq__ K) :=
  dn_mk F rfl (fun _ _ _ _ _ _ us hl => match us, hl with | [_, _], _ => rfl) (fo_Ratio___eq__ M Z D_Ratio_of D_is_number D_is_same F)
/-! Ratio.__bool__ -/
def b_Ratio___bool__ (K : PySem.W.Frag) : FS :=
    (sRet (mCall mBool1 [] (mCons (mFld K (mVar 0) "over") mNil)))
def m_Ratio___bool__ (K : PySem.W.Frag) : FM := bodyM 1 1 (b_Ratio___bool__ K)
theorem cl_Ratio___bool__ (Z : Zf P w K mg) {ds : List D} {μ : MS} {Q : D → MS → Prop} {X : MX} (h : c_Ratio___bool__ K ds μ Q X) : m_Ratio___bool__ K ds μ Q X := by
  unfold c_Ratio___bool__ at h
  split at h
  · rename_i d1
    split at h
    · rename_i x e1
      cases asR_of e1
      unfold m_Ratio___bool__ b_Ratio___bool__
      simp_arith []
      rw [show decide (x = 0) = decide (x.num = 0) from decide_eq_decide.mpr Rat.num_eq_zero.symm] at h
      exact h
    · exact h.elim
  · exact h.elim
theorem fo_Ratio___bool__ {fd : FuncData} (M : MT mg K) (Z : Zf P w K mg) (F : FnP K d_Ratio___bool__ fd) :
    FnOk P w K mg base (L2.CX P w) 1 (a_Ratio___bool__ K) fd ["self"] (spF K (Tt K) (c_Ratio___bool__ K)) :=
  FnOk.impM (fnM (b := b_Ratio___bool__ K) F sc_Ratio___bool__ (fun cdv A outer s H E hr =>
    (pssm_one (psm_ret (pm_callTy f_bool (by rfl) M.f_bool (by decide +kernel) (pam_cons (pm_fld (pmv 0) (by rfl)) pam_nil)))))) (fun ds μ Q X h => cl_Ratio___bool__ Z h)
theorem ok_Ratio___bool__ {fd : FuncData} (M : MT mg K) (Z : Zf P w K mg) (F : FnP K d_Ratio___bool__ fd) :
    DnM P w K mg base (Tt K) 1 (a_Ratio___bool__ K) ["self"] [] (c_Ratio___bool__ K) :=
  dn_mk F rfl (fun _ _ _ _ _ _ us hl => match us, hl with | [_], _ => rfl) (fo_Ratio___bool__ M Z  F)
/-! Rounding.__init__ -/
def b_Rounding___init__ (K : PySem.W.Frag) : FS :=
    (sSeq (sIf (mOr (mNot (mTr mTru (mCall (c_is_number K) [] (mCons (mVar 1) mNil)))) (mNot (mTest (mChain (mAlt (mOwnR "Ratio" (c_Ratio___ge__ K)) mLe) (mAlt (mCmpO "Ratio" ["Words", "Rounding"] (c_Ratio___le__ K)) mLe) (mC (.int 0)) (mVar 1) (mC (.int 1))))))
      (sRaise "BadRounding" ["part"] (mCons (mC (.str "threshold")) mNil))
      sNext)
    (sSeq (sIf (mNot (mTr mTru (mCall (mIsi K) [] (mCons (mVar 2) (mCons (mC (.ty "bool")) mNil)))))
      (sRaise "BadRounding" ["part"] (mCons (mC (.str "kind")) mNil))
      sNext)
    (sSeq (sIf (mTest (mOp (mAlt (mCmpO "Ratio" ["Words", "Rounding"] (c_Ratio___eq__ K)) mEqD) (mVar 1) (mIf (mTr (tAlt (mTruO "Ratio" (c_Ratio___bool__ K)) mTru) (mVar 2)) (mC (.int 0)) (mC (.int 1)))))
      (sRaise "BadRounding" ["part"] (mCons (mC (.str "threshold")) mNil))
      sNext)
    (sSeq (sFldM K (mVar 0) (mCall (c_Ratio_of K) [] (mCons (mVar 1) mNil)) "threshold")
    (sFldM K (mVar 0) (mVar 2) "is_from")))))
def m_Rounding___init__ (K : PySem.W.Frag) : FM := bodyM 3 3 (b_Rounding___init__ K)
abbrev c_Rounding___init__ (K : PySem.W.Frag) : FM := m_Rounding___init__ K
theorem cl_Rounding___init__ (_ : Zf P w K mg) {ds : List D} {μ : MS} {Q : D → MS → Prop} {X : MX} (h : c_Rounding___init__ K ds μ Q X) : m_Rounding___init__ K ds μ Q X := h
theorem fo_Rounding___init__ {fd : FuncData} (M : MT mg K) (Z : Zf P w K mg) (D_Ratio___bool__ : DnM P w K mg base (Tt K) 1 (a_Ratio___bool__ K) ["self"] [] (c_Ratio___bool__ K)) (D_Ratio___eq__ : DnM P w K mg base (Tt K) 5 (a_Ratio___eq__ K) ["self", "other"] [] (c_Ratio___eq__ K)) (D_Ratio___ge__ : DnM P w K mg base (Tt K) 6 (a_Ratio___ge__ K) ["self", "other"] [] (c_Ratio___ge__ K)) (D_Ratio___le__ : DnM P w K mg base (Tt K) 6 (a_Ratio___le__ K) ["self", "other"] [] (c_Ratio___le__ K)) (D_Ratio_of : DnM P w K mg base (Tt K) 4 (a_Ratio_of K) ["value"] [] (c_Ratio_of K)) (D_is_number : DnM P w K mg base (Tt K) 2 (a_is_number K) ["value"] [] (c_is_number K)) (F : FnP K d_Rounding___init__ fd) :
    FnOk P w K mg base (L2.CX P w) 7 (a_Rounding___init__ K) fd ["self", "threshold", "is_from"] (spF K (Tt K) (c_Rounding___init__ K)) :=
  FnOk.impM (fnM (b := b_Rounding___init__ K) F sc_Rounding___init__ (fun cdv A outer s H E hr =>
    (pssm_cons (psm_if (PWM.pt (pwm_or (ptm_not (ptm_tru tm_tru (pm_call (dv := []) (dd := []) D_is_number 0 (hr.mono (by decide)) rfl M.g_is_number passX (pam_cons (pmv 1) pam_nil) (fun _ => .nil)) (by intro _; rfl))) (pwm_or1 (ptm_not (ptm_chain (OpM.alt (le_ownR D_Ratio___ge__ (hr.mono (by decide)) passX Z.noInt_Ratio Z.cm_Ratio___ge__) o_le) (OpM.alt (le_own Z.nof_Ratio D_Ratio___le__ (hr.mono (by decide)) passX Z.cm_Ratio___le__) o_le) pm_int (pmv 1) pm_int)))))
      (pssm_one (psm_raise (c := "BadRounding") (names := ["part"]) (by rfl) takeX Z.err_BadRounding hr rfl M.g_BadRounding (pam_cons pm_str pam_nil)))
      pssm_nil)
    (pssm_cons (psm_if (ptm_not (ptm_tru tm_tru (pm_callB c_isi (by rfl) M.f_isinstance (by decide +kernel) (pam_cons (pmv 2) (pam_cons (pm_bltn (by rfl) M.f_bool (by decide +kernel)) pam_nil))) (by intro _; rfl)))
      (pssm_one (psm_raise (c := "BadRounding") (names := ["part"]) (by rfl) takeX Z.err_BadRounding hr rfl M.g_BadRounding (pam_cons pm_str pam_nil)))
      pssm_nil)
    (pssm_cons (psm_if (ptm_cmp (OpM.alt (eq_own Z.nof_Ratio D_Ratio___eq__ (hr.mono (by decide)) passX Z.cm_Ratio___eq__) (o_eqD hr.units)) (pmv 1) (pm_ifExp (ptm_tru (TruM.alt (tru_ownM Z.cm_Ratio___bool__ D_Ratio___bool__ (hr.mono (by decide)) passX) tm_tru) (pmv 2) (by intro _; rfl)) pm_int pm_int) (nomark _))
      (pssm_one (psm_raise (c := "BadRounding") (names := ["part"]) (by rfl) takeX Z.err_BadRounding hr rfl M.g_BadRounding (pam_cons pm_str pam_nil)))
      pssm_nil)
    (pssm_cons (psm_fld (pmv 0) (pm_smeth (c := "Ratio") (dv := []) (dd := []) (pe_glob (v := .ref (ca K "Ratio")) rfl M.g_Ratio rfl) Z.cr_Ratio Z.sm_Ratio_of D_Ratio_of 0 (hr.mono (by decide)) passX (pam_cons (pmv 1) pam_nil) (fun _ => .nil)) (by rfl))
    (pssm_one (psm_fld (pmv 0) (pmv 2) (by rfl))))))))) (fun ds μ Q X h => cl_Rounding___init__ Z h)
theorem ok_Rounding___init__ {fd : FuncData} (M : MT mg K) (Z : Zf P w K mg) (D_Ratio___bool__ : DnM P w K mg base (Tt K) 1 (a_Ratio___bool__ K) ["self"] [] (c_Ratio___bool__ K)) (D_Ratio___eq__ : DnM P w K mg base (Tt K) 5 (a_Ratio___eq__ K) ["self", "other"] [] (c_Ratio___eq__ K)) (D_Ratio___ge__ : DnM P w K mg base (Tt K) 6 (a_Ratio___ge__ K) ["self", "other"] [] (c_Ratio___ge__ K)) (D_Ratio___le__ : DnM P w K mg base (Tt K) 6 (a_Ratio___le__ K) ["self", "other"] [] (c_Ratio___le__ K)) (D_Ratio_of : DnM P w K mg base (Tt K) 4 (a_Ratio_of K) ["value"] [] (c_Ratio_of K)) (D_is_number : DnM P w K mg base (Tt K) 2 (a_is_number K) ["value"] [] (c_is_number K)) (F : FnP K d_Rounding___init__ fd) :
    DnM P w K mg base (Tt K) 7 (a_Rounding___init__ K) ["self", "threshold", "is_from"] [.bl true] (c_Rounding___init__ K) :=
  dn_mk1 (v := .bl true) (n := 2) F rfl rfl (fun _ _ _ _ _ _ _ us its hl hi => match us, its, hl, hi with | [_, _], [_], _, _ => ⟨_, rfl, rfl⟩) (fun _ _ _ _ _ _ _ us its hl hi => match us, its, hl, hi with | [_, _, _], [_], _, _ => ⟨_, rfl, rfl⟩) (fo_Rounding___init__ M Z D_Ratio___bool__ D_Ratio___eq__ D_Ratio___ge__ D_Ratio___le__ D_Ratio_of D_is_number F)
theorem new_Rounding (Z : Zf P w K mg) : ∀ ds μ Q Xm, c_new_Rounding K ds μ Q Xm → mkM "Rounding" (c_Rounding___init__ K) [] ds μ Q Xm ∨ mkMM "Rounding" (c_Rounding___init__ K) [] ds μ Q Xm := by
  intro ds μ Q X h
  refine .inl fun a ha => ?_
  unfold c_Rounding___init__ m_Rounding___init__ b_Rounding___init__
  unfold c_new_Rounding at h
  split at h
  · rename_i d b
    split at h
    · rename_i q e
      obtain ⟨⟨h0, h1, hb, hs⟩, h⟩ := h
      have hs : Sz 3900 q := hs.up (by decide)
      have s0 : Sz 3900 ((0 : Int) : Rat) := sz0
      have s1 : Sz 3900 ((1 : Int) : Rat) := Sz.int (by decide +kernel)
      have n1 : Int.natAbs 1 < 2 ^ 8000 := by decide
      rcases toQ_of e with ⟨i, rfl, rfl⟩ | rfl
      · have i0 : (0 : Int) ≤ i := castI_le.mp h0
        have i1 : i ≤ 1 := castI_le.mp h1
        have fi : ∀ j : Int, ((i : Rat) = (j : Rat)) = (i = j) := fun j => propext castI_inj
        cases b with
        | true =>
          have c : i ≠ 0 := fun z => by simp only [if_true] at hb; exact hb (by rw [z]; rfl)
          simp_arith [i0, i1, c, hs, n1, del_put ha]
          exact ⟨_, rfl, h⟩
        | false =>
          have c : i ≠ 1 := fun z => by simp only [Bool.false_eq_true, if_false] at hb; exact hb (by rw [z]; rfl)
          simp_arith [i0, i1, c, hs, n1, del_put ha]
          exact ⟨_, rfl, h⟩
      · have q0 : ((0 : Int) : Rat) ≤ q := h0
        have q1 : q ≤ ((1 : Int) : Rat) := h1
        cases b with
        | true =>
          have c : (q = ((0 : Int) : Rat)) = False := eq_false (by simpa using hb)
          simp_arith [hs, s0, s1, q0, q1, c, n1, del_put ha]
          exact ⟨_, rfl, h⟩
        | false =>
          have c : (q = ((1 : Int) : Rat)) = False := eq_false (by simpa using hb)
          simp_arith [hs, s0, s1, q0, q1, c, n1, del_put ha]
          exact ⟨_, rfl, h⟩
    · exact h.elim
  · exact h.elim
/-! _law_rounding -/
def b__law_rounding (K : PySem.W.Frag) : FS :=
    (sRet (mCall (c_new_Rounding K) [] (mCons (mCall (c_new_Ratio K) [] (mCons (mOp mIx (mVar 0) (mC (.int 0))) (mCons (mOp mIx (mVar 0) (mC (.int 1))) mNil))) (mCons (mOp mIx (mVar 0) (mC (.int 2))) mNil))))
def m__law_rounding (K : PySem.W.Frag) : FM := bodyM 1 1 (b__law_rounding K)
theorem cl__law_rounding (Z : Zf P w K mg) {ds : List D} {μ : MS} {Q : D → MS → Prop} {X : MX} (h : c__law_rounding K ds μ Q X) : m__law_rounding K ds μ Q X := by
  unfold c__law_rounding at h
  split at h
  · rename_i p q b
    obtain ⟨p0, p1, q0, q5, hb, k⟩ := h
    have qn : q ≠ 0 := by omega
    have up : q.natAbs < 2 ^ 8000 := Nat.lt_of_lt_of_le (show q.natAbs < 2 ^ 3 by omega) (Nat.pow_le_pow_right (by decide) (by decide))
    unfold m__law_rounding b__law_rounding
    simp_arith [atI_0, atI_1, atI_2, qn, up]
    have r := kind_ok p0 p1 q0 q5 hb
    exact ⟨r, k r⟩
  · exact h.elim
theorem fo__law_rounding {fd : FuncData} (M : MT mg K) (Z : Zf P w K mg) (D_Ratio___init__ : DnM P w K mg base (Tt K) 2 (a_Ratio___init__ K) ["self", "over", "under"] [.int 1] (c_Ratio___init__ K)) (D_Rounding___init__ : DnM P w K mg base (Tt K) 7 (a_Rounding___init__ K) ["self", "threshold", "is_from"] [.bl true] (c_Rounding___init__ K)) (F : FnP K d__law_rounding fd) :
    FnOk P w K mg base (L2.CX P w) 9 (a__law_rounding K) fd ["_law_kind_here"] (spF K (Tt K) (c__law_rounding K)) :=
  FnOk.impM (fnM (b := b__law_rounding K) F sc__law_rounding (fun cdv A outer s H E hr =>
    (pssm_one (psm_ret (pm_make (c := "Rounding") (gM := c_new_Rounding K) (dv := []) (dd := []) ⟨Z.mkr_Rounding, D_Rounding___init__⟩ 1 (hr.mono (by decide)) rfl M.g_Rounding passX (new_Rounding Z) (pam_cons (pm_make (c := "Ratio") (gM := c_new_Ratio K) (dv := []) (dd := []) ⟨Z.mkr_Ratio, D_Ratio___init__⟩ 1 (hr.mono (by decide)) rfl M.g_Ratio passX (new_Ratio Z) (pam_cons (pm_ix i_seq (pmv 0) pm_int (fun _ _ => rfl)) (pam_cons (pm_ix i_seq (pmv 0) pm_int (fun _ _ => rfl)) pam_nil)) (fun _ => .nil)) (pam_cons (pm_ix i_seq (pmv 0) pm_int (fun _ _ => rfl)) pam_nil)) (fun _ => .nil)))))) (fun ds μ Q X h => cl__law_rounding Z h)
theorem ok__law_rounding {fd : FuncData} (M : MT mg K) (Z : Zf P w K mg) (D_Ratio___init__ : DnM P w K mg base (Tt K) 2 (a_Ratio___init__ K) ["self", "over", "under"] [.int 1] (c_Ratio___init__ K)) (D_Rounding___init__ : DnM P w K mg base (Tt K) 7 (a_Rounding___init__ K) ["self", "threshold", "is_from"] [.bl true] (c_Rounding___init__ K)) (F : FnP K d__law_rounding fd) :
    DnM P w K mg base (Tt K) 9 (a__law_rounding K) ["_law_kind_here"] [] (c__law_rounding K) :=
  dn_mk F rfl (fun _ _ _ _ _ _ us hl => match us, hl with | [_], _ => rfl) (fo__law_rounding M Z D_Ratio___init__ D_Rounding___init__ F)
end
end Mz

namespace Mz
open PySem PySem.Spec PyProof.Rows L2 AzX ClX LamX Hz He Az
local macro_rules | `(tactic| walk_at "ev") => `(tactic| simp (config := {decide := false}) only [↓mEqW.eq_1, ↓mNeW.eq_1, ↓mFmtO.eq_1, ↓mCallP.eq_1, ↓mMethP.eq_1, ↓mCMethP.eq_1, ↓mCallO.eq_1, ↓mMakeP.eq_1, ↓bArgs.eq_1, ↓selA.eq_1, ↓selA.eq_2, ↓selA.eq_3, ↓selA.eq_4, ↓mSorted.eq_1, Option.getD_some, Option.getD_none, ↓mLc.eq_1, ↓goLc.eq_1, ↓goLc.eq_2, ↓wipeM.eq_1, ↓wipeM.eq_2, ↓bodyM.eq_1, ↓mVar.eq_1, ↓mC.eq_1, ↓mOp.eq_1, ↓mTest.eq_1, ↓mChain.eq_1, ↓mUn.eq_1, ↓mTru.eq_1, ↓dTru.eq_1, ↓dTru.eq_2, ↓dTru.eq_3, ↓dTru.eq_4, ↓dTru.eq_5, ↓dTru.eq_6, ↓dTru.eq_7, ↓dTru.eq_8, ↓dTru.eq_9, ↓dTru.eq_10, ↓mTr.eq_1, ↓mAnd.eq_1, ↓mOr.eq_1, ↓mNot.eq_1, ↓mAndV.eq_1, ↓mOrV.eq_1, ↓mNotV.eq_1, ↓mIf.eq_1, ↓mNil.eq_1, ↓mCons.eq_1, ↓mTup.eq_1, ↓mLst.eq_1, ↓mLstM.eq_1, ↓mAlt.eq_1, ↓uAlt.eq_1, ↓tAlt.eq_1, ↓fAlt.eq_1, ↓eAlt.eq_1, ↓lAlt.eq_1, ↓bAlt.eq_1, ↓gmName.eq_1, ↓gmNil.eq_1, ↓gmNil.eq_2, ↓gmCons.eq_1, ↓gmCons.eq_2, ↓gmTup.eq_1, ↓gmTup.eq_2, ↓gmSub.eq_1, ↓mSetL.eq_1, ↓mSetL.eq_2, ↓sNext.eq_1, ↓sSeq.eq_1, ↓sBreak.eq_1, ↓sCont.eq_1, ↓sExpr.eq_1, ↓sRet.eq_1, ↓sRetN.eq_1, ↓sIf.eq_1, ↓sSet.eq_1, ↓sAsg.eq_1, ↓sPar.eq_1, ↓sPar3.eq_1, ↓sAug.eq_1, ↓sFldM.eq_1, ↓sFldAugM.eq_1, ↓sFor.eq_1, ↓iLs.eq_1, ↓iTupM.eq_1, ↓iRange1.eq_1, ↓mCall.eq_1, ↓isC.eq_1, ↓isC.eq_2, ↓isC.eq_3, ↓mMeth.eq_1, ↓insC.eq_1, ↓insC.eq_2, ↓insC.eq_3, ↓mProp.eq_1, ↓mFld.eq_1, ↓mOwn.eq_1, ↓mOwn.eq_2, ↓mOwnR.eq_1, ↓mOwnR.eq_2, ↓mCmpO.eq_1, ↓mCmpO.eq_2, ↓kNotM.eq_1, ↓kNotM.eq_2, ↓mNeO.eq_1, ↓mNeO.eq_2, ↓mNeR.eq_1, ↓mNeR.eq_2, ↓mOwnU.eq_1, ↓mOwnU.eq_2, ↓kBlM.eq_1, ↓kBlM.eq_2, ↓mTruO.eq_1, ↓mTruO.eq_2, ↓mBoolO.eq_1, ↓mBoolO.eq_2, ↓kStrM.eq_1, ↓kStrM.eq_2, ↓mStrO.eq_1, ↓mStrO.eq_2, ↓mII.eq_1, ↓mII.eq_2, ↓mII0.eq_1, ↓mII0.eq_2, ↓mNeg.eq_1, ↓mNeg.eq_2, ↓mAddS.eq_1, ↓mAddS.eq_2, ↓noneD.eq_1, ↓noneD.eq_2, ↓mIsN.eq_1, ↓mIsN.eq_2, ↓mNotN.eq_1, ↓mNotN.eq_2, ↓mIsB.eq_1, ↓mIsB.eq_2, ↓mInt.eq_1, ↓mInt.eq_2, ↓mInt.eq_3, ↓mIntS.eq_1, ↓mIntS.eq_2, ↓mAbs.eq_1, ↓mAbs.eq_2, ↓mLen.eq_1, ↓mLen.eq_2, ↓mLen.eq_3, ↓mListF.eq_1, ↓mListF.eq_2, ↓mListM.eq_1, ↓mListM.eq_2, ↓mTupF.eq_1, ↓mTupF.eq_2, ↓mTupF.eq_3, ↓mBool1.eq_1, ↓mBool1.eq_2, ↓mBool1.eq_3, ↓mStrI.eq_1, ↓mStrI.eq_2, ↓mIx.eq_1, ↓mIx.eq_2, ↓mIxS.eq_1, ↓mIxS.eq_2, ↓mSl.eq_1, ↓mSlL.eq_1, ↓mSlS.eq_1, ↓mSlS.eq_2, ↓oNone.eq_1, ↓oSome.eq_1, ↓seqD.eq_1, ↓seqD.eq_2, ↓seqD.eq_3, ↓seqD.eq_4, ↓seqD.eq_5, ↓lsD.eq_1, ↓lsD.eq_2, ↓lsD.eq_3, ↓lsD.eq_4, ↓mdD.eq_1, ↓mdD.eq_2, ↓mdD.eq_3, ↓mCatL.eq_1, ↓mRepL.eq_1, ↓mRepL.eq_2, ↓isT.eq_1, ↓isT.eq_2, ↓isT.eq_3, ↓isT.eq_4, ↓isT.eq_5, ↓isT.eq_6, ↓mBM.eq_1, ↓bAppend.eq_1, ↓bAppend.eq_2, ↓bSplit.eq_1, ↓bSplit.eq_2, ↓bStarts.eq_1, ↓bStarts.eq_2, ↓bJoin.eq_1, ↓bJoin.eq_2, ↓mFmt.eq_1, ↓sRaise.eq_1, ↓mXat.eq_1, ↓mDict0.eq_1, ↓mNotT.eq_1, ↓mIsi.eq_1, ↓mIsi.eq_2, ↓mIsi.eq_3, ↓tyI.eq_1, ↓tyI.eq_2, ↓tyD.eq_1, ↓tyD.eq_2, ↓tyD.eq_3, ↓tyD.eq_4, ↓tyD.eq_5, ↓tyD.eq_6, ↓tyD.eq_7, ↓tyD.eq_8, ↓tyD.eq_9, ↓tyD.eq_10, ↓tyD.eq_11, ↓clsD.eq_1, ↓clsD.eq_2, ↓clsD.eq_3, ↓clsDs.eq_1, ↓clsDs.eq_2, ↓needT.eq_1, ↓needT.eq_2, ↓needT.eq_3, ↓needT.eq_4, ↓mHeard.eq_1, ↓mAsk.eq_1, ↓sTry.eq_1, ↓sFrz.eq_1, List.getElem?_cons_zero, List.getElem?_cons_succ, List.getElem?_nil, List.set_cons_zero, List.set_cons_succ, List.set_nil, List.length_cons, List.length_nil, List.map_cons, List.map_nil, List.cons_append, List.nil_append, List.append_nil, List.replicate_zero, List.replicate_succ, List.zip_cons_cons, List.zip_nil_left, List.zip_nil_right, Nat.reduceAdd, Nat.reduceSub, Nat.reduceEqDiff, Nat.reduceLT, Nat.reduceLeDiff, Nat.zero_add, Nat.add_zero, Bool.not_true, Bool.not_false, Bool.not_not, true_and, and_true, false_and, and_false, true_or, or_true, false_or, or_false, if_true, if_false, ite_true, ite_false, Bool.false_eq_true, reduceIte, reduceCtorEq, eq_self_iff_true, and_self, or_self, put_same, del_same, decide_true, decide_false, String.reduceEq, List.mem_cons, List.not_mem_nil, Int.reduceNeg, Int.reduceEq, Int.reduceLT, ne_eq, not_true_eq_false, not_false_eq_true])
set_option hygiene false in
local macro_rules | `(tactic| walk_at "evz") => `(tactic| simp (config := {decide := false}) only [↓mEqW.eq_1, ↓mNeW.eq_1, ↓mFmtO.eq_1, ↓mCallP.eq_1, ↓mMethP.eq_1, ↓mCMethP.eq_1, ↓mCallO.eq_1, ↓mMakeP.eq_1, ↓bArgs.eq_1, ↓selA.eq_1, ↓selA.eq_2, ↓selA.eq_3, ↓selA.eq_4, ↓mSorted.eq_1, Option.getD_some, Option.getD_none, ↓mLc.eq_1, ↓goLc.eq_1, ↓goLc.eq_2, ↓wipeM.eq_1, ↓wipeM.eq_2, ↓bodyM.eq_1, ↓mVar.eq_1, ↓mC.eq_1, ↓mOp.eq_1, ↓mTest.eq_1, ↓mChain.eq_1, ↓mUn.eq_1, ↓mTru.eq_1, ↓dTru.eq_1, ↓dTru.eq_2, ↓dTru.eq_3, ↓dTru.eq_4, ↓dTru.eq_5, ↓dTru.eq_6, ↓dTru.eq_7, ↓dTru.eq_8, ↓dTru.eq_9, ↓dTru.eq_10, ↓mTr.eq_1, ↓mAnd.eq_1, ↓mOr.eq_1, ↓mNot.eq_1, ↓mAndV.eq_1, ↓mOrV.eq_1, ↓mNotV.eq_1, ↓mIf.eq_1, ↓mNil.eq_1, ↓mCons.eq_1, ↓mTup.eq_1, ↓mLst.eq_1, ↓mLstM.eq_1, ↓mAlt.eq_1, ↓uAlt.eq_1, ↓tAlt.eq_1, ↓fAlt.eq_1, ↓eAlt.eq_1, ↓lAlt.eq_1, ↓bAlt.eq_1, ↓gmName.eq_1, ↓gmNil.eq_1, ↓gmNil.eq_2, ↓gmCons.eq_1, ↓gmCons.eq_2, ↓gmTup.eq_1, ↓gmTup.eq_2, ↓gmSub.eq_1, ↓mSetL.eq_1, ↓mSetL.eq_2, ↓sNext.eq_1, ↓sSeq.eq_1, ↓sBreak.eq_1, ↓sCont.eq_1, ↓sExpr.eq_1, ↓sRet.eq_1, ↓sRetN.eq_1, ↓sIf.eq_1, ↓sSet.eq_1, ↓sAsg.eq_1, ↓sPar.eq_1, ↓sPar3.eq_1, ↓sAug.eq_1, ↓sFldM.eq_1, ↓sFldAugM.eq_1, ↓sFor.eq_1, ↓iLs.eq_1, ↓iTupM.eq_1, ↓iRange1.eq_1, ↓mCall.eq_1, ↓isC.eq_1, ↓isC.eq_2, ↓isC.eq_3, ↓mMeth.eq_1, ↓insC.eq_1, ↓insC.eq_2, ↓insC.eq_3, ↓mProp.eq_1, ↓mFld.eq_1, ↓mOwn.eq_1, ↓mOwn.eq_2, ↓mOwnR.eq_1, ↓mOwnR.eq_2, ↓mCmpO.eq_1, ↓mCmpO.eq_2, ↓kNotM.eq_1, ↓kNotM.eq_2, ↓mNeO.eq_1, ↓mNeO.eq_2, ↓mNeR.eq_1, ↓mNeR.eq_2, ↓mOwnU.eq_1, ↓mOwnU.eq_2, ↓kBlM.eq_1, ↓kBlM.eq_2, ↓mTruO.eq_1, ↓mTruO.eq_2, ↓mBoolO.eq_1, ↓mBoolO.eq_2, ↓kStrM.eq_1, ↓kStrM.eq_2, ↓mStrO.eq_1, ↓mStrO.eq_2, ↓mII.eq_1, ↓mII.eq_2, ↓mII0.eq_1, ↓mII0.eq_2, ↓mNeg.eq_1, ↓mNeg.eq_2, ↓mAddS.eq_1, ↓mAddS.eq_2, ↓noneD.eq_1, ↓noneD.eq_2, ↓mIsN.eq_1, ↓mIsN.eq_2, ↓mNotN.eq_1, ↓mNotN.eq_2, ↓mIsB.eq_1, ↓mIsB.eq_2, ↓mInt.eq_1, ↓mInt.eq_2, ↓mInt.eq_3, ↓mIntS.eq_1, ↓mIntS.eq_2, ↓mAbs.eq_1, ↓mAbs.eq_2, ↓mLen.eq_1, ↓mLen.eq_2, ↓mLen.eq_3, ↓mListF.eq_1, ↓mListF.eq_2, ↓mListM.eq_1, ↓mListM.eq_2, ↓mTupF.eq_1, ↓mTupF.eq_2, ↓mTupF.eq_3, ↓mBool1.eq_1, ↓mBool1.eq_2, ↓mBool1.eq_3, ↓mStrI.eq_1, ↓mStrI.eq_2, ↓mIx.eq_1, ↓mIx.eq_2, ↓mIxS.eq_1, ↓mIxS.eq_2, ↓mSl.eq_1, ↓mSlL.eq_1, ↓mSlS.eq_1, ↓mSlS.eq_2, ↓oNone.eq_1, ↓oSome.eq_1, ↓seqD.eq_1, ↓seqD.eq_2, ↓seqD.eq_3, ↓seqD.eq_4, ↓seqD.eq_5, ↓lsD.eq_1, ↓lsD.eq_2, ↓lsD.eq_3, ↓lsD.eq_4, ↓mdD.eq_1, ↓mdD.eq_2, ↓mdD.eq_3, ↓mCatL.eq_1, ↓mRepL.eq_1, ↓mRepL.eq_2, ↓isT.eq_1, ↓isT.eq_2, ↓isT.eq_3, ↓isT.eq_4, ↓isT.eq_5, ↓isT.eq_6, ↓mBM.eq_1, ↓bAppend.eq_1, ↓bAppend.eq_2, ↓bSplit.eq_1, ↓bSplit.eq_2, ↓bStarts.eq_1, ↓bStarts.eq_2, ↓bJoin.eq_1, ↓bJoin.eq_2, ↓mFmt.eq_1, ↓sRaise.eq_1, ↓mXat.eq_1, ↓mDict0.eq_1, ↓mNotT.eq_1, ↓mIsi.eq_1, ↓mIsi.eq_2, ↓mIsi.eq_3, ↓tyI.eq_1, ↓tyI.eq_2, ↓tyD.eq_1, ↓tyD.eq_2, ↓tyD.eq_3, ↓tyD.eq_4, ↓tyD.eq_5, ↓tyD.eq_6, ↓tyD.eq_7, ↓tyD.eq_8, ↓tyD.eq_9, ↓tyD.eq_10, ↓tyD.eq_11, ↓clsD.eq_1, ↓clsD.eq_2, ↓clsD.eq_3, ↓clsDs.eq_1, ↓clsDs.eq_2, ↓needT.eq_1, ↓needT.eq_2, ↓needT.eq_3, ↓needT.eq_4, ↓mHeard.eq_1, ↓mAsk.eq_1, ↓sTry.eq_1, ↓sFrz.eq_1, List.getElem?_cons_zero, List.getElem?_cons_succ, List.getElem?_nil, List.set_cons_zero, List.set_cons_succ, List.set_nil, List.length_cons, List.length_nil, List.map_cons, List.map_nil, List.cons_append, List.nil_append, List.append_nil, List.replicate_zero, List.replicate_succ, List.zip_cons_cons, List.zip_nil_left, List.zip_nil_right, Nat.reduceAdd, Nat.reduceSub, Nat.reduceEqDiff, Nat.reduceLT, Nat.reduceLeDiff, Nat.zero_add, Nat.add_zero, Bool.not_true, Bool.not_false, Bool.not_not, true_and, and_true, false_and, and_false, true_or, or_true, false_or, or_false, if_true, if_false, ite_true, ite_false, Bool.false_eq_true, reduceIte, reduceCtorEq, eq_self_iff_true, and_self, or_self, put_same, del_same, decide_true, decide_false, String.reduceEq, List.mem_cons, List.not_mem_nil, Int.reduceNeg, Int.reduceEq, Int.reduceLT, ne_eq, not_true_eq_false, not_false_eq_true, Z.kit_NoneType_int, Z.kit_bool_int, Z.kit_dict_int, Z.kit_int_int, Z.kit_list_int, Z.kit_str_int, Z.kit_tuple_int, Z.cls_Words, Z.cls_Words.cls, Z.kit_Words_int, Z.cls_Ratio, Z.cls_Ratio.cls, Z.kit_Ratio_int, Z.cls_Rounding, Z.cls_Rounding.cls, Z.kit_Rounding_int, Z.kit_NoneType_bool, Z.kit_bool_bool, Z.kit_dict_bool, Z.kit_int_bool, Z.kit_list_bool, Z.kit_str_bool, Z.kit_tuple_bool, Z.kit_Words_bool, Z.kit_Ratio_bool, Z.kit_Rounding_bool, Z.no_Ratio_over, Z.no_Ratio_under, Z.kit_NoneType_Ratio, Z.kit_bool_Ratio, Z.kit_dict_Ratio, Z.kit_int_Ratio, Z.kit_list_Ratio, Z.kit_str_Ratio, Z.kit_tuple_Ratio, Z.kit_Words_Ratio, Z.kit_Ratio_Ratio, Z.kit_Rounding_Ratio, Z.no_Rounding_threshold, Z.no_Rounding_is_from, lkF_self, asR_rat, toQ_rat, anyD_non, anyD_bl, anyD_int, anyD_str, anyD_tup, anyD_lst, anyD_wls, anyD_dict, isIntD_non, isIntD_bl, isIntD_int, isIntD_str, isIntD_tup, isIntD_lst, isIntD_wls, isIntD_dict, isNumD_non, isNumD_bl, isNumD_int, isNumD_str, isNumD_tup, isNumD_lst, isNumD_wls, isNumD_dict, toQ_non, toQ_bl, toQ_int, toQ_str, toQ_tup, toQ_lst, toQ_wls, toQ_dict, yOk_non, yOk_bl, yOk_int, yOk_str, yOk_tup, yOk_lst, yOk_wls, yOk_dict, cOk_non, cOk_bl, cOk_int, cOk_str, cOk_tup, cOk_lst, cOk_wls, cOk_dict, oddD, yOk_ins, cOk_ins, anyD_ins, isIntD_ins, isNumD_ins, BEq.rfl, mEqD_ii, mNeD_ii, mEqD_insL, mNeD_insL, mEqD_insR, mNeD_insR, asRd_rnd, put_put, Bool.false_or, Bool.or_false, Bool.or_true, Bool.true_or, Bool.and_true, Bool.true_and, Bool.and_false, Bool.false_and, Option.map_some, decide_eq_true_eq, lk_Ratio_over, pt_Ratio_over, lk_Ratio_under, pt_Ratio_under, nf_Ratio_divided, nf_Ratio_floor, lk_Words_all_words, pt_Words_all_words, lk_Words_taken, pt_Words_taken, lk_Rounding_threshold, pt_Rounding_threshold, lk_Rounding_is_from, pt_Rounding_is_from, nf_Rounding_stepped, nf_Rounding_is_step, nf_Rounding_before, nf_Rounding_behind, nf_Rounding_places, ↓c__law_pen.eq_1, ↓c__law_pen.eq_2, ↓c__law_draw.eq_1, ↓c__law_draw.eq_2, ↓c__law_pick.eq_1, ↓c__law_pick.eq_2, ↓c__law_frac.eq_1, ↓c__law_frac.eq_2, ↓c__law_number.eq_1, ↓c__law_number.eq_2, ↓c__law_kind.eq_1, ↓c__law_kind.eq_2, ↓c_is_integer.eq_1, ↓c_is_integer.eq_2, ↓c_divisor.eq_1, ↓c_divisor.eq_2, ↓c_new_Ratio.eq_1, ↓c_new_Ratio.eq_2, ↓c_new_Ratio.eq_3, ↓c_new_Ratio.eq_4, ↓c_is_number.eq_1, ↓c_is_number.eq_2, ↓c_Ratio_of.eq_1, ↓c_Ratio_of.eq_2, ↓c_Ratio___lt__.eq_1, ↓c_Ratio___lt__.eq_2, ↓c_Ratio___ge__.eq_1, ↓c_Ratio___ge__.eq_2, ↓c_Ratio___gt__.eq_1, ↓c_Ratio___gt__.eq_2, ↓c_Ratio___le__.eq_1, ↓c_Ratio___le__.eq_2, ↓c_is_same.eq_1, ↓c_is_same.eq_2, ↓c_Ratio___eq__.eq_1, ↓c_Ratio___eq__.eq_2, ↓c_Ratio___bool__.eq_1, ↓c_Ratio___bool__.eq_2, ↓c_new_Rounding.eq_1, ↓c_new_Rounding.eq_2, ↓c__law_rounding.eq_1, ↓c__law_rounding.eq_2, ↓c_Ratio___add__.eq_1, ↓c_Ratio___add__.eq_2, ↓c_need_number.eq_1, ↓c_need_number.eq_2, ↓c_Rounding_stepped.eq_1, ↓c_Rounding_stepped.eq_2, ↓c_Rounding___call__.eq_1, ↓c_Rounding___call__.eq_2, ↓c_Ratio___neg__.eq_1, ↓c_Ratio___neg__.eq_2, ↓c_Ratio___sub__.eq_1, ↓c_Ratio___sub__.eq_2, ↓c_Ratio_divided.eq_1, ↓c_Ratio_divided.eq_2, ↓c_Ratio_floor.eq_1, ↓c_Ratio_floor.eq_2, ↓c_Ratio___floordiv__.eq_1, ↓c_Ratio___floordiv__.eq_2, ↓c_Ratio___mul__.eq_1, ↓c_Ratio___mul__.eq_2, ↓c_Ratio___mod__.eq_1, ↓c_Ratio___mod__.eq_2, ↓c_Rounding_is_step.eq_1, ↓c_Rounding_is_step.eq_2, ↓c_Rounding_behind.eq_1, ↓c_Rounding_behind.eq_2, ↓c_Rounding_before.eq_1, ↓c_Rounding_before.eq_2, ↓c_Rounding_places.eq_1, ↓c_Rounding_places.eq_2, ↓c__law_right.eq_1, ↓c__law_right.eq_2, ↓c_law.eq_1, ↓c_law.eq_2])
set_option hygiene false in
local macro_rules | `(tactic| simp_arith [$ts,*]) => `(tactic| simp (config := {decide := false}) only [↓mEqW.eq_1, ↓mNeW.eq_1, ↓mFmtO.eq_1, ↓mCallP.eq_1, ↓mMethP.eq_1, ↓mCMethP.eq_1, ↓mCallO.eq_1, ↓mMakeP.eq_1, ↓bArgs.eq_1, ↓selA.eq_1, ↓selA.eq_2, ↓selA.eq_3, ↓selA.eq_4, ↓mSorted.eq_1, Option.getD_some, Option.getD_none, ↓mLc.eq_1, ↓goLc.eq_1, ↓goLc.eq_2, ↓wipeM.eq_1, ↓wipeM.eq_2, ↓bodyM.eq_1, ↓mVar.eq_1, ↓mC.eq_1, ↓mOp.eq_1, ↓mTest.eq_1, ↓mChain.eq_1, ↓mUn.eq_1, ↓mTru.eq_1, ↓dTru.eq_1, ↓dTru.eq_2, ↓dTru.eq_3, ↓dTru.eq_4, ↓dTru.eq_5, ↓dTru.eq_6, ↓dTru.eq_7, ↓dTru.eq_8, ↓dTru.eq_9, ↓dTru.eq_10, ↓mTr.eq_1, ↓mAnd.eq_1, ↓mOr.eq_1, ↓mNot.eq_1, ↓mAndV.eq_1, ↓mOrV.eq_1, ↓mNotV.eq_1, ↓mIf.eq_1, ↓mNil.eq_1, ↓mCons.eq_1, ↓mTup.eq_1, ↓mLst.eq_1, ↓mLstM.eq_1, ↓mAlt.eq_1, ↓uAlt.eq_1, ↓tAlt.eq_1, ↓fAlt.eq_1, ↓eAlt.eq_1, ↓lAlt.eq_1, ↓bAlt.eq_1, ↓gmName.eq_1, ↓gmNil.eq_1, ↓gmNil.eq_2, ↓gmCons.eq_1, ↓gmCons.eq_2, ↓gmTup.eq_1, ↓gmTup.eq_2, ↓gmSub.eq_1, ↓mSetL.eq_1, ↓mSetL.eq_2, ↓sNext.eq_1, ↓sSeq.eq_1, ↓sBreak.eq_1, ↓sCont.eq_1, ↓sExpr.eq_1, ↓sRet.eq_1, ↓sRetN.eq_1, ↓sIf.eq_1, ↓sSet.eq_1, ↓sAsg.eq_1, ↓sPar.eq_1, ↓sPar3.eq_1, ↓sAug.eq_1, ↓sFldM.eq_1, ↓sFldAugM.eq_1, ↓sFor.eq_1, ↓iLs.eq_1, ↓iTupM.eq_1, ↓iRange1.eq_1, ↓mCall.eq_1, ↓isC.eq_1, ↓isC.eq_2, ↓isC.eq_3, ↓mMeth.eq_1, ↓insC.eq_1, ↓insC.eq_2, ↓insC.eq_3, ↓mProp.eq_1, ↓mFld.eq_1, ↓mOwn.eq_1, ↓mOwn.eq_2, ↓mOwnR.eq_1, ↓mOwnR.eq_2, ↓mCmpO.eq_1, ↓mCmpO.eq_2, ↓kNotM.eq_1, ↓kNotM.eq_2, ↓mNeO.eq_1, ↓mNeO.eq_2, ↓mNeR.eq_1, ↓mNeR.eq_2, ↓mOwnU.eq_1, ↓mOwnU.eq_2, ↓kBlM.eq_1, ↓kBlM.eq_2, ↓mTruO.eq_1, ↓mTruO.eq_2, ↓mBoolO.eq_1, ↓mBoolO.eq_2, ↓kStrM.eq_1, ↓kStrM.eq_2, ↓mStrO.eq_1, ↓mStrO.eq_2, ↓mII.eq_1, ↓mII.eq_2, ↓mII0.eq_1, ↓mII0.eq_2, ↓mNeg.eq_1, ↓mNeg.eq_2, ↓mAddS.eq_1, ↓mAddS.eq_2, ↓noneD.eq_1, ↓noneD.eq_2, ↓mIsN.eq_1, ↓mIsN.eq_2, ↓mNotN.eq_1, ↓mNotN.eq_2, ↓mIsB.eq_1, ↓mIsB.eq_2, ↓mInt.eq_1, ↓mInt.eq_2, ↓mInt.eq_3, ↓mIntS.eq_1, ↓mIntS.eq_2, ↓mAbs.eq_1, ↓mAbs.eq_2, ↓mLen.eq_1, ↓mLen.eq_2, ↓mLen.eq_3, ↓mListF.eq_1, ↓mListF.eq_2, ↓mListM.eq_1, ↓mListM.eq_2, ↓mTupF.eq_1, ↓mTupF.eq_2, ↓mTupF.eq_3, ↓mBool1.eq_1, ↓mBool1.eq_2, ↓mBool1.eq_3, ↓mStrI.eq_1, ↓mStrI.eq_2, ↓mIx.eq_1, ↓mIx.eq_2, ↓mIxS.eq_1, ↓mIxS.eq_2, ↓mSl.eq_1, ↓mSlL.eq_1, ↓mSlS.eq_1, ↓mSlS.eq_2, ↓oNone.eq_1, ↓oSome.eq_1, ↓seqD.eq_1, ↓seqD.eq_2, ↓seqD.eq_3, ↓seqD.eq_4, ↓seqD.eq_5, ↓lsD.eq_1, ↓lsD.eq_2, ↓lsD.eq_3, ↓lsD.eq_4, ↓mdD.eq_1, ↓mdD.eq_2, ↓mdD.eq_3, ↓mCatL.eq_1, ↓mRepL.eq_1, ↓mRepL.eq_2, ↓isT.eq_1, ↓isT.eq_2, ↓isT.eq_3, ↓isT.eq_4, ↓isT.eq_5, ↓isT.eq_6, ↓mBM.eq_1, ↓bAppend.eq_1, ↓bAppend.eq_2, ↓bSplit.eq_1, ↓bSplit.eq_2, ↓bStarts.eq_1, ↓bStarts.eq_2, ↓bJoin.eq_1, ↓bJoin.eq_2, ↓mFmt.eq_1, ↓sRaise.eq_1, ↓mXat.eq_1, ↓mDict0.eq_1, ↓mNotT.eq_1, ↓mIsi.eq_1, ↓mIsi.eq_2, ↓mIsi.eq_3, ↓tyI.eq_1, ↓tyI.eq_2, ↓tyD.eq_1, ↓tyD.eq_2, ↓tyD.eq_3, ↓tyD.eq_4, ↓tyD.eq_5, ↓tyD.eq_6, ↓tyD.eq_7, ↓tyD.eq_8, ↓tyD.eq_9, ↓tyD.eq_10, ↓tyD.eq_11, ↓clsD.eq_1, ↓clsD.eq_2, ↓clsD.eq_3, ↓clsDs.eq_1, ↓clsDs.eq_2, ↓needT.eq_1, ↓needT.eq_2, ↓needT.eq_3, ↓needT.eq_4, ↓mHeard.eq_1, ↓mAsk.eq_1, ↓sTry.eq_1, ↓sFrz.eq_1, List.getElem?_cons_zero, List.getElem?_cons_succ, List.getElem?_nil, List.set_cons_zero, List.set_cons_succ, List.set_nil, List.length_cons, List.length_nil, List.map_cons, List.map_nil, List.cons_append, List.nil_append, List.append_nil, List.replicate_zero, List.replicate_succ, List.zip_cons_cons, List.zip_nil_left, List.zip_nil_right, Nat.reduceAdd, Nat.reduceSub, Nat.reduceEqDiff, Nat.reduceLT, Nat.reduceLeDiff, Nat.zero_add, Nat.add_zero, Bool.not_true, Bool.not_false, Bool.not_not, true_and, and_true, false_and, and_false, true_or, or_true, false_or, or_false, if_true, if_false, ite_true, ite_false, Bool.false_eq_true, reduceIte, reduceCtorEq, eq_self_iff_true, and_self, or_self, put_same, del_same, decide_true, decide_false, String.reduceEq, List.mem_cons, List.not_mem_nil, Int.reduceNeg, Int.reduceEq, Int.reduceLT, ne_eq, not_true_eq_false, not_false_eq_true, Z.kit_NoneType_int, Z.kit_bool_int, Z.kit_dict_int, Z.kit_int_int, Z.kit_list_int, Z.kit_str_int, Z.kit_tuple_int, Z.cls_Words, Z.cls_Words.cls, Z.kit_Words_int, Z.cls_Ratio, Z.cls_Ratio.cls, Z.kit_Ratio_int, Z.cls_Rounding, Z.cls_Rounding.cls, Z.kit_Rounding_int, Z.kit_NoneType_bool, Z.kit_bool_bool, Z.kit_dict_bool, Z.kit_int_bool, Z.kit_list_bool, Z.kit_str_bool, Z.kit_tuple_bool, Z.kit_Words_bool, Z.kit_Ratio_bool, Z.kit_Rounding_bool, Z.no_Ratio_over, Z.no_Ratio_under, Z.kit_NoneType_Ratio, Z.kit_bool_Ratio, Z.kit_dict_Ratio, Z.kit_int_Ratio, Z.kit_list_Ratio, Z.kit_str_Ratio, Z.kit_tuple_Ratio, Z.kit_Words_Ratio, Z.kit_Ratio_Ratio, Z.kit_Rounding_Ratio, Z.no_Rounding_threshold, Z.no_Rounding_is_from, lkF_self, asR_rat, toQ_rat, anyD_non, anyD_bl, anyD_int, anyD_str, anyD_tup, anyD_lst, anyD_wls, anyD_dict, isIntD_non, isIntD_bl, isIntD_int, isIntD_str, isIntD_tup, isIntD_lst, isIntD_wls, isIntD_dict, isNumD_non, isNumD_bl, isNumD_int, isNumD_str, isNumD_tup, isNumD_lst, isNumD_wls, isNumD_dict, toQ_non, toQ_bl, toQ_int, toQ_str, toQ_tup, toQ_lst, toQ_wls, toQ_dict, yOk_non, yOk_bl, yOk_int, yOk_str, yOk_tup, yOk_lst, yOk_wls, yOk_dict, cOk_non, cOk_bl, cOk_int, cOk_str, cOk_tup, cOk_lst, cOk_wls, cOk_dict, oddD, yOk_ins, cOk_ins, anyD_ins, isIntD_ins, isNumD_ins, BEq.rfl, mEqD_ii, mNeD_ii, mEqD_insL, mNeD_insL, mEqD_insR, mNeD_insR, asRd_rnd, put_put, Bool.false_or, Bool.or_false, Bool.or_true, Bool.true_or, Bool.and_true, Bool.true_and, Bool.and_false, Bool.false_and, Option.map_some, decide_eq_true_eq, lk_Ratio_over, pt_Ratio_over, lk_Ratio_under, pt_Ratio_under, nf_Ratio_divided, nf_Ratio_floor, lk_Words_all_words, pt_Words_all_words, lk_Words_taken, pt_Words_taken, lk_Rounding_threshold, pt_Rounding_threshold, lk_Rounding_is_from, pt_Rounding_is_from, nf_Rounding_stepped, nf_Rounding_is_step, nf_Rounding_before, nf_Rounding_behind, nf_Rounding_places, ↓c__law_pen.eq_1, ↓c__law_pen.eq_2, ↓c__law_draw.eq_1, ↓c__law_draw.eq_2, ↓c__law_pick.eq_1, ↓c__law_pick.eq_2, ↓c__law_frac.eq_1, ↓c__law_frac.eq_2, ↓c__law_number.eq_1, ↓c__law_number.eq_2, ↓c__law_kind.eq_1, ↓c__law_kind.eq_2, ↓c_is_integer.eq_1, ↓c_is_integer.eq_2, ↓c_divisor.eq_1, ↓c_divisor.eq_2, ↓c_new_Ratio.eq_1, ↓c_new_Ratio.eq_2, ↓c_new_Ratio.eq_3, ↓c_new_Ratio.eq_4, ↓c_is_number.eq_1, ↓c_is_number.eq_2, ↓c_Ratio_of.eq_1, ↓c_Ratio_of.eq_2, ↓c_Ratio___lt__.eq_1, ↓c_Ratio___lt__.eq_2, ↓c_Ratio___ge__.eq_1, ↓c_Ratio___ge__.eq_2, ↓c_Ratio___gt__.eq_1, ↓c_Ratio___gt__.eq_2, ↓c_Ratio___le__.eq_1, ↓c_Ratio___le__.eq_2, ↓c_is_same.eq_1, ↓c_is_same.eq_2, ↓c_Ratio___eq__.eq_1, ↓c_Ratio___eq__.eq_2, ↓c_Ratio___bool__.eq_1, ↓c_Ratio___bool__.eq_2, ↓c_new_Rounding.eq_1, ↓c_new_Rounding.eq_2, ↓c__law_rounding.eq_1, ↓c__law_rounding.eq_2, ↓c_Ratio___add__.eq_1, ↓c_Ratio___add__.eq_2, ↓c_need_number.eq_1, ↓c_need_number.eq_2, ↓c_Rounding_stepped.eq_1, ↓c_Rounding_stepped.eq_2, ↓c_Rounding___call__.eq_1, ↓c_Rounding___call__.eq_2, ↓c_Ratio___neg__.eq_1, ↓c_Ratio___neg__.eq_2, ↓c_Ratio___sub__.eq_1, ↓c_Ratio___sub__.eq_2, ↓c_Ratio_divided.eq_1, ↓c_Ratio_divided.eq_2, ↓c_Ratio_floor.eq_1, ↓c_Ratio_floor.eq_2, ↓c_Ratio___floordiv__.eq_1, ↓c_Ratio___floordiv__.eq_2, ↓c_Ratio___mul__.eq_1, ↓c_Ratio___mul__.eq_2, ↓c_Ratio___mod__.eq_1, ↓c_Ratio___mod__.eq_2, ↓c_Rounding_is_step.eq_1, ↓c_Rounding_is_step.eq_2, ↓c_Rounding_behind.eq_1, ↓c_Rounding_behind.eq_2, ↓c_Rounding_before.eq_1, ↓c_Rounding_before.eq_2, ↓c_Rounding_places.eq_1, ↓c_Rounding_places.eq_2, ↓c__law_right.eq_1, ↓c__law_right.eq_2, ↓c_law.eq_1, ↓c_law.eq_2, $ts,*])
section
variable {P : Program} {w : World} {K : PySem.W.Frag} {mg : Str → Option Value} {base : Heap}
/-! Ratio.__add__ -/
def b_Ratio___add__ (K : PySem.W.Frag) : FS :=
    (sSeq (sSet 2 (mCall (c_Ratio_of K) [] (mCons (mVar 1) mNil)))
    (sRet (mCall (c_new_Ratio K) [] (mCons (mOp mAdd (mOp mMul (mFld K (mVar 0) "over") (mFld K (mVar 2) "under")) (mOp mMul (mFld K (mVar 2) "over") (mFld K (mVar 0) "under"))) (mCons (mOp mMul (mFld K (mVar 0) "under") (mFld K (mVar 2) "under")) mNil)))))
def m_Ratio___add__ (K : PySem.W.Frag) : FM := bodyM 2 3 (b_Ratio___add__ K)
theorem cl_Ratio___add__ (Z : Zf P w K mg) {ds : List D} {μ : MS} {Q : D → MS → Prop} {X : MX} (h : c_Ratio___add__ K ds μ Q X) : m_Ratio___add__ K ds μ Q X := by
  unfold c_Ratio___add__ at h
  split at h
  · rename_i d1 d2
    split at h
    · rename_i x y e1 e2
      cases asR_of e1
      unfold m_Ratio___add__ b_Ratio___add__
      obtain ⟨s1, s2, h⟩ := h
      simp_arith [e2]
      rw [if_neg (dd_ne x y), ← add_frac]
      exact ⟨cmND s1 s2, cmND s2 s1, cmDD s1 s2, ddlt s1 s2, h⟩
    · rename_i x e1 e2
      cases asR_of e1
      unfold m_Ratio___add__ b_Ratio___add__
      simp_arith [e2, h.1.1, h.1.2]
      exact h.2
    · exact h.elim
  · exact h.elim
theorem fo_Ratio___add__ {fd : FuncData} (M : MT mg K) (Z : Zf P w K mg) (D_Ratio___init__ : DnM P w K mg base (Tt K) 2 (a_Ratio___init__ K) ["self", "over", "under"] [.int 1] (c_Ratio___init__ K)) (D_Ratio_of : DnM P w K mg base (Tt K) 4 (a_Ratio_of K) ["value"] [] (c_Ratio_of K)) (F : FnP K d_Ratio___add__ fd) :
    FnOk P w K mg base (L2.CX P w) 5 (a_Ratio___add__ K) fd ["self", "other"] (spF K (Tt K) (c_Ratio___add__ K)) :=
  FnOk.impM (fnM (b := b_Ratio___add__ K) F sc_Ratio___add__ (fun cdv A outer s H E hr =>
    (pssm_cons (psm_set (i := 2) sc_Ratio___add__.nd rfl (Or.inl rfl) (pm_smeth (c := "Ratio") (dv := []) (dd := []) (pe_glob (v := .ref (ca K "Ratio")) rfl M.g_Ratio rfl) Z.cr_Ratio Z.sm_Ratio_of D_Ratio_of 0 (hr.mono (by decide)) passX (pam_cons (pmv 1) pam_nil) (fun _ => .nil)))
    (pssm_one (psm_ret (pm_make (c := "Ratio") (gM := c_new_Ratio K) (dv := []) (dd := []) ⟨Z.mkr_Ratio, D_Ratio___init__⟩ 1 (hr.mono (by decide)) rfl M.g_Ratio passX (new_Ratio Z) (pam_cons (pm_op o_add (pm_op o_mul (pm_fld (pmv 0) (by rfl)) (pm_fld (pmv 2) (by rfl))) (pm_op o_mul (pm_fld (pmv 2) (by rfl)) (pm_fld (pmv 0) (by rfl)))) (pam_cons (pm_op o_mul (pm_fld (pmv 0) (by rfl)) (pm_fld (pmv 2) (by rfl))) pam_nil)) (fun _ => .nil))))))) (fun ds μ Q X h => cl_Ratio___add__ Z h)
theorem ok_Ratio___add__ {fd : FuncData} (M : MT mg K) (Z : Zf P w K mg) (D_Ratio___init__ : DnM P w K mg base (Tt K) 2 (a_Ratio___init__ K) ["self", "over", "under"] [.int 1] (c_Ratio___init__ K)) (D_Ratio_of : DnM P w K mg base (Tt K) 4 (a_Ratio_of K) ["value"] [] (c_Ratio_of K)) (F : FnP K d_Ratio___add__ fd) :
    DnM P w K mg base (Tt K) 5 (a_Ratio___add__ K) ["self", "other"] [] (c_Ratio___add__ K) :=
  dn_mk F rfl (fun _ _ _ _ _ _ us hl => match us, hl with | [_, _], _ => rfl) (fo_Ratio___add__ M Z D_Ratio___init__ D_Ratio_of F)
/-! need_number -/
def b_need_number (K : PySem.W.Frag) : FS :=
    (sSeq (sIf (mNot (mTr mTru (mCall (c_is_number K) [] (mCons (mVar 0) mNil))))
      (sRaise "BadNumber" ["value"] (mCons (mVar 0) mNil))
      sNext)
    (sRet (mCall (c_Ratio_of K) [] (mCons (mVar 0) mNil))))
def m_need_number (K : PySem.W.Frag) : FM := bodyM 1 1 (b_need_number K)
theorem cl_need_number (Z : Zf P w K mg) {ds : List D} {μ : MS} {Q : D → MS → Prop} {X : MX} (h : c_need_number K ds μ Q X) : m_need_number K ds μ Q X := by
  unfold c_need_number at h
  split at h
  · rename_i d
    split at h
    · rename_i y e
      unfold m_need_number b_need_number
      rcases toQ_of e with ⟨i, rfl, rfl⟩ | rfl
      · simp_arith []
        exact h
      · simp_arith [toQ_rat]
        exact h
    · rename_i e
      unfold m_need_number b_need_number
      simp_arith [e, h.1.1, h.1.2]
      exact h.2
  · exact h.elim
theorem fo_need_number {fd : FuncData} (M : MT mg K) (Z : Zf P w K mg) (D_Ratio_of : DnM P w K mg base (Tt K) 4 (a_Ratio_of K) ["value"] [] (c_Ratio_of K)) (D_is_number : DnM P w K mg base (Tt K) 2 (a_is_number K) ["value"] [] (c_is_number K)) (F : FnP K d_need_number fd) :
    FnOk P w K mg base (L2.CX P w) 5 (a_need_number K) fd ["value"] (spF K (Tt K) (c_need_number K)) :=
  FnOk.impM (fnM (b := b_need_number K) F sc_need_number (fun cdv A outer s H E hr =>
    (pssm_cons (psm_if (ptm_not (ptm_tru tm_tru (pm_call (dv := []) (dd := []) D_is_number 0 (hr.mono (by decide)) rfl M.g_is_number passX (pam_cons (pmv 0) pam_nil) (fun _ => .nil)) (by intro _; rfl)))
      (pssm_one (psm_raise (c := "BadNumber") (names := ["value"]) (by rfl) takeX Z.err_BadNumber hr rfl M.g_BadNumber (pam_cons (pmv 0) pam_nil)))
      pssm_nil)
    (pssm_one (psm_ret (pm_smeth (c := "Ratio") (dv := []) (dd := []) (pe_glob (v := .ref (ca K "Ratio")) rfl M.g_Ratio rfl) Z.cr_Ratio Z.sm_Ratio_of D_Ratio_of 0 (hr.mono (by decide)) passX (pam_cons (pmv 0) pam_nil) (fun _ => .nil))))))) (fun ds μ Q X h => cl_need_number Z h)
theorem ok_need_number {fd : FuncData} (M : MT mg K) (Z : Zf P w K mg) (D_Ratio_of : DnM P w K mg base (Tt K) 4 (a_Ratio_of K) ["value"] [] (c_Ratio_of K)) (D_is_number : DnM P w K mg base (Tt K) 2 (a_is_number K) ["value"] [] (c_is_number K)) (F : FnP K d_need_number fd) :
    DnM P w K mg base (Tt K) 5 (a_need_number K) ["value"] [] (c_need_number K) :=
  dn_mk F rfl (fun _ _ _ _ _ _ us hl => match us, hl with | [_], _ => rfl) (fo_need_number M Z D_Ratio_of D_is_number F)
/-! Rounding.stepped -/
def b_Rounding_stepped (K : PySem.W.Frag) : FS :=
    (sSeq (sSet 3 (mOp mMul (mOp mMod (mVar 1) (mVar 2)) (mFld K (mFld K (mVar 0) "threshold") "under")))
    (sSeq (sSet 4 (mOp mMul (mFld K (mFld K (mVar 0) "threshold") "over") (mVar 2)))
    (sRet (mOp mAdd (mOp mFdiv (mVar 1) (mVar 2)) (mCall mInt [] (mCons (mIf (mTr mTru (mFld K (mVar 0) "is_from")) (mOp mGe (mVar 3) (mVar 4)) (mOp mGt (mVar 3) (mVar 4))) mNil))))))
def m_Rounding_stepped (K : PySem.W.Frag) : FM := bodyM 3 5 (b_Rounding_stepped K)
theorem cl_Rounding_stepped (Z : Zf P w K mg) {ds : List D} {μ : MS} {Q : D → MS → Prop} {X : MX} (h : c_Rounding_stepped K ds μ Q X) : m_Rounding_stepped K ds μ Q X := by
  unfold c_Rounding_stepped at h
  split at h
  · rename_i d o u
    split at h
    · rename_i q b e
      obtain ⟨x, rfl, rfl, sx, rk, h⟩ := h
      cases asRd_of e
      have dn := den_neI x
      have dl := den_log (sx.up (by decide))
      have m1 : CMulE (x.num.fmod x.den) q.den := .inr (Smal.mul (fmod_sz sx) (den_abs (rk.sz.up (by decide))))
      have m2 : CMulE q.num x.den := .inr (Smal.mul (rk.sz.up (by decide)).nu (den_abs sx))
      obtain ⟨c1, c2⟩ := step_cmp q x
      rw [rnd_parts q b x rk.lo rk.hi rk.kd] at h
      unfold m_Rounding_stepped b_Rounding_stepped
      simp_arith [dn, dl, m1, m2]
      rw [← c1, ← c2] at h
      rw [floor_fdiv]
      cases b with
      | true =>
        simp only [if_true, decide_eq_true_eq] at h ⊢
        exact h
      | false =>
        simp only [Bool.false_eq_true, if_false, decide_eq_true_eq] at h ⊢
        exact h
    · exact h.elim
  · exact h.elim
theorem fo_Rounding_stepped {fd : FuncData} (M : MT mg K) (Z : Zf P w K mg) (F : FnP K d_Rounding_stepped fd) :
    FnOk P w K mg base (L2.CX P w) 1 (a_Rounding_stepped K) fd ["self", "over", "under"] (spF K (Tt K) (c_Rounding_stepped K)) :=
  FnOk.impM (fnM (b := b_Rounding_stepped K) F sc_Rounding_stepped (fun cdv A outer s H E hr =>
    (pssm_cons (psm_set (i := 3) sc_Rounding_stepped.nd rfl (Or.inl rfl) (pm_op o_mul (pm_op o_mod (pmv 1) (pmv 2)) (pm_fld (pm_fld (pmv 0) (by rfl)) (by rfl))))
    (pssm_cons (psm_set (i := 4) sc_Rounding_stepped.nd rfl (Or.inl rfl) (pm_op o_mul (pm_fld (pm_fld (pmv 0) (by rfl)) (by rfl)) (pmv 2)))
    (pssm_one (psm_ret (pm_op o_add (pm_op o_fdiv (pmv 1) (pmv 2)) (pm_callTy f_int (by rfl) M.f_int (by decide +kernel) (pam_cons (pm_ifExp (ptm_tru tm_tru (pm_fld (pmv 0) (by rfl)) (by intro _; rfl)) (pm_cmp o_ge (pmv 3) (pmv 4) (nomark _)) (pm_cmp o_gt (pmv 3) (pmv 4) (nomark _))) pam_nil))))))))) (fun ds μ Q X h => cl_Rounding_stepped Z h)
theorem ok_Rounding_stepped {fd : FuncData} (M : MT mg K) (Z : Zf P w K mg) (F : FnP K d_Rounding_stepped fd) :
    DnM P w K mg base (Tt K) 1 (a_Rounding_stepped K) ["self", "over", "under"] [] (c_Rounding_stepped K) :=
  dn_mk F rfl (fun _ _ _ _ _ _ us hl => match us, hl with | [_, _, _], _ => rfl) (fo_Rounding_stepped M Z  F)
/-! Rounding.__call__ -/
def b_Rounding___call__ (K : PySem.W.Frag) : FS :=
    (sSeq (sSet 2 (mCall (c_need_number K) [] (mCons (mVar 1) mNil)))
    (sRet (mMeth "Rounding" "stepped" (c_Rounding_stepped K) [] (mVar 0) (mCons (mFld K (mVar 2) "over") (mCons (mFld K (mVar 2) "under") mNil)))))
def m_Rounding___call__ (K : PySem.W.Frag) : FM := bodyM 2 3 (b_Rounding___call__ K)
theorem cl_Rounding___call__ (Z : Zf P w K mg) {ds : List D} {μ : MS} {Q : D → MS → Prop} {X : MX} (h : c_Rounding___call__ K ds μ Q X) : m_Rounding___call__ K ds μ Q X := by
  unfold c_Rounding___call__ at h
  split at h
  · rename_i d1 d2
    split at h
    · rename_i q b e
      cases asRd_of e
      split at h
      · rename_i x e2
        obtain ⟨sx, rk, h⟩ := h
        unfold m_Rounding___call__ b_Rounding___call__
        simp_arith [e2, asRd_rnd]
        exact ⟨x, rfl, rfl, sx, rk, h⟩
      · rename_i e2
        unfold m_Rounding___call__ b_Rounding___call__
        simp_arith [e2, h.1.1, h.1.2]
        exact h.2
    · exact h.elim
  · exact h.elim
theorem fo_Rounding___call__ {fd : FuncData} (M : MT mg K) (Z : Zf P w K mg) (D_Rounding_stepped : DnM P w K mg base (Tt K) 1 (a_Rounding_stepped K) ["self", "over", "under"] [] (c_Rounding_stepped K)) (D_need_number : DnM P w K mg base (Tt K) 5 (a_need_number K) ["value"] [] (c_need_number K)) (F : FnP K d_Rounding___call__ fd) :
    FnOk P w K mg base (L2.CX P w) 6 (a_Rounding___call__ K) fd ["self", "number"] (spF K (Tt K) (c_Rounding___call__ K)) :=
  FnOk.impM (fnM (b := b_Rounding___call__ K) F sc_Rounding___call__ (fun cdv A outer s H E hr =>
    (pssm_cons (psm_set (i := 2) sc_Rounding___call__.nd rfl (Or.inl rfl) (pm_call (dv := []) (dd := []) D_need_number 0 (hr.mono (by decide)) rfl M.g_need_number passX (pam_cons (pmv 1) pam_nil) (fun _ => .nil)))
    (pssm_one (psm_ret (pm_meth (c := "Rounding") (dv := []) (dd := []) (pmv 0) Z.cls_Rounding.cls Z.mt_Rounding_stepped D_Rounding_stepped 0 (hr.mono (by decide)) passX (pam_cons (pm_fld (pmv 2) (by rfl)) (pam_cons (pm_fld (pmv 2) (by rfl)) pam_nil)) (fun _ => .nil))))))) (fun ds μ Q X h => cl_Rounding___call__ Z h)
theorem ok_Rounding___call__ {fd : FuncData} (M : MT mg K) (Z : Zf P w K mg) (D_Rounding_stepped : DnM P w K mg base (Tt K) 1 (a_Rounding_stepped K) ["self", "over", "under"] [] (c_Rounding_stepped K)) (D_need_number : DnM P w K mg base (Tt K) 5 (a_need_number K) ["value"] [] (c_need_number K)) (F : FnP K d_Rounding___call__ fd) :
    DnM P w K mg base (Tt K) 6 (a_Rounding___call__ K) ["self", "number"] [] (c_Rounding___call__ K) :=
  dn_mk F rfl (fun _ _ _ _ _ _ us hl => match us, hl with | [_, _], _ => rfl) (fo_Rounding___call__ M Z D_Rounding_stepped D_need_number F)
theorem okK_Rounding___call___0 {fd : FuncData} (M : MT mg K) (Z : Zf P w K mg) (D_Rounding_stepped : DnM P w K mg base (Tt K) 1 (a_Rounding_stepped K) ["self", "over", "under"] [] (c_Rounding_stepped K)) (D_need_number : DnM P w K mg base (Tt K) 5 (a_need_number K) ["value"] [] (c_need_number K)) (F : FnP K d_Rounding___call__ fd) :
    DnK P w K mg base (Tt K) 6 (a_Rounding___call__ K) ["self", "number"] [] 2 [] [.p 0, .p 1] (c_Rounding___call__ K) :=
  dnK0 F rfl [.p 0, .p 1] (fun _ _ _ _ _ _ us ws h1 h2 => match us, ws, h1, h2 with | [_, _], [], _, _ => rfl) (fo_Rounding___call__ M Z D_Rounding_stepped D_need_number F)
/-! Ratio.__neg__ -/
def b_Ratio___neg__ (K : PySem.W.Frag) : FS :=
    (sRet (mCall (c_new_Ratio K) [] (mCons (mUn mNeg (mFld K (mVar 0) "over")) (mCons (mFld K (mVar 0) "under") mNil))))
def m_Ratio___neg__ (K : PySem.W.Frag) : FM := bodyM 1 1 (b_Ratio___neg__ K)
theorem cl_Ratio___neg__ (Z : Zf P w K mg) {ds : List D} {μ : MS} {Q : D → MS → Prop} {X : MX} (h : c_Ratio___neg__ K ds μ Q X) : m_Ratio___neg__ K ds μ Q X := by
  unfold c_Ratio___neg__ at h
  split at h
  · rename_i d1
    split at h
    · rename_i x e1
      cases asR_of e1
      unfold m_Ratio___neg__ b_Ratio___neg__
      obtain ⟨s, h⟩ := h
      simp_arith []
      rw [if_neg (den_neI x), neg_frac]
      exact ⟨Nat.lt_of_lt_of_le (den_abs s) (Nat.pow_le_pow_right (by decide) (by decide)), h⟩
    · exact h.elim
  · exact h.elim
theorem fo_Ratio___neg__ {fd : FuncData} (M : MT mg K) (Z : Zf P w K mg) (D_Ratio___init__ : DnM P w K mg base (Tt K) 2 (a_Ratio___init__ K) ["self", "over", "under"] [.int 1] (c_Ratio___init__ K)) (F : FnP K d_Ratio___neg__ fd) :
    FnOk P w K mg base (L2.CX P w) 4 (a_Ratio___neg__ K) fd ["self"] (spF K (Tt K) (c_Ratio___neg__ K)) :=
  FnOk.impM (fnM (b := b_Ratio___neg__ K) F sc_Ratio___neg__ (fun cdv A outer s H E hr =>
    (pssm_one (psm_ret (pm_make (c := "Ratio") (gM := c_new_Ratio K) (dv := []) (dd := []) ⟨Z.mkr_Ratio, D_Ratio___init__⟩ 1 (hr.mono (by decide)) rfl M.g_Ratio passX (new_Ratio Z) (pam_cons (pm_un u_neg (pm_fld (pmv 0) (by rfl))) (pam_cons (pm_fld (pmv 0) (by rfl)) pam_nil)) (fun _ => .nil)))))) (fun ds μ Q X h => cl_Ratio___neg__ Z h)
theorem ok_Ratio___neg__ {fd : FuncData} (M : MT mg K) (Z : Zf P w K mg) (D_Ratio___init__ : DnM P w K mg base (Tt K) 2 (a_Ratio___init__ K) ["self", "over", "under"] [.int 1] (c_Ratio___init__ K)) (F : FnP K d_Ratio___neg__ fd) :
    DnM P w K mg base (Tt K) 4 (a_Ratio___neg__ K) ["self"] [] (c_Ratio___neg__ K) :=
  dn_mk F rfl (fun _ _ _ _ _ _ us hl => match us, hl with | [_], _ => rfl) (fo_Ratio___neg__ M Z D_Ratio___init__ F)
end
end Mz

namespace Mz
open PySem PySem.Spec PyProof.Rows L2 AzX ClX LamX Hz He Az
local macro_rules | `(tactic| walk_at "ev") => `(tactic| simp (config := {decide := false}) only [↓mEqW.eq_1, ↓mNeW.eq_1, ↓mFmtO.eq_1, ↓mCallP.eq_1, ↓mMethP.eq_1, ↓mCMethP.eq_1, ↓mCallO.eq_1, ↓mMakeP.eq_1, ↓bArgs.eq_1, ↓selA.eq_1, ↓selA.eq_2, ↓selA.eq_3, ↓selA.eq_4, ↓mSorted.eq_1, Option.getD_some, Option.getD_none, ↓mLc.eq_1, ↓goLc.eq_1, ↓goLc.eq_2, ↓wipeM.eq_1, ↓wipeM.eq_2, ↓bodyM.eq_1, ↓mVar.eq_1, ↓mC.eq_1, ↓mOp.eq_1, ↓mTest.eq_1, ↓mChain.eq_1, ↓mUn.eq_1, ↓mTru.eq_1, ↓dTru.eq_1, ↓dTru.eq_2, ↓dTru.eq_3, ↓dTru.eq_4, ↓dTru.eq_5, ↓dTru.eq_6, ↓dTru.eq_7, ↓dTru.eq_8, ↓dTru.eq_9, ↓dTru.eq_10, ↓mTr.eq_1, ↓mAnd.eq_1, ↓mOr.eq_1, ↓mNot.eq_1, ↓mAndV.eq_1, ↓mOrV.eq_1, ↓mNotV.eq_1, ↓mIf.eq_1, ↓mNil.eq_1, ↓mCons.eq_1, ↓mTup.eq_1, ↓mLst.eq_1, ↓mLstM.eq_1, ↓mAlt.eq_1, ↓uAlt.eq_1, ↓tAlt.eq_1, ↓fAlt.eq_1, ↓eAlt.eq_1, ↓lAlt.eq_1, ↓bAlt.eq_1, ↓gmName.eq_1, ↓gmNil.eq_1, ↓gmNil.eq_2, ↓gmCons.eq_1, ↓gmCons.eq_2, ↓gmTup.eq_1, ↓gmTup.eq_2, ↓gmSub.eq_1, ↓mSetL.eq_1, ↓mSetL.eq_2, ↓sNext.eq_1, ↓sSeq.eq_1, ↓sBreak.eq_1, ↓sCont.eq_1, ↓sExpr.eq_1, ↓sRet.eq_1, ↓sRetN.eq_1, ↓sIf.eq_1, ↓sSet.eq_1, ↓sAsg.eq_1, ↓sPar.eq_1, ↓sPar3.eq_1, ↓sAug.eq_1, ↓sFldM.eq_1, ↓sFldAugM.eq_1, ↓sFor.eq_1, ↓iLs.eq_1, ↓iTupM.eq_1, ↓iRange1.eq_1, ↓mCall.eq_1, ↓isC.eq_1, ↓isC.eq_2, ↓isC.eq_3, ↓mMeth.eq_1, ↓insC.eq_1, ↓insC.eq_2, ↓insC.eq_3, ↓mProp.eq_1, ↓mFld.eq_1, ↓mOwn.eq_1, ↓mOwn.eq_2, ↓mOwnR.eq_1, ↓mOwnR.eq_2, ↓mCmpO.eq_1, ↓mCmpO.eq_2, ↓kNotM.eq_1, ↓kNotM.eq_2, ↓mNeO.eq_1, ↓mNeO.eq_2, ↓mNeR.eq_1, ↓mNeR.eq_2, ↓mOwnU.eq_1, ↓mOwnU.eq_2, ↓kBlM.eq_1, ↓kBlM.eq_2, ↓mTruO.eq_1, ↓mTruO.eq_2, ↓mBoolO.eq_1, ↓mBoolO.eq_2, ↓kStrM.eq_1, ↓kStrM.eq_2, ↓mStrO.eq_1, ↓mStrO.eq_2, ↓mII.eq_1, ↓mII.eq_2, ↓mII0.eq_1, ↓mII0.eq_2, ↓mNeg.eq_1, ↓mNeg.eq_2, ↓mAddS.eq_1, ↓mAddS.eq_2, ↓noneD.eq_1, ↓noneD.eq_2, ↓mIsN.eq_1, ↓mIsN.eq_2, ↓mNotN.eq_1, ↓mNotN.eq_2, ↓mIsB.eq_1, ↓mIsB.eq_2, ↓mInt.eq_1, ↓mInt.eq_2, ↓mInt.eq_3, ↓mIntS.eq_1, ↓mIntS.eq_2, ↓mAbs.eq_1, ↓mAbs.eq_2, ↓mLen.eq_1, ↓mLen.eq_2, ↓mLen.eq_3, ↓mListF.eq_1, ↓mListF.eq_2, ↓mListM.eq_1, ↓mListM.eq_2, ↓mTupF.eq_1, ↓mTupF.eq_2, ↓mTupF.eq_3, ↓mBool1.eq_1, ↓mBool1.eq_2, ↓mBool1.eq_3, ↓mStrI.eq_1, ↓mStrI.eq_2, ↓mIx.eq_1, ↓mIx.eq_2, ↓mIxS.eq_1, ↓mIxS.eq_2, ↓mSl.eq_1, ↓mSlL.eq_1, ↓mSlS.eq_1, ↓mSlS.eq_2, ↓oNone.eq_1, ↓oSome.eq_1, ↓seqD.eq_1, ↓seqD.eq_2, ↓seqD.eq_3, ↓seqD.eq_4, ↓seqD.eq_5, ↓lsD.eq_1, ↓lsD.eq_2, ↓lsD.eq_3, ↓lsD.eq_4, ↓mdD.eq_1, ↓mdD.eq_2, ↓mdD.eq_3, ↓mCatL.eq_1, ↓mRepL.eq_1, ↓mRepL.eq_2, ↓isT.eq_1, ↓isT.eq_2, ↓isT.eq_3, ↓isT.eq_4, ↓isT.eq_5, ↓isT.eq_6, ↓mBM.eq_1, ↓bAppend.eq_1, ↓bAppend.eq_2, ↓bSplit.eq_1, ↓bSplit.eq_2, ↓bStarts.eq_1, ↓bStarts.eq_2, ↓bJoin.eq_1, ↓bJoin.eq_2, ↓mFmt.eq_1, ↓sRaise.eq_1, ↓mXat.eq_1, ↓mDict0.eq_1, ↓mNotT.eq_1, ↓mIsi.eq_1, ↓mIsi.eq_2, ↓mIsi.eq_3, ↓tyI.eq_1, ↓tyI.eq_2, ↓tyD.eq_1, ↓tyD.eq_2, ↓tyD.eq_3, ↓tyD.eq_4, ↓tyD.eq_5, ↓tyD.eq_6, ↓tyD.eq_7, ↓tyD.eq_8, ↓tyD.eq_9, ↓tyD.eq_10, ↓tyD.eq_11, ↓clsD.eq_1, ↓clsD.eq_2, ↓clsD.eq_3, ↓clsDs.eq_1, ↓clsDs.eq_2, ↓needT.eq_1, ↓needT.eq_2, ↓needT.eq_3, ↓needT.eq_4, ↓mHeard.eq_1, ↓mAsk.eq_1, ↓sTry.eq_1, ↓sFrz.eq_1, List.getElem?_cons_zero, List.getElem?_cons_succ, List.getElem?_nil, List.set_cons_zero, List.set_cons_succ, List.set_nil, List.length_cons, List.length_nil, List.map_cons, List.map_nil, List.cons_append, List.nil_append, List.append_nil, List.replicate_zero, List.replicate_succ, List.zip_cons_cons, List.zip_nil_left, List.zip_nil_right, Nat.reduceAdd, Nat.reduceSub, Nat.reduceEqDiff, Nat.reduceLT, Nat.reduceLeDiff, Nat.zero_add, Nat.add_zero, Bool.not_true, Bool.not_false, Bool.not_not, true_and, and_true, false_and, and_false, true_or, or_true, false_or, or_false, if_true, if_false, ite_true, ite_false, Bool.false_eq_true, reduceIte, reduceCtorEq, eq_self_iff_true, and_self, or_self, put_same, del_same, decide_true, decide_false, String.reduceEq, List.mem_cons, List.not_mem_nil, Int.reduceNeg, Int.reduceEq, Int.reduceLT, ne_eq, not_true_eq_false, not_false_eq_true])
set_option hygiene false in
local macro_rules | `(tactic| walk_at "evz") => `(tactic| simp (config := {decide := false}) only [↓mEqW.eq_1, ↓mNeW.eq_1, ↓mFmtO.eq_1, ↓mCallP.eq_1, ↓mMethP.eq_1, ↓mCMethP.eq_1, ↓mCallO.eq_1, ↓mMakeP.eq_1, ↓bArgs.eq_1, ↓selA.eq_1, ↓selA.eq_2, ↓selA.eq_3, ↓selA.eq_4, ↓mSorted.eq_1, Option.getD_some, Option.getD_none, ↓mLc.eq_1, ↓goLc.eq_1, ↓goLc.eq_2, ↓wipeM.eq_1, ↓wipeM.eq_2, ↓bodyM.eq_1, ↓mVar.eq_1, ↓mC.eq_1, ↓mOp.eq_1, ↓mTest.eq_1, ↓mChain.eq_1, ↓mUn.eq_1, ↓mTru.eq_1, ↓dTru.eq_1, ↓dTru.eq_2, ↓dTru.eq_3, ↓dTru.eq_4, ↓dTru.eq_5, ↓dTru.eq_6, ↓dTru.eq_7, ↓dTru.eq_8, ↓dTru.eq_9, ↓dTru.eq_10, ↓mTr.eq_1, ↓mAnd.eq_1, ↓mOr.eq_1, ↓mNot.eq_1, ↓mAndV.eq_1, ↓mOrV.eq_1, ↓mNotV.eq_1, ↓mIf.eq_1, ↓mNil.eq_1, ↓mCons.eq_1, ↓mTup.eq_1, ↓mLst.eq_1, ↓mLstM.eq_1, ↓mAlt.eq_1, ↓uAlt.eq_1, ↓tAlt.eq_1, ↓fAlt.eq_1, ↓eAlt.eq_1, ↓lAlt.eq_1, ↓bAlt.eq_1, ↓gmName.eq_1, ↓gmNil.eq_1, ↓gmNil.eq_2, ↓gmCons.eq_1, ↓gmCons.eq_2, ↓gmTup.eq_1, ↓gmTup.eq_2, ↓gmSub.eq_1, ↓mSetL.eq_1, ↓mSetL.eq_2, ↓sNext.eq_1, ↓sSeq.eq_1, ↓sBreak.eq_1, ↓sCont.eq_1, ↓sExpr.eq_1, ↓sRet.eq_1, ↓sRetN.eq_1, ↓sIf.eq_1, ↓sSet.eq_1, ↓sAsg.eq_1, ↓sPar.eq_1, ↓sPar3.eq_1, ↓sAug.eq_1, ↓sFldM.eq_1, ↓sFldAugM.eq_1, ↓sFor.eq_1, ↓iLs.eq_1, ↓iTupM.eq_1, ↓iRange1.eq_1, ↓mCall.eq_1, ↓isC.eq_1, ↓isC.eq_2, ↓isC.eq_3, ↓mMeth.eq_1, ↓insC.eq_1, ↓insC.eq_2, ↓insC.eq_3, ↓mProp.eq_1, ↓mFld.eq_1, ↓mOwn.eq_1, ↓mOwn.eq_2, ↓mOwnR.eq_1, ↓mOwnR.eq_2, ↓mCmpO.eq_1, ↓mCmpO.eq_2, ↓kNotM.eq_1, ↓kNotM.eq_2, ↓mNeO.eq_1, ↓mNeO.eq_2, ↓mNeR.eq_1, ↓mNeR.eq_2, ↓mOwnU.eq_1, ↓mOwnU.eq_2, ↓kBlM.eq_1, ↓kBlM.eq_2, ↓mTruO.eq_1, ↓mTruO.eq_2, ↓mBoolO.eq_1, ↓mBoolO.eq_2, ↓kStrM.eq_1, ↓kStrM.eq_2, ↓mStrO.eq_1, ↓mStrO.eq_2, ↓mII.eq_1, ↓mII.eq_2, ↓mII0.eq_1, ↓mII0.eq_2, ↓mNeg.eq_1, ↓mNeg.eq_2, ↓mAddS.eq_1, ↓mAddS.eq_2, ↓noneD.eq_1, ↓noneD.eq_2, ↓mIsN.eq_1, ↓mIsN.eq_2, ↓mNotN.eq_1, ↓mNotN.eq_2, ↓mIsB.eq_1, ↓mIsB.eq_2, ↓mInt.eq_1, ↓mInt.eq_2, ↓mInt.eq_3, ↓mIntS.eq_1, ↓mIntS.eq_2, ↓mAbs.eq_1, ↓mAbs.eq_2, ↓mLen.eq_1, ↓mLen.eq_2, ↓mLen.eq_3, ↓mListF.eq_1, ↓mListF.eq_2, ↓mListM.eq_1, ↓mListM.eq_2, ↓mTupF.eq_1, ↓mTupF.eq_2, ↓mTupF.eq_3, ↓mBool1.eq_1, ↓mBool1.eq_2, ↓mBool1.eq_3, ↓mStrI.eq_1, ↓mStrI.eq_2, ↓mIx.eq_1, ↓mIx.eq_2, ↓mIxS.eq_1, ↓mIxS.eq_2, ↓mSl.eq_1, ↓mSlL.eq_1, ↓mSlS.eq_1, ↓mSlS.eq_2, ↓oNone.eq_1, ↓oSome.eq_1, ↓seqD.eq_1, ↓seqD.eq_2, ↓seqD.eq_3, ↓seqD.eq_4, ↓seqD.eq_5, ↓lsD.eq_1, ↓lsD.eq_2, ↓lsD.eq_3, ↓lsD.eq_4, ↓mdD.eq_1, ↓mdD.eq_2, ↓mdD.eq_3, ↓mCatL.eq_1, ↓mRepL.eq_1, ↓mRepL.eq_2, ↓isT.eq_1, ↓isT.eq_2, ↓isT.eq_3, ↓isT.eq_4, ↓isT.eq_5, ↓isT.eq_6, ↓mBM.eq_1, ↓bAppend.eq_1, ↓bAppend.eq_2, ↓bSplit.eq_1, ↓bSplit.eq_2, ↓bStarts.eq_1, ↓bStarts.eq_2, ↓bJoin.eq_1, ↓bJoin.eq_2, ↓mFmt.eq_1, ↓sRaise.eq_1, ↓mXat.eq_1, ↓mDict0.eq_1, ↓mNotT.eq_1, ↓mIsi.eq_1, ↓mIsi.eq_2, ↓mIsi.eq_3, ↓tyI.eq_1, ↓tyI.eq_2, ↓tyD.eq_1, ↓tyD.eq_2, ↓tyD.eq_3, ↓tyD.eq_4, ↓tyD.eq_5, ↓tyD.eq_6, ↓tyD.eq_7, ↓tyD.eq_8, ↓tyD.eq_9, ↓tyD.eq_10, ↓tyD.eq_11, ↓clsD.eq_1, ↓clsD.eq_2, ↓clsD.eq_3, ↓clsDs.eq_1, ↓clsDs.eq_2, ↓needT.eq_1, ↓needT.eq_2, ↓needT.eq_3, ↓needT.eq_4, ↓mHeard.eq_1, ↓mAsk.eq_1, ↓sTry.eq_1, ↓sFrz.eq_1, List.getElem?_cons_zero, List.getElem?_cons_succ, List.getElem?_nil, List.set_cons_zero, List.set_cons_succ, List.set_nil, List.length_cons, List.length_nil, List.map_cons, List.map_nil, List.cons_append, List.nil_append, List.append_nil, List.replicate_zero, List.replicate_succ, List.zip_cons_cons, List.zip_nil_left, List.zip_nil_right, Nat.reduceAdd, Nat.reduceSub, Nat.reduceEqDiff, Nat.reduceLT, Nat.reduceLeDiff, Nat.zero_add, Nat.add_zero, Bool.not_true, Bool.not_false, Bool.not_not, true_and, and_true, false_and, and_false, true_or, or_true, false_or, or_false, if_true, if_false, ite_true, ite_false, Bool.false_eq_true, reduceIte, reduceCtorEq, eq_self_iff_true, and_self, or_self, put_same, del_same, decide_true, decide_false, String.reduceEq, List.mem_cons, List.not_mem_nil, Int.reduceNeg, Int.reduceEq, Int.reduceLT, ne_eq, not_true_eq_false, not_false_eq_true, Z.kit_NoneType_int, Z.kit_bool_int, Z.kit_dict_int, Z.kit_int_int, Z.kit_list_int, Z.kit_str_int, Z.kit_tuple_int, Z.cls_Words, Z.cls_Words.cls, Z.kit_Words_int, Z.cls_Ratio, Z.cls_Ratio.cls, Z.kit_Ratio_int, Z.cls_Rounding, Z.cls_Rounding.cls, Z.kit_Rounding_int, Z.kit_NoneType_bool, Z.kit_bool_bool, Z.kit_dict_bool, Z.kit_int_bool, Z.kit_list_bool, Z.kit_str_bool, Z.kit_tuple_bool, Z.kit_Words_bool, Z.kit_Ratio_bool, Z.kit_Rounding_bool, Z.no_Ratio_over, Z.no_Ratio_under, Z.kit_NoneType_Ratio, Z.kit_bool_Ratio, Z.kit_dict_Ratio, Z.kit_int_Ratio, Z.kit_list_Ratio, Z.kit_str_Ratio, Z.kit_tuple_Ratio, Z.kit_Words_Ratio, Z.kit_Ratio_Ratio, Z.kit_Rounding_Ratio, Z.no_Rounding_threshold, Z.no_Rounding_is_from, lkF_self, asR_rat, toQ_rat, anyD_non, anyD_bl, anyD_int, anyD_str, anyD_tup, anyD_lst, anyD_wls, anyD_dict, isIntD_non, isIntD_bl, isIntD_int, isIntD_str, isIntD_tup, isIntD_lst, isIntD_wls, isIntD_dict, isNumD_non, isNumD_bl, isNumD_int, isNumD_str, isNumD_tup, isNumD_lst, isNumD_wls, isNumD_dict, toQ_non, toQ_bl, toQ_int, toQ_str, toQ_tup, toQ_lst, toQ_wls, toQ_dict, yOk_non, yOk_bl, yOk_int, yOk_str, yOk_tup, yOk_lst, yOk_wls, yOk_dict, cOk_non, cOk_bl, cOk_int, cOk_str, cOk_tup, cOk_lst, cOk_wls, cOk_dict, oddD, yOk_ins, cOk_ins, anyD_ins, isIntD_ins, isNumD_ins, BEq.rfl, mEqD_ii, mNeD_ii, mEqD_insL, mNeD_insL, mEqD_insR, mNeD_insR, asRd_rnd, put_put, Bool.false_or, Bool.or_false, Bool.or_true, Bool.true_or, Bool.and_true, Bool.true_and, Bool.and_false, Bool.false_and, Option.map_some, decide_eq_true_eq, lk_Ratio_over, pt_Ratio_over, lk_Ratio_under, pt_Ratio_under, nf_Ratio_divided, nf_Ratio_floor, lk_Words_all_words, pt_Words_all_words, lk_Words_taken, pt_Words_taken, lk_Rounding_threshold, pt_Rounding_threshold, lk_Rounding_is_from, pt_Rounding_is_from, nf_Rounding_stepped, nf_Rounding_is_step, nf_Rounding_before, nf_Rounding_behind, nf_Rounding_places, ↓c__law_pen.eq_1, ↓c__law_pen.eq_2, ↓c__law_draw.eq_1, ↓c__law_draw.eq_2, ↓c__law_pick.eq_1, ↓c__law_pick.eq_2, ↓c__law_frac.eq_1, ↓c__law_frac.eq_2, ↓c__law_number.eq_1, ↓c__law_number.eq_2, ↓c__law_kind.eq_1, ↓c__law_kind.eq_2, ↓c_is_integer.eq_1, ↓c_is_integer.eq_2, ↓c_divisor.eq_1, ↓c_divisor.eq_2, ↓c_new_Ratio.eq_1, ↓c_new_Ratio.eq_2, ↓c_new_Ratio.eq_3, ↓c_new_Ratio.eq_4, ↓c_is_number.eq_1, ↓c_is_number.eq_2, ↓c_Ratio_of.eq_1, ↓c_Ratio_of.eq_2, ↓c_Ratio___lt__.eq_1, ↓c_Ratio___lt__.eq_2, ↓c_Ratio___ge__.eq_1, ↓c_Ratio___ge__.eq_2, ↓c_Ratio___gt__.eq_1, ↓c_Ratio___gt__.eq_2, ↓c_Ratio___le__.eq_1, ↓c_Ratio___le__.eq_2, ↓c_is_same.eq_1, ↓c_is_same.eq_2, ↓c_Ratio___eq__.eq_1, ↓c_Ratio___eq__.eq_2, ↓c_Ratio___bool__.eq_1, ↓c_Ratio___bool__.eq_2, ↓c_new_Rounding.eq_1, ↓c_new_Rounding.eq_2, ↓c__law_rounding.eq_1, ↓c__law_rounding.eq_2, ↓c_Ratio___add__.eq_1, ↓c_Ratio___add__.eq_2, ↓c_need_number.eq_1, ↓c_need_number.eq_2, ↓c_Rounding_stepped.eq_1, ↓c_Rounding_stepped.eq_2, ↓c_Rounding___call__.eq_1, ↓c_Rounding___call__.eq_2, ↓c_Ratio___neg__.eq_1, ↓c_Ratio___neg__.eq_2, ↓c_Ratio___sub__.eq_1, ↓c_Ratio___sub__.eq_2, ↓c_Ratio_divided.eq_1, ↓c_Ratio_divided.eq_2, ↓c_Ratio_floor.eq_1, ↓c_Ratio_floor.eq_2, ↓c_Ratio___floordiv__.eq_1, ↓c_Ratio___floordiv__.eq_2, ↓c_Ratio___mul__.eq_1, ↓c_Ratio___mul__.eq_2, ↓c_Ratio___mod__.eq_1, ↓c_Ratio___mod__.eq_2, ↓c_Rounding_is_step.eq_1, ↓c_Rounding_is_step.eq_2, ↓c_Rounding_behind.eq_1, ↓c_Rounding_behind.eq_2, ↓c_Rounding_before.eq_1, ↓c_Rounding_before.eq_2, ↓c_Rounding_places.eq_1, ↓c_Rounding_places.eq_2, ↓c__law_right.eq_1, ↓c__law_right.eq_2, ↓c_law.eq_1, ↓c_law.eq_2])
set_option hygiene false in
local macro_rules | `(tactic| simp_arith [$ts,*]) => `(tactic| simp (config := {decide := false}) only [↓mEqW.eq_1, ↓mNeW.eq_1, ↓mFmtO.eq_1, ↓mCallP.eq_1, ↓mMethP.eq_1, ↓mCMethP.eq_1, ↓mCallO.eq_1, ↓mMakeP.eq_1, ↓bArgs.eq_1, ↓selA.eq_1, ↓selA.eq_2, ↓selA.eq_3, ↓selA.eq_4, ↓mSorted.eq_1, Option.getD_some, Option.getD_none, ↓mLc.eq_1, ↓goLc.eq_1, ↓goLc.eq_2, ↓wipeM.eq_1, ↓wipeM.eq_2, ↓bodyM.eq_1, ↓mVar.eq_1, ↓mC.eq_1, ↓mOp.eq_1, ↓mTest.eq_1, ↓mChain.eq_1, ↓mUn.eq_1, ↓mTru.eq_1, ↓dTru.eq_1, ↓dTru.eq_2, ↓dTru.eq_3, ↓dTru.eq_4, ↓dTru.eq_5, ↓dTru.eq_6, ↓dTru.eq_7, ↓dTru.eq_8, ↓dTru.eq_9, ↓dTru.eq_10, ↓mTr.eq_1, ↓mAnd.eq_1, ↓mOr.eq_1, ↓mNot.eq_1, ↓mAndV.eq_1, ↓mOrV.eq_1, ↓mNotV.eq_1, ↓mIf.eq_1, ↓mNil.eq_1, ↓mCons.eq_1, ↓mTup.eq_1, ↓mLst.eq_1, ↓mLstM.eq_1, ↓mAlt.eq_1, ↓uAlt.eq_1, ↓tAlt.eq_1, ↓fAlt.eq_1, ↓eAlt.eq_1, ↓lAlt.eq_1, ↓bAlt.eq_1, ↓gmName.eq_1, ↓gmNil.eq_1, ↓gmNil.eq_2, ↓gmCons.eq_1, ↓gmCons.eq_2, ↓gmTup.eq_1, ↓gmTup.eq_2, ↓gmSub.eq_1, ↓mSetL.eq_1, ↓mSetL.eq_2, ↓sNext.eq_1, ↓sSeq.eq_1, ↓sBreak.eq_1, ↓sCont.eq_1, ↓sExpr.eq_1, ↓sRet.eq_1, ↓sRetN.eq_1, ↓sIf.eq_1, ↓sSet.eq_1, ↓sAsg.eq_1, ↓sPar.eq_1, ↓sPar3.eq_1, ↓sAug.eq_1, ↓sFldM.eq_1, ↓sFldAugM.eq_1, ↓sFor.eq_1, ↓iLs.eq_1, ↓iTupM.eq_1, ↓iRange1.eq_1, ↓mCall.eq_1, ↓isC.eq_1, ↓isC.eq_2, ↓isC.eq_3, ↓mMeth.eq_1, ↓insC.eq_1, ↓insC.eq_2, ↓insC.eq_3, ↓mProp.eq_1, ↓mFld.eq_1, ↓mOwn.eq_1, ↓mOwn.eq_2, ↓mOwnR.eq_1, ↓mOwnR.eq_2, ↓mCmpO.eq_1, ↓mCmpO.eq_2, ↓kNotM.eq_1, ↓kNotM.eq_2, ↓mNeO.eq_1, ↓mNeO.eq_2, ↓mNeR.eq_1, ↓mNeR.eq_2, ↓mOwnU.eq_1, ↓mOwnU.eq_2, ↓kBlM.eq_1, ↓kBlM.eq_2, ↓mTruO.eq_1, ↓mTruO.eq_2, ↓mBoolO.eq_1, ↓mBoolO.eq_2, ↓kStrM.eq_1, ↓kStrM.eq_2, ↓mStrO.eq_1, ↓mStrO.eq_2, ↓mII.eq_1, ↓mII.eq_2, ↓mII0.eq_1, ↓mII0.eq_2, ↓mNeg.eq_1, ↓mNeg.eq_2, ↓mAddS.eq_1, ↓mAddS.eq_2, ↓noneD.eq_1, ↓noneD.eq_2, ↓mIsN.eq_1, ↓mIsN.eq_2, ↓mNotN.eq_1, ↓mNotN.eq_2, ↓mIsB.eq_1, ↓mIsB.eq_2, ↓mInt.eq_1, ↓mInt.eq_2, ↓mInt.eq_3, ↓mIntS.eq_1, ↓mIntS.eq_2, ↓mAbs.eq_1, ↓mAbs.eq_2, ↓mLen.eq_1, ↓mLen.eq_2, ↓mLen.eq_3, ↓mListF.eq_1, ↓mListF.eq_2, ↓mListM.eq_1, ↓mListM.eq_2, ↓mTupF.eq_1, ↓mTupF.eq_2, ↓mTupF.eq_3, ↓mBool1.eq_1, ↓mBool1.eq_2, ↓mBool1.eq_3, ↓mStrI.eq_1, ↓mStrI.eq_2, ↓mIx.eq_1, ↓mIx.eq_2, ↓mIxS.eq_1, ↓mIxS.eq_2, ↓mSl.eq_1, ↓mSlL.eq_1, ↓mSlS.eq_1, ↓mSlS.eq_2, ↓oNone.eq_1, ↓oSome.eq_1, ↓seqD.eq_1, ↓seqD.eq_2, ↓seqD.eq_3, ↓seqD.eq_4, ↓seqD.eq_5, ↓lsD.eq_1, ↓lsD.eq_2, ↓lsD.eq_3, ↓lsD.eq_4, ↓mdD.eq_1, ↓mdD.eq_2, ↓mdD.eq_3, ↓mCatL.eq_1, ↓mRepL.eq_1, ↓mRepL.eq_2, ↓isT.eq_1, ↓isT.eq_2, ↓isT.eq_3, ↓isT.eq_4, ↓isT.eq_5, ↓isT.eq_6, ↓mBM.eq_1, ↓bAppend.eq_1, ↓bAppend.eq_2, ↓bSplit.eq_1, ↓bSplit.eq_2, ↓bStarts.eq_1, ↓bStarts.eq_2, ↓bJoin.eq_1, ↓bJoin.eq_2, ↓mFmt.eq_1, ↓sRaise.eq_1, ↓mXat.eq_1, ↓mDict0.eq_1, ↓mNotT.eq_1, ↓mIsi.eq_1, ↓mIsi.eq_2, ↓mIsi.eq_3, ↓tyI.eq_1, ↓tyI.eq_2, ↓tyD.eq_1, ↓tyD.eq_2, ↓tyD.eq_3, ↓tyD.eq_4, ↓tyD.eq_5, ↓tyD.eq_6, ↓tyD.eq_7, ↓tyD.eq_8, ↓tyD.eq_9, ↓tyD.eq_10, ↓tyD.eq_11, ↓clsD.eq_1, ↓clsD.eq_2, ↓clsD.eq_3, ↓clsDs.eq_1, ↓clsDs.eq_2, ↓needT.eq_1, ↓needT.eq_2, ↓needT.eq_3, ↓needT.eq_4, ↓mHeard.eq_1, ↓mAsk.eq_1, ↓sTry.eq_1, ↓sFrz.eq_1, List.getElem?_cons_zero, List.getElem?_cons_succ, List.getElem?_nil, List.set_cons_zero, List.set_cons_succ, List.set_nil, List.length_cons, List.length_nil, List.map_cons, List.map_nil, List.cons_append, List.nil_append, List.append_nil, List.replicate_zero, List.replicate_succ, List.zip_cons_cons, List.zip_nil_left, List.zip_nil_right, Nat.reduceAdd, Nat.reduceSub, Nat.reduceEqDiff, Nat.reduceLT, Nat.reduceLeDiff, Nat.zero_add, Nat.add_zero, Bool.not_true, Bool.not_false, Bool.not_not, true_and, and_true, false_and, and_false, true_or, or_true, false_or, or_false, if_true, if_false, ite_true, ite_false, Bool.false_eq_true, reduceIte, reduceCtorEq, eq_self_iff_true, and_self, or_self, put_same, del_same, decide_true, decide_false, String.reduceEq, List.mem_cons, List.not_mem_nil, Int.reduceNeg, Int.reduceEq, Int.reduceLT, ne_eq, not_true_eq_false, not_false_eq_true, Z.kit_NoneType_int, Z.kit_bool_int, Z.kit_dict_int, Z.kit_int_int, Z.kit_list_int, Z.kit_str_int, Z.kit_tuple_int, Z.cls_Words, Z.cls_Words.cls, Z.kit_Words_int, Z.cls_Ratio, Z.cls_Ratio.cls, Z.kit_Ratio_int, Z.cls_Rounding, Z.cls_Rounding.cls, Z.kit_Rounding_int, Z.kit_NoneType_bool, Z.kit_bool_bool, Z.kit_dict_bool, Z.kit_int_bool, Z.kit_list_bool, Z.kit_str_bool, Z.kit_tuple_bool, Z.kit_Words_bool, Z.kit_Ratio_bool, Z.kit_Rounding_bool, Z.no_Ratio_over, Z.no_Ratio_under, Z.kit_NoneType_Ratio, Z.kit_bool_Ratio, Z.kit_dict_Ratio, Z.kit_int_Ratio, Z.kit_list_Ratio, Z.kit_str_Ratio, Z.kit_tuple_Ratio, Z.kit_Words_Ratio, Z.kit_Ratio_Ratio, Z.kit_Rounding_Ratio, Z.no_Rounding_threshold, Z.no_Rounding_is_from, lkF_self, asR_rat, toQ_rat, anyD_non, anyD_bl, anyD_int, anyD_str, anyD_tup, anyD_lst, anyD_wls, anyD_dict, isIntD_non, isIntD_bl, isIntD_int, isIntD_str, isIntD_tup, isIntD_lst, isIntD_wls, isIntD_dict, isNumD_non, isNumD_bl, isNumD_int, isNumD_str, isNumD_tup, isNumD_lst, isNumD_wls, isNumD_dict, toQ_non, toQ_bl, toQ_int, toQ_str, toQ_tup, toQ_lst, toQ_wls, toQ_dict, yOk_non, yOk_bl, yOk_int, yOk_str, yOk_tup, yOk_lst, yOk_wls, yOk_dict, cOk_non, cOk_bl, cOk_int, cOk_str, cOk_tup, cOk_lst, cOk_wls, cOk_dict, oddD, yOk_ins, cOk_ins, anyD_ins, isIntD_ins, isNumD_ins, BEq.rfl, mEqD_ii, mNeD_ii, mEqD_insL, mNeD_insL, mEqD_insR, mNeD_insR, asRd_rnd, put_put, Bool.false_or, Bool.or_false, Bool.or_true, Bool.true_or, Bool.and_true, Bool.true_and, Bool.and_false, Bool.false_and, Option.map_some, decide_eq_true_eq, lk_Ratio_over, pt_Ratio_over, lk_Ratio_under, pt_Ratio_under, nf_Ratio_divided, nf_Ratio_floor, lk_Words_all_words, pt_Words_all_words, lk_Words_taken, pt_Words_taken, lk_Rounding_threshold, pt_Rounding_threshold, lk_Rounding_is_from, pt_Rounding_is_from, nf_Rounding_stepped, nf_Rounding_is_step, nf_Rounding_before, nf_Rounding_behind, nf_Rounding_places, ↓c__law_pen.eq_1, ↓c__law_pen.eq_2, ↓c__law_draw.eq_1, ↓c__law_draw.eq_2, ↓c__law_pick.eq_1, ↓c__law_pick.eq_2, ↓c__law_frac.eq_1, ↓c__law_frac.eq_2, ↓c__law_number.eq_1, ↓c__law_number.eq_2, ↓c__law_kind.eq_1, ↓c__law_kind.eq_2, ↓c_is_integer.eq_1, ↓c_is_integer.eq_2, ↓c_divisor.eq_1, ↓c_divisor.eq_2, ↓c_new_Ratio.eq_1, ↓c_new_Ratio.eq_2, ↓c_new_Ratio.eq_3, ↓c_new_Ratio.eq_4, ↓c_is_number.eq_1, ↓c_is_number.eq_2, ↓c_Ratio_of.eq_1, ↓c_Ratio_of.eq_2, ↓c_Ratio___lt__.eq_1, ↓c_Ratio___lt__.eq_2, ↓c_Ratio___ge__.eq_1, ↓c_Ratio___ge__.eq_2, ↓c_Ratio___gt__.eq_1, ↓c_Ratio___gt__.eq_2, ↓c_Ratio___le__.eq_1, ↓c_Ratio___le__.eq_2, ↓c_is_same.eq_1, ↓c_is_same.eq_2, ↓c_Ratio___eq__.eq_1, ↓c_Ratio___eq__.eq_2, ↓c_Ratio___bool__.eq_1, ↓c_Ratio___bool__.eq_2, ↓c_new_Rounding.eq_1, ↓c_new_Rounding.eq_2, ↓c__law_rounding.eq_1, ↓c__law_rounding.eq_2, ↓c_Ratio___add__.eq_1, ↓c_Ratio___add__.eq_2, ↓c_need_number.eq_1, ↓c_need_number.eq_2, ↓c_Rounding_stepped.eq_1, ↓c_Rounding_stepped.eq_2, ↓c_Rounding___call__.eq_1, ↓c_Rounding___call__.eq_2, ↓c_Ratio___neg__.eq_1, ↓c_Ratio___neg__.eq_2, ↓c_Ratio___sub__.eq_1, ↓c_Ratio___sub__.eq_2, ↓c_Ratio_divided.eq_1, ↓c_Ratio_divided.eq_2, ↓c_Ratio_floor.eq_1, ↓c_Ratio_floor.eq_2, ↓c_Ratio___floordiv__.eq_1, ↓c_Ratio___floordiv__.eq_2, ↓c_Ratio___mul__.eq_1, ↓c_Ratio___mul__.eq_2, ↓c_Ratio___mod__.eq_1, ↓c_Ratio___mod__.eq_2, ↓c_Rounding_is_step.eq_1, ↓c_Rounding_is_step.eq_2, ↓c_Rounding_behind.eq_1, ↓c_Rounding_behind.eq_2, ↓c_Rounding_before.eq_1, ↓c_Rounding_before.eq_2, ↓c_Rounding_places.eq_1, ↓c_Rounding_places.eq_2, ↓c__law_right.eq_1, ↓c__law_right.eq_2, ↓c_law.eq_1, ↓c_law.eq_2, $ts,*])
section
variable {P : Program} {w : World} {K : PySem.W.Frag} {mg : Str → Option Value} {base : Heap}
/-! Ratio.__sub__ -/
def b_Ratio___sub__ (K : PySem.W.Frag) : FS :=
    (sRet (mOp (mOwn "Ratio" (c_Ratio___add__ K)) (mVar 0) (mUn (mOwnU "Ratio" (c_Ratio___neg__ K)) (mCall (c_Ratio_of K) [] (mCons (mVar 1) mNil)))))
def m_Ratio___sub__ (K : PySem.W.Frag) : FM := bodyM 2 2 (b_Ratio___sub__ K)
theorem cl_Ratio___sub__ (Z : Zf P w K mg) {ds : List D} {μ : MS} {Q : D → MS → Prop} {X : MX} (h : c_Ratio___sub__ K ds μ Q X) : m_Ratio___sub__ K ds μ Q X := by
  unfold c_Ratio___sub__ at h
  split at h
  · rename_i d1 d2
    split at h
    · rename_i x y e1 e2
      cases asR_of e1
      unfold m_Ratio___sub__ b_Ratio___sub__
      obtain ⟨s1, s2, h⟩ := h
      simp_arith [e2]
      rw [← Rat.sub_eq_add_neg]
      exact ⟨s2, s1, s2.neg, h⟩
    · rename_i x e1 e2
      cases asR_of e1
      unfold m_Ratio___sub__ b_Ratio___sub__
      simp_arith [e2, h.1.1, h.1.2]
      exact h.2
    · exact h.elim
  · exact h.elim
theorem fo_Ratio___sub__ {fd : FuncData} (M : MT mg K) (Z : Zf P w K mg) (D_Ratio___add__ : DnM P w K mg base (Tt K) 5 (a_Ratio___add__ K) ["self", "other"] [] (c_Ratio___add__ K)) (D_Ratio___neg__ : DnM P w K mg base (Tt K) 4 (a_Ratio___neg__ K) ["self"] [] (c_Ratio___neg__ K)) (D_Ratio_of : DnM P w K mg base (Tt K) 4 (a_Ratio_of K) ["value"] [] (c_Ratio_of K)) (F : FnP K d_Ratio___sub__ fd) :
    FnOk P w K mg base (L2.CX P w) 6 (a_Ratio___sub__ K) fd ["self", "other"] (spF K (Tt K) (c_Ratio___sub__ K)) :=
  FnOk.impM (fnM (b := b_Ratio___sub__ K) F sc_Ratio___sub__ (fun cdv A outer s H E hr =>
    (pssm_one (psm_ret (pm_op (opm_own Z.opc_Ratio_add Z.ots_Ratio_add D_Ratio___add__ (hr.mono (by decide)) passX) (pmv 0) (pm_un (neg_own Z.cm_Ratio___neg__ D_Ratio___neg__ (hr.mono (by decide)) passX) (pm_smeth (c := "Ratio") (dv := []) (dd := []) (pe_glob (v := .ref (ca K "Ratio")) rfl M.g_Ratio rfl) Z.cr_Ratio Z.sm_Ratio_of D_Ratio_of 0 (hr.mono (by decide)) passX (pam_cons (pmv 1) pam_nil) (fun _ => .nil)))))))) (fun ds μ Q X h => cl_Ratio___sub__ Z h)
theorem ok_Ratio___sub__ {fd : FuncData} (M : MT mg K) (Z : Zf P w K mg) (D_Ratio___add__ : DnM P w K mg base (Tt K) 5 (a_Ratio___add__ K) ["self", "other"] [] (c_Ratio___add__ K)) (D_Ratio___neg__ : DnM P w K mg base (Tt K) 4 (a_Ratio___neg__ K) ["self"] [] (c_Ratio___neg__ K)) (D_Ratio_of : DnM P w K mg base (Tt K) 4 (a_Ratio_of K) ["value"] [] (c_Ratio_of K)) (F : FnP K d_Ratio___sub__ fd) :
    DnM P w K mg base (Tt K) 6 (a_Ratio___sub__ K) ["self", "other"] [] (c_Ratio___sub__ K) :=
  dn_mk F rfl (fun _ _ _ _ _ _ us hl => match us, hl with | [_, _], _ => rfl) (fo_Ratio___sub__ M Z D_Ratio___add__ D_Ratio___neg__ D_Ratio_of F)
/-! Ratio.divided -/
def b_Ratio_divided (K : PySem.W.Frag) : FS :=
    (sSeq (sSet 2 (mCall (c_Ratio_of K) [] (mCons (mVar 1) mNil)))
    (sSeq (sIf (mTest (mOp mEqD (mFld K (mVar 2) "over") (mC (.int 0))))
      (sRaise "BadRatio" ["value"] (mCons (mVar 1) mNil))
      sNext)
    (sRet (mCall (c_new_Ratio K) [] (mCons (mOp mMul (mFld K (mVar 0) "over") (mFld K (mVar 2) "under")) (mCons (mOp mMul (mFld K (mVar 0) "under") (mFld K (mVar 2) "over")) mNil))))))
def m_Ratio_divided (K : PySem.W.Frag) : FM := bodyM 2 3 (b_Ratio_divided K)
theorem cl_Ratio_divided (Z : Zf P w K mg) {ds : List D} {μ : MS} {Q : D → MS → Prop} {X : MX} (h : c_Ratio_divided K ds μ Q X) : m_Ratio_divided K ds μ Q X := by
  unfold c_Ratio_divided at h
  split at h
  · rename_i d1 d2
    split at h
    · rename_i x y e1 e2
      cases asR_of e1
      unfold m_Ratio_divided b_Ratio_divided
      simp_arith [e2]
      by_cases hy : y = 0
      · rw [if_pos hy] at h
        rw [if_pos (Rat.num_eq_zero.mpr hy)]
        exact h
      · rw [if_neg hy] at h
        obtain ⟨s1, s2, h⟩ := h
        rw [if_neg (num_ne hy), if_neg (dn_ne x hy), ← div_frac x y hy]
        exact ⟨cmND s1 s2, cmDN s1 s2, dnlt s1 s2, h⟩
    · rename_i x e1 e2
      cases asR_of e1
      unfold m_Ratio_divided b_Ratio_divided
      simp_arith [e2, h.1.1, h.1.2]
      exact h.2
    · exact h.elim
  · exact h.elim
theorem fo_Ratio_divided {fd : FuncData} (M : MT mg K) (Z : Zf P w K mg) (D_Ratio___init__ : DnM P w K mg base (Tt K) 2 (a_Ratio___init__ K) ["self", "over", "under"] [.int 1] (c_Ratio___init__ K)) (D_Ratio_of : DnM P w K mg base (Tt K) 4 (a_Ratio_of K) ["value"] [] (c_Ratio_of K)) (F : FnP K d_Ratio_divided fd) :
    FnOk P w K mg base (L2.CX P w) 5 (a_Ratio_divided K) fd ["self", "other"] (spF K (Tt K) (c_Ratio_divided K)) :=
  FnOk.impM (fnM (b := b_Ratio_divided K) F sc_Ratio_divided (fun cdv A outer s H E hr =>
    (pssm_cons (psm_set (i := 2) sc_Ratio_divided.nd rfl (Or.inl rfl) (pm_smeth (c := "Ratio") (dv := []) (dd := []) (pe_glob (v := .ref (ca K "Ratio")) rfl M.g_Ratio rfl) Z.cr_Ratio Z.sm_Ratio_of D_Ratio_of 0 (hr.mono (by decide)) passX (pam_cons (pmv 1) pam_nil) (fun _ => .nil)))
    (pssm_cons (psm_if (ptm_cmp (o_eqD hr.units) (pm_fld (pmv 2) (by rfl)) pm_int (nomark _))
      (pssm_one (psm_raise (c := "BadRatio") (names := ["value"]) (by rfl) takeX Z.err_BadRatio hr rfl M.g_BadRatio (pam_cons (pmv 1) pam_nil)))
      pssm_nil)
    (pssm_one (psm_ret (pm_make (c := "Ratio") (gM := c_new_Ratio K) (dv := []) (dd := []) ⟨Z.mkr_Ratio, D_Ratio___init__⟩ 1 (hr.mono (by decide)) rfl M.g_Ratio passX (new_Ratio Z) (pam_cons (pm_op o_mul (pm_fld (pmv 0) (by rfl)) (pm_fld (pmv 2) (by rfl))) (pam_cons (pm_op o_mul (pm_fld (pmv 0) (by rfl)) (pm_fld (pmv 2) (by rfl))) pam_nil)) (fun _ => .nil)))))))) (fun ds μ Q X h => cl_Ratio_divided Z h)
theorem ok_Ratio_divided {fd : FuncData} (M : MT mg K) (Z : Zf P w K mg) (D_Ratio___init__ : DnM P w K mg base (Tt K) 2 (a_Ratio___init__ K) ["self", "over", "under"] [.int 1] (c_Ratio___init__ K)) (D_Ratio_of : DnM P w K mg base (Tt K) 4 (a_Ratio_of K) ["value"] [] (c_Ratio_of K)) (F : FnP K d_Ratio_divided fd) :
    DnM P w K mg base (Tt K) 5 (a_Ratio_divided K) ["self", "other"] [] (c_Ratio_divided K) :=
  dn_mk F rfl (fun _ _ _ _ _ _ us hl => match us, hl with | [_, _], _ => rfl) (fo_Ratio_divided M Z D_Ratio___init__ D_Ratio_of F)
/-! Ratio.floor -/
def b_Ratio_floor (K : PySem.W.Frag) : FS :=
    (sRet (mOp mFdiv (mFld K (mVar 0) "over") (mFld K (mVar 0) "under")))
def m_Ratio_floor (K : PySem.W.Frag) : FM := bodyM 1 1 (b_Ratio_floor K)
theorem cl_Ratio_floor (Z : Zf P w K mg) {ds : List D} {μ : MS} {Q : D → MS → Prop} {X : MX} (h : c_Ratio_floor K ds μ Q X) : m_Ratio_floor K ds μ Q X := by
  unfold c_Ratio_floor at h
  split at h
  · rename_i d1
    split at h
    · rename_i x e1
      cases asR_of e1
      unfold m_Ratio_floor b_Ratio_floor
      obtain ⟨s, h⟩ := h
      simp_arith []
      rw [floor_fdiv]
      exact ⟨⟨den_neI x, den_log s⟩, h⟩
    · exact h.elim
  · exact h.elim
theorem fo_Ratio_floor {fd : FuncData} (M : MT mg K) (Z : Zf P w K mg) (F : FnP K d_Ratio_floor fd) :
    FnOk P w K mg base (L2.CX P w) 1 (a_Ratio_floor K) fd ["self"] (spF K (Tt K) (c_Ratio_floor K)) :=
  FnOk.impM (fnM (b := b_Ratio_floor K) F sc_Ratio_floor (fun cdv A outer s H E hr =>
    (pssm_one (psm_ret (pm_op o_fdiv (pm_fld (pmv 0) (by rfl)) (pm_fld (pmv 0) (by rfl))))))) (fun ds μ Q X h => cl_Ratio_floor Z h)
theorem ok_Ratio_floor {fd : FuncData} (M : MT mg K) (Z : Zf P w K mg) (F : FnP K d_Ratio_floor fd) :
    DnM P w K mg base (Tt K) 1 (a_Ratio_floor K) ["self"] [] (c_Ratio_floor K) :=
  dn_mk F rfl (fun _ _ _ _ _ _ us hl => match us, hl with | [_], _ => rfl) (fo_Ratio_floor M Z  F)
/-! Ratio.__floordiv__ -/
def b_Ratio___floordiv__ (K : PySem.W.Frag) : FS :=
    (sRet (mMeth "Ratio" "floor" (c_Ratio_floor K) [] (mMeth "Ratio" "divided" (c_Ratio_divided K) [] (mVar 0) (mCons (mVar 1) mNil)) mNil))
def m_Ratio___floordiv__ (K : PySem.W.Frag) : FM := bodyM 2 2 (b_Ratio___floordiv__ K)
theorem cl_Ratio___floordiv__ (Z : Zf P w K mg) {ds : List D} {μ : MS} {Q : D → MS → Prop} {X : MX} (h : c_Ratio___floordiv__ K ds μ Q X) : m_Ratio___floordiv__ K ds μ Q X := by
  unfold c_Ratio___floordiv__ at h
  split at h
  · rename_i d1 d2
    split at h
    · rename_i x y e1 e2
      cases asR_of e1
      unfold m_Ratio___floordiv__ b_Ratio___floordiv__
      simp_arith [e2]
      by_cases hy : y = 0
      · rw [if_pos hy] at h ⊢
        exact h
      · rw [if_neg hy] at h ⊢
        obtain ⟨s1, s2, h⟩ := h
        exact ⟨s1, s2, (s1.div s2 hy).up (by decide), h⟩
    · rename_i x e1 e2
      cases asR_of e1
      unfold m_Ratio___floordiv__ b_Ratio___floordiv__
      simp_arith [e2, h.1.1, h.1.2]
      exact h.2
    · exact h.elim
  · exact h.elim
theorem fo_Ratio___floordiv__ {fd : FuncData} (M : MT mg K) (Z : Zf P w K mg) (D_Ratio_divided : DnM P w K mg base (Tt K) 5 (a_Ratio_divided K) ["self", "other"] [] (c_Ratio_divided K)) (D_Ratio_floor : DnM P w K mg base (Tt K) 1 (a_Ratio_floor K) ["self"] [] (c_Ratio_floor K)) (F : FnP K d_Ratio___floordiv__ fd) :
    FnOk P w K mg base (L2.CX P w) 6 (a_Ratio___floordiv__ K) fd ["self", "other"] (spF K (Tt K) (c_Ratio___floordiv__ K)) :=
  FnOk.impM (fnM (b := b_Ratio___floordiv__ K) F sc_Ratio___floordiv__ (fun cdv A outer s H E hr =>
    (pssm_one (psm_ret (pm_meth0 (c := "Ratio") (dd := []) (pm_meth (c := "Ratio") (dv := []) (dd := []) (pmv 0) Z.cls_Ratio.cls Z.mt_Ratio_divided D_Ratio_divided 0 (hr.mono (by decide)) passX (pam_cons (pmv 1) pam_nil) (fun _ => .nil)) Z.cls_Ratio.cls Z.mt_Ratio_floor D_Ratio_floor (hr.mono (by decide)) passX (fun _ => .nil)))))) (fun ds μ Q X h => cl_Ratio___floordiv__ Z h)
theorem ok_Ratio___floordiv__ {fd : FuncData} (M : MT mg K) (Z : Zf P w K mg) (D_Ratio_divided : DnM P w K mg base (Tt K) 5 (a_Ratio_divided K) ["self", "other"] [] (c_Ratio_divided K)) (D_Ratio_floor : DnM P w K mg base (Tt K) 1 (a_Ratio_floor K) ["self"] [] (c_Ratio_floor K)) (F : FnP K d_Ratio___floordiv__ fd) :
    DnM P w K mg base (Tt K) 6 (a_Ratio___floordiv__ K) ["self", "other"] [] (c_Ratio___floordiv__ K) :=
  dn_mk F rfl (fun _ _ _ _ _ _ us hl => match us, hl with | [_, _], _ => rfl) (fo_Ratio___floordiv__ M Z D_Ratio_divided D_Ratio_floor F)
/-! Ratio.__mul__ -/
def b_Ratio___mul__ (K : PySem.W.Frag) : FS :=
    (sSeq (sSet 2 (mCall (c_Ratio_of K) [] (mCons (mVar 1) mNil)))
    (sRet (mCall (c_new_Ratio K) [] (mCons (mOp mMul (mFld K (mVar 0) "over") (mFld K (mVar 2) "over")) (mCons (mOp mMul (mFld K (mVar 0) "under") (mFld K (mVar 2) "under")) mNil)))))
def m_Ratio___mul__ (K : PySem.W.Frag) : FM := bodyM 2 3 (b_Ratio___mul__ K)
theorem cl_Ratio___mul__ (Z : Zf P w K mg) {ds : List D} {μ : MS} {Q : D → MS → Prop} {X : MX} (h : c_Ratio___mul__ K ds μ Q X) : m_Ratio___mul__ K ds μ Q X := by
  unfold c_Ratio___mul__ at h
  split at h
  · rename_i d1 d2
    split at h
    · rename_i x y e1 e2
      cases asR_of e1
      unfold m_Ratio___mul__ b_Ratio___mul__
      obtain ⟨s1, s2, h⟩ := h
      simp_arith [e2]
      rw [if_neg (dd_ne x y), ← mul_frac]
      exact ⟨cmNN s1 s2, cmDD s1 s2, ddlt s1 s2, h⟩
    · rename_i x e1 e2
      cases asR_of e1
      unfold m_Ratio___mul__ b_Ratio___mul__
      simp_arith [e2, h.1.1, h.1.2]
      exact h.2
    · exact h.elim
  · exact h.elim
theorem fo_Ratio___mul__ {fd : FuncData} (M : MT mg K) (Z : Zf P w K mg) (D_Ratio___init__ : DnM P w K mg base (Tt K) 2 (a_Ratio___init__ K) ["self", "over", "under"] [.int 1] (c_Ratio___init__ K)) (D_Ratio_of : DnM P w K mg base (Tt K) 4 (a_Ratio_of K) ["value"] [] (c_Ratio_of K)) (F : FnP K d_Ratio___mul__ fd) :
    FnOk P w K mg base (L2.CX P w) 5 (a_Ratio___mul__ K) fd ["self", "other"] (spF K (Tt K) (c_Ratio___mul__ K)) :=
  FnOk.impM (fnM (b := b_Ratio___mul__ K) F sc_Ratio___mul__ (fun cdv A outer s H E hr =>
    (pssm_cons (psm_set (i := 2) sc_Ratio___mul__.nd rfl (Or.inl rfl) (pm_smeth (c := "Ratio") (dv := []) (dd := []) (pe_glob (v := .ref (ca K "Ratio")) rfl M.g_Ratio rfl) Z.cr_Ratio Z.sm_Ratio_of D_Ratio_of 0 (hr.mono (by decide)) passX (pam_cons (pmv 1) pam_nil) (fun _ => .nil)))
    (pssm_one (psm_ret (pm_make (c := "Ratio") (gM := c_new_Ratio K) (dv := []) (dd := []) ⟨Z.mkr_Ratio, D_Ratio___init__⟩ 1 (hr.mono (by decide)) rfl M.g_Ratio passX (new_Ratio Z) (pam_cons (pm_op o_mul (pm_fld (pmv 0) (by rfl)) (pm_fld (pmv 2) (by rfl))) (pam_cons (pm_op o_mul (pm_fld (pmv 0) (by rfl)) (pm_fld (pmv 2) (by rfl))) pam_nil)) (fun _ => .nil))))))) (fun ds μ Q X h => cl_Ratio___mul__ Z h)
theorem ok_Ratio___mul__ {fd : FuncData} (M : MT mg K) (Z : Zf P w K mg) (D_Ratio___init__ : DnM P w K mg base (Tt K) 2 (a_Ratio___init__ K) ["self", "over", "under"] [.int 1] (c_Ratio___init__ K)) (D_Ratio_of : DnM P w K mg base (Tt K) 4 (a_Ratio_of K) ["value"] [] (c_Ratio_of K)) (F : FnP K d_Ratio___mul__ fd) :
    DnM P w K mg base (Tt K) 5 (a_Ratio___mul__ K) ["self", "other"] [] (c_Ratio___mul__ K) :=
  dn_mk F rfl (fun _ _ _ _ _ _ us hl => match us, hl with | [_, _], _ => rfl) (fo_Ratio___mul__ M Z D_Ratio___init__ D_Ratio_of F)
end
end Mz

namespace Mz
open PySem PySem.Spec PyProof.Rows L2 AzX ClX LamX Hz He Az
local macro_rules | `(tactic| walk_at "ev") => `(tactic| simp (config := {decide := false}) only [↓mEqW.eq_1, ↓mNeW.eq_1, ↓mFmtO.eq_1, ↓mCallP.eq_1, ↓mMethP.eq_1, ↓mCMethP.eq_1, ↓mCallO.eq_1, ↓mMakeP.eq_1, ↓bArgs.eq_1, ↓selA.eq_1, ↓selA.eq_2, ↓selA.eq_3, ↓selA.eq_4, ↓mSorted.eq_1, Option.getD_some, Option.getD_none, ↓mLc.eq_1, ↓goLc.eq_1, ↓goLc.eq_2, ↓wipeM.eq_1, ↓wipeM.eq_2, ↓bodyM.eq_1, ↓mVar.eq_1, ↓mC.eq_1, ↓mOp.eq_1, ↓mTest.eq_1, ↓mChain.eq_1, ↓mUn.eq_1, ↓mTru.eq_1, ↓dTru.eq_1, ↓dTru.eq_2, ↓dTru.eq_3, ↓dTru.eq_4, ↓dTru.eq_5, ↓dTru.eq_6, ↓dTru.eq_7, ↓dTru.eq_8, ↓dTru.eq_9, ↓dTru.eq_10, ↓mTr.eq_1, ↓mAnd.eq_1, ↓mOr.eq_1, ↓mNot.eq_1, ↓mAndV.eq_1, ↓mOrV.eq_1, ↓mNotV.eq_1, ↓mIf.eq_1, ↓mNil.eq_1, ↓mCons.eq_1, ↓mTup.eq_1, ↓mLst.eq_1, ↓mLstM.eq_1, ↓mAlt.eq_1, ↓uAlt.eq_1, ↓tAlt.eq_1, ↓fAlt.eq_1, ↓eAlt.eq_1, ↓lAlt.eq_1, ↓bAlt.eq_1, ↓gmName.eq_1, ↓gmNil.eq_1, ↓gmNil.eq_2, ↓gmCons.eq_1, ↓gmCons.eq_2, ↓gmTup.eq_1, ↓gmTup.eq_2, ↓gmSub.eq_1, ↓mSetL.eq_1, ↓mSetL.eq_2, ↓sNext.eq_1, ↓sSeq.eq_1, ↓sBreak.eq_1, ↓sCont.eq_1, ↓sExpr.eq_1, ↓sRet.eq_1, ↓sRetN.eq_1, ↓sIf.eq_1, ↓sSet.eq_1, ↓sAsg.eq_1, ↓sPar.eq_1, ↓sPar3.eq_1, ↓sAug.eq_1, ↓sFldM.eq_1, ↓sFldAugM.eq_1, ↓sFor.eq_1, ↓iLs.eq_1, ↓iTupM.eq_1, ↓iRange1.eq_1, ↓mCall.eq_1, ↓isC.eq_1, ↓isC.eq_2, ↓isC.eq_3, ↓mMeth.eq_1, ↓insC.eq_1, ↓insC.eq_2, ↓insC.eq_3, ↓mProp.eq_1, ↓mFld.eq_1, ↓mOwn.eq_1, ↓mOwn.eq_2, ↓mOwnR.eq_1, ↓mOwnR.eq_2, ↓mCmpO.eq_1, ↓mCmpO.eq_2, ↓kNotM.eq_1, ↓kNotM.eq_2, ↓mNeO.eq_1, ↓mNeO.eq_2, ↓mNeR.eq_1, ↓mNeR.eq_2, ↓mOwnU.eq_1, ↓mOwnU.eq_2, ↓kBlM.eq_1, ↓kBlM.eq_2, ↓mTruO.eq_1, ↓mTruO.eq_2, ↓mBoolO.eq_1, ↓mBoolO.eq_2, ↓kStrM.eq_1, ↓kStrM.eq_2, ↓mStrO.eq_1, ↓mStrO.eq_2, ↓mII.eq_1, ↓mII.eq_2, ↓mII0.eq_1, ↓mII0.eq_2, ↓mNeg.eq_1, ↓mNeg.eq_2, ↓mAddS.eq_1, ↓mAddS.eq_2, ↓noneD.eq_1, ↓noneD.eq_2, ↓mIsN.eq_1, ↓mIsN.eq_2, ↓mNotN.eq_1, ↓mNotN.eq_2, ↓mIsB.eq_1, ↓mIsB.eq_2, ↓mInt.eq_1, ↓mInt.eq_2, ↓mInt.eq_3, ↓mIntS.eq_1, ↓mIntS.eq_2, ↓mAbs.eq_1, ↓mAbs.eq_2, ↓mLen.eq_1, ↓mLen.eq_2, ↓mLen.eq_3, ↓mListF.eq_1, ↓mListF.eq_2, ↓mListM.eq_1, ↓mListM.eq_2, ↓mTupF.eq_1, ↓mTupF.eq_2, ↓mTupF.eq_3, ↓mBool1.eq_1, ↓mBool1.eq_2, ↓mBool1.eq_3, ↓mStrI.eq_1, ↓mStrI.eq_2, ↓mIx.eq_1, ↓mIx.eq_2, ↓mIxS.eq_1, ↓mIxS.eq_2, ↓mSl.eq_1, ↓mSlL.eq_1, ↓mSlS.eq_1, ↓mSlS.eq_2, ↓oNone.eq_1, ↓oSome.eq_1, ↓seqD.eq_1, ↓seqD.eq_2, ↓seqD.eq_3, ↓seqD.eq_4, ↓seqD.eq_5, ↓lsD.eq_1, ↓lsD.eq_2, ↓lsD.eq_3, ↓lsD.eq_4, ↓mdD.eq_1, ↓mdD.eq_2, ↓mdD.eq_3, ↓mCatL.eq_1, ↓mRepL.eq_1, ↓mRepL.eq_2, ↓isT.eq_1, ↓isT.eq_2, ↓isT.eq_3, ↓isT.eq_4, ↓isT.eq_5, ↓isT.eq_6, ↓mBM.eq_1, ↓bAppend.eq_1, ↓bAppend.eq_2, ↓bSplit.eq_1, ↓bSplit.eq_2, ↓bStarts.eq_1, ↓bStarts.eq_2, ↓bJoin.eq_1, ↓bJoin.eq_2, ↓mFmt.eq_1, ↓sRaise.eq_1, ↓mXat.eq_1, ↓mDict0.eq_1, ↓mNotT.eq_1, ↓mIsi.eq_1, ↓mIsi.eq_2, ↓mIsi.eq_3, ↓tyI.eq_1, ↓tyI.eq_2, ↓tyD.eq_1, ↓tyD.eq_2, ↓tyD.eq_3, ↓tyD.eq_4, ↓tyD.eq_5, ↓tyD.eq_6, ↓tyD.eq_7, ↓tyD.eq_8, ↓tyD.eq_9, ↓tyD.eq_10, ↓tyD.eq_11, ↓clsD.eq_1, ↓clsD.eq_2, ↓clsD.eq_3, ↓clsDs.eq_1, ↓clsDs.eq_2, ↓needT.eq_1, ↓needT.eq_2, ↓needT.eq_3, ↓needT.eq_4, ↓mHeard.eq_1, ↓mAsk.eq_1, ↓sTry.eq_1, ↓sFrz.eq_1, List.getElem?_cons_zero, List.getElem?_cons_succ, List.getElem?_nil, List.set_cons_zero, List.set_cons_succ, List.set_nil, List.length_cons, List.length_nil, List.map_cons, List.map_nil, List.cons_append, List.nil_append, List.append_nil, List.replicate_zero, List.replicate_succ, List.zip_cons_cons, List.zip_nil_left, List.zip_nil_right, Nat.reduceAdd, Nat.reduceSub, Nat.reduceEqDiff, Nat.reduceLT, Nat.reduceLeDiff, Nat.zero_add, Nat.add_zero, Bool.not_true, Bool.not_false, Bool.not_not, true_and, and_true, false_and, and_false, true_or, or_true, false_or, or_false, if_true, if_false, ite_true, ite_false, Bool.false_eq_true, reduceIte, reduceCtorEq, eq_self_iff_true, and_self, or_self, put_same, del_same, decide_true, decide_false, String.reduceEq, List.mem_cons, List.not_mem_nil, Int.reduceNeg, Int.reduceEq, Int.reduceLT, ne_eq, not_true_eq_false, not_false_eq_true])
set_option hygiene false in
local macro_rules | `(tactic| walk_at "evz") => `(tactic| simp (config := {decide := false}) only [↓mEqW.eq_1, ↓mNeW.eq_1, ↓mFmtO.eq_1, ↓mCallP.eq_1, ↓mMethP.eq_1, ↓mCMethP.eq_1, ↓mCallO.eq_1, ↓mMakeP.eq_1, ↓bArgs.eq_1, ↓selA.eq_1, ↓selA.eq_2, ↓selA.eq_3, ↓selA.eq_4, ↓mSorted.eq_1, Option.getD_some, Option.getD_none, ↓mLc.eq_1, ↓goLc.eq_1, ↓goLc.eq_2, ↓wipeM.eq_1, ↓wipeM.eq_2, ↓bodyM.eq_1, ↓mVar.eq_1, ↓mC.eq_1, ↓mOp.eq_1, ↓mTest.eq_1, ↓mChain.eq_1, ↓mUn.eq_1, ↓mTru.eq_1, ↓dTru.eq_1, ↓dTru.eq_2, ↓dTru.eq_3, ↓dTru.eq_4, ↓dTru.eq_5, ↓dTru.eq_6, ↓dTru.eq_7, ↓dTru.eq_8, ↓dTru.eq_9, ↓dTru.eq_10, ↓mTr.eq_1, ↓mAnd.eq_1, ↓mOr.eq_1, ↓mNot.eq_1, ↓mAndV.eq_1, ↓mOrV.eq_1, ↓mNotV.eq_1, ↓mIf.eq_1, ↓mNil.eq_1, ↓mCons.eq_1, ↓mTup.eq_1, ↓mLst.eq_1, ↓mLstM.eq_1, ↓mAlt.eq_1, ↓uAlt.eq_1, ↓tAlt.eq_1, ↓fAlt.eq_1, ↓eAlt.eq_1, ↓lAlt.eq_1, ↓bAlt.eq_1, ↓gmName.eq_1, ↓gmNil.eq_1, ↓gmNil.eq_2, ↓gmCons.eq_1, ↓gmCons.eq_2, ↓gmTup.eq_1, ↓gmTup.eq_2, ↓gmSub.eq_1, ↓mSetL.eq_1, ↓mSetL.eq_2, ↓sNext.eq_1, ↓sSeq.eq_1, ↓sBreak.eq_1, ↓sCont.eq_1, ↓sExpr.eq_1, ↓sRet.eq_1, ↓sRetN.eq_1, ↓sIf.eq_1, ↓sSet.eq_1, ↓sAsg.eq_1, ↓sPar.eq_1, ↓sPar3.eq_1, ↓sAug.eq_1, ↓sFldM.eq_1, ↓sFldAugM.eq_1, ↓sFor.eq_1, ↓iLs.eq_1, ↓iTupM.eq_1, ↓iRange1.eq_1, ↓mCall.eq_1, ↓isC.eq_1, ↓isC.eq_2, ↓isC.eq_3, ↓mMeth.eq_1, ↓insC.eq_1, ↓insC.eq_2, ↓insC.eq_3, ↓mProp.eq_1, ↓mFld.eq_1, ↓mOwn.eq_1, ↓mOwn.eq_2, ↓mOwnR.eq_1, ↓mOwnR.eq_2, ↓mCmpO.eq_1, ↓mCmpO.eq_2, ↓kNotM.eq_1, ↓kNotM.eq_2, ↓mNeO.eq_1, ↓mNeO.eq_2, ↓mNeR.eq_1, ↓mNeR.eq_2, ↓mOwnU.eq_1, ↓mOwnU.eq_2, ↓kBlM.eq_1, ↓kBlM.eq_2, ↓mTruO.eq_1, ↓mTruO.eq_2, ↓mBoolO.eq_1, ↓mBoolO.eq_2, ↓kStrM.eq_1, ↓kStrM.eq_2, ↓mStrO.eq_1, ↓mStrO.eq_2, ↓mII.eq_1, ↓mII.eq_2, ↓mII0.eq_1, ↓mII0.eq_2, ↓mNeg.eq_1, ↓mNeg.eq_2, ↓mAddS.eq_1, ↓mAddS.eq_2, ↓noneD.eq_1, ↓noneD.eq_2, ↓mIsN.eq_1, ↓mIsN.eq_2, ↓mNotN.eq_1, ↓mNotN.eq_2, ↓mIsB.eq_1, ↓mIsB.eq_2, ↓mInt.eq_1, ↓mInt.eq_2, ↓mInt.eq_3, ↓mIntS.eq_1, ↓mIntS.eq_2, ↓mAbs.eq_1, ↓mAbs.eq_2, ↓mLen.eq_1, ↓mLen.eq_2, ↓mLen.eq_3, ↓mListF.eq_1, ↓mListF.eq_2, ↓mListM.eq_1, ↓mListM.eq_2, ↓mTupF.eq_1, ↓mTupF.eq_2, ↓mTupF.eq_3, ↓mBool1.eq_1, ↓mBool1.eq_2, ↓mBool1.eq_3, ↓mStrI.eq_1, ↓mStrI.eq_2, ↓mIx.eq_1, ↓mIx.eq_2, ↓mIxS.eq_1, ↓mIxS.eq_2, ↓mSl.eq_1, ↓mSlL.eq_1, ↓mSlS.eq_1, ↓mSlS.eq_2, ↓oNone.eq_1, ↓oSome.eq_1, ↓seqD.eq_1, ↓seqD.eq_2, ↓seqD.eq_3, ↓seqD.eq_4, ↓seqD.eq_5, ↓lsD.eq_1, ↓lsD.eq_2, ↓lsD.eq_3, ↓lsD.eq_4, ↓mdD.eq_1, ↓mdD.eq_2, ↓mdD.eq_3, ↓mCatL.eq_1, ↓mRepL.eq_1, ↓mRepL.eq_2, ↓isT.eq_1, ↓isT.eq_2, ↓isT.eq_3, ↓isT.eq_4, ↓isT.eq_5, ↓isT.eq_6, ↓mBM.eq_1, ↓bAppend.eq_1, ↓bAppend.eq_2, ↓bSplit.eq_1, ↓bSplit.eq_2, ↓bStarts.eq_1, ↓bStarts.eq_2, ↓bJoin.eq_1, ↓bJoin.eq_2, ↓mFmt.eq_1, ↓sRaise.eq_1, ↓mXat.eq_1, ↓mDict0.eq_1, ↓mNotT.eq_1, ↓mIsi.eq_1, ↓mIsi.eq_2, ↓mIsi.eq_3, ↓tyI.eq_1, ↓tyI.eq_2, ↓tyD.eq_1, ↓tyD.eq_2, ↓tyD.eq_3, ↓tyD.eq_4, ↓tyD.eq_5, ↓tyD.eq_6, ↓tyD.eq_7, ↓tyD.eq_8, ↓tyD.eq_9, ↓tyD.eq_10, ↓tyD.eq_11, ↓clsD.eq_1, ↓clsD.eq_2, ↓clsD.eq_3, ↓clsDs.eq_1, ↓clsDs.eq_2, ↓needT.eq_1, ↓needT.eq_2, ↓needT.eq_3, ↓needT.eq_4, ↓mHeard.eq_1, ↓mAsk.eq_1, ↓sTry.eq_1, ↓sFrz.eq_1, List.getElem?_cons_zero, List.getElem?_cons_succ, List.getElem?_nil, List.set_cons_zero, List.set_cons_succ, List.set_nil, List.length_cons, List.length_nil, List.map_cons, List.map_nil, List.cons_append, List.nil_append, List.append_nil, List.replicate_zero, List.replicate_succ, List.zip_cons_cons, List.zip_nil_left, List.zip_nil_right, Nat.reduceAdd, Nat.reduceSub, Nat.reduceEqDiff, Nat.reduceLT, Nat.reduceLeDiff, Nat.zero_add, Nat.add_zero, Bool.not_true, Bool.not_false, Bool.not_not, true_and, and_true, false_and, and_false, true_or, or_true, false_or, or_false, if_true, if_false, ite_true, ite_false, Bool.false_eq_true, reduceIte, reduceCtorEq, eq_self_iff_true, and_self, or_self, put_same, del_same, decide_true, decide_false, String.reduceEq, List.mem_cons, List.not_mem_nil, Int.reduceNeg, Int.reduceEq, Int.reduceLT, ne_eq, not_true_eq_false, not_false_eq_true, Z.kit_NoneType_int, Z.kit_bool_int, Z.kit_dict_int, Z.kit_int_int, Z.kit_list_int, Z.kit_str_int, Z.kit_tuple_int, Z.cls_Words, Z.cls_Words.cls, Z.kit_Words_int, Z.cls_Ratio, Z.cls_Ratio.cls, Z.kit_Ratio_int, Z.cls_Rounding, Z.cls_Rounding.cls, Z.kit_Rounding_int, Z.kit_NoneType_bool, Z.kit_bool_bool, Z.kit_dict_bool, Z.kit_int_bool, Z.kit_list_bool, Z.kit_str_bool, Z.kit_tuple_bool, Z.kit_Words_bool, Z.kit_Ratio_bool, Z.kit_Rounding_bool, Z.no_Ratio_over, Z.no_Ratio_under, Z.kit_NoneType_Ratio, Z.kit_bool_Ratio, Z.kit_dict_Ratio, Z.kit_int_Ratio, Z.kit_list_Ratio, Z.kit_str_Ratio, Z.kit_tuple_Ratio, Z.kit_Words_Ratio, Z.kit_Ratio_Ratio, Z.kit_Rounding_Ratio, Z.no_Rounding_threshold, Z.no_Rounding_is_from, lkF_self, asR_rat, toQ_rat, anyD_non, anyD_bl, anyD_int, anyD_str, anyD_tup, anyD_lst, anyD_wls, anyD_dict, isIntD_non, isIntD_bl, isIntD_int, isIntD_str, isIntD_tup, isIntD_lst, isIntD_wls, isIntD_dict, isNumD_non, isNumD_bl, isNumD_int, isNumD_str, isNumD_tup, isNumD_lst, isNumD_wls, isNumD_dict, toQ_non, toQ_bl, toQ_int, toQ_str, toQ_tup, toQ_lst, toQ_wls, toQ_dict, yOk_non, yOk_bl, yOk_int, yOk_str, yOk_tup, yOk_lst, yOk_wls, yOk_dict, cOk_non, cOk_bl, cOk_int, cOk_str, cOk_tup, cOk_lst, cOk_wls, cOk_dict, oddD, yOk_ins, cOk_ins, anyD_ins, isIntD_ins, isNumD_ins, BEq.rfl, mEqD_ii, mNeD_ii, mEqD_insL, mNeD_insL, mEqD_insR, mNeD_insR, asRd_rnd, put_put, Bool.false_or, Bool.or_false, Bool.or_true, Bool.true_or, Bool.and_true, Bool.true_and, Bool.and_false, Bool.false_and, Option.map_some, decide_eq_true_eq, lk_Ratio_over, pt_Ratio_over, lk_Ratio_under, pt_Ratio_under, nf_Ratio_divided, nf_Ratio_floor, lk_Words_all_words, pt_Words_all_words, lk_Words_taken, pt_Words_taken, lk_Rounding_threshold, pt_Rounding_threshold, lk_Rounding_is_from, pt_Rounding_is_from, nf_Rounding_stepped, nf_Rounding_is_step, nf_Rounding_before, nf_Rounding_behind, nf_Rounding_places, ↓c__law_pen.eq_1, ↓c__law_pen.eq_2, ↓c__law_draw.eq_1, ↓c__law_draw.eq_2, ↓c__law_pick.eq_1, ↓c__law_pick.eq_2, ↓c__law_frac.eq_1, ↓c__law_frac.eq_2, ↓c__law_number.eq_1, ↓c__law_number.eq_2, ↓c__law_kind.eq_1, ↓c__law_kind.eq_2, ↓c_is_integer.eq_1, ↓c_is_integer.eq_2, ↓c_divisor.eq_1, ↓c_divisor.eq_2, ↓c_new_Ratio.eq_1, ↓c_new_Ratio.eq_2, ↓c_new_Ratio.eq_3, ↓c_new_Ratio.eq_4, ↓c_is_number.eq_1, ↓c_is_number.eq_2, ↓c_Ratio_of.eq_1, ↓c_Ratio_of.eq_2, ↓c_Ratio___lt__.eq_1, ↓c_Ratio___lt__.eq_2, ↓c_Ratio___ge__.eq_1, ↓c_Ratio___ge__.eq_2, ↓c_Ratio___gt__.eq_1, ↓c_Ratio___gt__.eq_2, ↓c_Ratio___le__.eq_1, ↓c_Ratio___le__.eq_2, ↓c_is_same.eq_1, ↓c_is_same.eq_2, ↓c_Ratio___eq__.eq_1, ↓c_Ratio___eq__.eq_2, ↓c_Ratio___bool__.eq_1, ↓c_Ratio___bool__.eq_2, ↓c_new_Rounding.eq_1, ↓c_new_Rounding.eq_2, ↓c__law_rounding.eq_1, ↓c__law_rounding.eq_2, ↓c_Ratio___add__.eq_1, ↓c_Ratio___add__.eq_2, ↓c_need_number.eq_1, ↓c_need_number.eq_2, ↓c_Rounding_stepped.eq_1, ↓c_Rounding_stepped.eq_2, ↓c_Rounding___call__.eq_1, ↓c_Rounding___call__.eq_2, ↓c_Ratio___neg__.eq_1, ↓c_Ratio___neg__.eq_2, ↓c_Ratio___sub__.eq_1, ↓c_Ratio___sub__.eq_2, ↓c_Ratio_divided.eq_1, ↓c_Ratio_divided.eq_2, ↓c_Ratio_floor.eq_1, ↓c_Ratio_floor.eq_2, ↓c_Ratio___floordiv__.eq_1, ↓c_Ratio___floordiv__.eq_2, ↓c_Ratio___mul__.eq_1, ↓c_Ratio___mul__.eq_2, ↓c_Ratio___mod__.eq_1, ↓c_Ratio___mod__.eq_2, ↓c_Rounding_is_step.eq_1, ↓c_Rounding_is_step.eq_2, ↓c_Rounding_behind.eq_1, ↓c_Rounding_behind.eq_2, ↓c_Rounding_before.eq_1, ↓c_Rounding_before.eq_2, ↓c_Rounding_places.eq_1, ↓c_Rounding_places.eq_2, ↓c__law_right.eq_1, ↓c__law_right.eq_2, ↓c_law.eq_1, ↓c_law.eq_2])
set_option hygiene false in
local macro_rules | `(tactic| simp_arith [$ts,*]) => `(tactic| simp (config := {decide := false}) only [↓mEqW.eq_1, ↓mNeW.eq_1, ↓mFmtO.eq_1, ↓mCallP.eq_1, ↓mMethP.eq_1, ↓mCMethP.eq_1, ↓mCallO.eq_1, ↓mMakeP.eq_1, ↓bArgs.eq_1, ↓selA.eq_1, ↓selA.eq_2, ↓selA.eq_3, ↓selA.eq_4, ↓mSorted.eq_1, Option.getD_some, Option.getD_none, ↓mLc.eq_1, ↓goLc.eq_1, ↓goLc.eq_2, ↓wipeM.eq_1, ↓wipeM.eq_2, ↓bodyM.eq_1, ↓mVar.eq_1, ↓mC.eq_1, ↓mOp.eq_1, ↓mTest.eq_1, ↓mChain.eq_1, ↓mUn.eq_1, ↓mTru.eq_1, ↓dTru.eq_1, ↓dTru.eq_2, ↓dTru.eq_3, ↓dTru.eq_4, ↓dTru.eq_5, ↓dTru.eq_6, ↓dTru.eq_7, ↓dTru.eq_8, ↓dTru.eq_9, ↓dTru.eq_10, ↓mTr.eq_1, ↓mAnd.eq_1, ↓mOr.eq_1, ↓mNot.eq_1, ↓mAndV.eq_1, ↓mOrV.eq_1, ↓mNotV.eq_1, ↓mIf.eq_1, ↓mNil.eq_1, ↓mCons.eq_1, ↓mTup.eq_1, ↓mLst.eq_1, ↓mLstM.eq_1, ↓mAlt.eq_1, ↓uAlt.eq_1, ↓tAlt.eq_1, ↓fAlt.eq_1, ↓eAlt.eq_1, ↓lAlt.eq_1, ↓bAlt.eq_1, ↓gmName.eq_1, ↓gmNil.eq_1, ↓gmNil.eq_2, ↓gmCons.eq_1, ↓gmCons.eq_2, ↓gmTup.eq_1, ↓gmTup.eq_2, ↓gmSub.eq_1, ↓mSetL.eq_1, ↓mSetL.eq_2, ↓sNext.eq_1, ↓sSeq.eq_1, ↓sBreak.eq_1, ↓sCont.eq_1, ↓sExpr.eq_1, ↓sRet.eq_1, ↓sRetN.eq_1, ↓sIf.eq_1, ↓sSet.eq_1, ↓sAsg.eq_1, ↓sPar.eq_1, ↓sPar3.eq_1, ↓sAug.eq_1, ↓sFldM.eq_1, ↓sFldAugM.eq_1, ↓sFor.eq_1, ↓iLs.eq_1, ↓iTupM.eq_1, ↓iRange1.eq_1, ↓mCall.eq_1, ↓isC.eq_1, ↓isC.eq_2, ↓isC.eq_3, ↓mMeth.eq_1, ↓insC.eq_1, ↓insC.eq_2, ↓insC.eq_3, ↓mProp.eq_1, ↓mFld.eq_1, ↓mOwn.eq_1, ↓mOwn.eq_2, ↓mOwnR.eq_1, ↓mOwnR.eq_2, ↓mCmpO.eq_1, ↓mCmpO.eq_2, ↓kNotM.eq_1, ↓kNotM.eq_2, ↓mNeO.eq_1, ↓mNeO.eq_2, ↓mNeR.eq_1, ↓mNeR.eq_2, ↓mOwnU.eq_1, ↓mOwnU.eq_2, ↓kBlM.eq_1, ↓kBlM.eq_2, ↓mTruO.eq_1, ↓mTruO.eq_2, ↓mBoolO.eq_1, ↓mBoolO.eq_2, ↓kStrM.eq_1, ↓kStrM.eq_2, ↓mStrO.eq_1, ↓mStrO.eq_2, ↓mII.eq_1, ↓mII.eq_2, ↓mII0.eq_1, ↓mII0.eq_2, ↓mNeg.eq_1, ↓mNeg.eq_2, ↓mAddS.eq_1, ↓mAddS.eq_2, ↓noneD.eq_1, ↓noneD.eq_2, ↓mIsN.eq_1, ↓mIsN.eq_2, ↓mNotN.eq_1, ↓mNotN.eq_2, ↓mIsB.eq_1, ↓mIsB.eq_2, ↓mInt.eq_1, ↓mInt.eq_2, ↓mInt.eq_3, ↓mIntS.eq_1, ↓mIntS.eq_2, ↓mAbs.eq_1, ↓mAbs.eq_2, ↓mLen.eq_1, ↓mLen.eq_2, ↓mLen.eq_3, ↓mListF.eq_1, ↓mListF.eq_2, ↓mListM.eq_1, ↓mListM.eq_2, ↓mTupF.eq_1, ↓mTupF.eq_2, ↓mTupF.eq_3, ↓mBool1.eq_1, ↓mBool1.eq_2, ↓mBool1.eq_3, ↓mStrI.eq_1, ↓mStrI.eq_2, ↓mIx.eq_1, ↓mIx.eq_2, ↓mIxS.eq_1, ↓mIxS.eq_2, ↓mSl.eq_1, ↓mSlL.eq_1, ↓mSlS.eq_1, ↓mSlS.eq_2, ↓oNone.eq_1, ↓oSome.eq_1, ↓seqD.eq_1, ↓seqD.eq_2, ↓seqD.eq_3, ↓seqD.eq_4, ↓seqD.eq_5, ↓lsD.eq_1, ↓lsD.eq_2, ↓lsD.eq_3, ↓lsD.eq_4, ↓mdD.eq_1, ↓mdD.eq_2, ↓mdD.eq_3, ↓mCatL.eq_1, ↓mRepL.eq_1, ↓mRepL.eq_2, ↓isT.eq_1, ↓isT.eq_2, ↓isT.eq_3, ↓isT.eq_4, ↓isT.eq_5, ↓isT.eq_6, ↓mBM.eq_1, ↓bAppend.eq_1, ↓bAppend.eq_2, ↓bSplit.eq_1, ↓bSplit.eq_2, ↓bStarts.eq_1, ↓bStarts.eq_2, ↓bJoin.eq_1, ↓bJoin.eq_2, ↓mFmt.eq_1, ↓sRaise.eq_1, ↓mXat.eq_1, ↓mDict0.eq_1, ↓mNotT.eq_1, ↓mIsi.eq_1, ↓mIsi.eq_2, ↓mIsi.eq_3, ↓tyI.eq_1, ↓tyI.eq_2, ↓tyD.eq_1, ↓tyD.eq_2, ↓tyD.eq_3, ↓tyD.eq_4, ↓tyD.eq_5, ↓tyD.eq_6, ↓tyD.eq_7, ↓tyD.eq_8, ↓tyD.eq_9, ↓tyD.eq_10, ↓tyD.eq_11, ↓clsD.eq_1, ↓clsD.eq_2, ↓clsD.eq_3, ↓clsDs.eq_1, ↓clsDs.eq_2, ↓needT.eq_1, ↓needT.eq_2, ↓needT.eq_3, ↓needT.eq_4, ↓mHeard.eq_1, ↓mAsk.eq_1, ↓sTry.eq_1, ↓sFrz.eq_1, List.getElem?_cons_zero, List.getElem?_cons_succ, List.getElem?_nil, List.set_cons_zero, List.set_cons_succ, List.set_nil, List.length_cons, List.length_nil, List.map_cons, List.map_nil, List.cons_append, List.nil_append, List.append_nil, List.replicate_zero, List.replicate_succ, List.zip_cons_cons, List.zip_nil_left, List.zip_nil_right, Nat.reduceAdd, Nat.reduceSub, Nat.reduceEqDiff, Nat.reduceLT, Nat.reduceLeDiff, Nat.zero_add, Nat.add_zero, Bool.not_true, Bool.not_false, Bool.not_not, true_and, and_true, false_and, and_false, true_or, or_true, false_or, or_false, if_true, if_false, ite_true, ite_false, Bool.false_eq_true, reduceIte, reduceCtorEq, eq_self_iff_true, and_self, or_self, put_same, del_same, decide_true, decide_false, String.reduceEq, List.mem_cons, List.not_mem_nil, Int.reduceNeg, Int.reduceEq, Int.reduceLT, ne_eq, not_true_eq_false, not_false_eq_true, Z.kit_NoneType_int, Z.kit_bool_int, Z.kit_dict_int, Z.kit_int_int, Z.kit_list_int, Z.kit_str_int, Z.kit_tuple_int, Z.cls_Words, Z.cls_Words.cls, Z.kit_Words_int, Z.cls_Ratio, Z.cls_Ratio.cls, Z.kit_Ratio_int, Z.cls_Rounding, Z.cls_Rounding.cls, Z.kit_Rounding_int, Z.kit_NoneType_bool, Z.kit_bool_bool, Z.kit_dict_bool, Z.kit_int_bool, Z.kit_list_bool, Z.kit_str_bool, Z.kit_tuple_bool, Z.kit_Words_bool, Z.kit_Ratio_bool, Z.kit_Rounding_bool, Z.no_Ratio_over, Z.no_Ratio_under, Z.kit_NoneType_Ratio, Z.kit_bool_Ratio, Z.kit_dict_Ratio, Z.kit_int_Ratio, Z.kit_list_Ratio, Z.kit_str_Ratio, Z.kit_tuple_Ratio, Z.kit_Words_Ratio, Z.kit_Ratio_Ratio, Z.kit_Rounding_Ratio, Z.no_Rounding_threshold, Z.no_Rounding_is_from, lkF_self, asR_rat, toQ_rat, anyD_non, anyD_bl, anyD_int, anyD_str, anyD_tup, anyD_lst, anyD_wls, anyD_dict, isIntD_non, isIntD_bl, isIntD_int, isIntD_str, isIntD_tup, isIntD_lst, isIntD_wls, isIntD_dict, isNumD_non, isNumD_bl, isNumD_int, isNumD_str, isNumD_tup, isNumD_lst, isNumD_wls, isNumD_dict, toQ_non, toQ_bl, toQ_int, toQ_str, toQ_tup, toQ_lst, toQ_wls, toQ_dict, yOk_non, yOk_bl, yOk_int, yOk_str, yOk_tup, yOk_lst, yOk_wls, yOk_dict, cOk_non, cOk_bl, cOk_int, cOk_str, cOk_tup, cOk_lst, cOk_wls, cOk_dict, oddD, yOk_ins, cOk_ins, anyD_ins, isIntD_ins, isNumD_ins, BEq.rfl, mEqD_ii, mNeD_ii, mEqD_insL, mNeD_insL, mEqD_insR, mNeD_insR, asRd_rnd, put_put, Bool.false_or, Bool.or_false, Bool.or_true, Bool.true_or, Bool.and_true, Bool.true_and, Bool.and_false, Bool.false_and, Option.map_some, decide_eq_true_eq, lk_Ratio_over, pt_Ratio_over, lk_Ratio_under, pt_Ratio_under, nf_Ratio_divided, nf_Ratio_floor, lk_Words_all_words, pt_Words_all_words, lk_Words_taken, pt_Words_taken, lk_Rounding_threshold, pt_Rounding_threshold, lk_Rounding_is_from, pt_Rounding_is_from, nf_Rounding_stepped, nf_Rounding_is_step, nf_Rounding_before, nf_Rounding_behind, nf_Rounding_places, ↓c__law_pen.eq_1, ↓c__law_pen.eq_2, ↓c__law_draw.eq_1, ↓c__law_draw.eq_2, ↓c__law_pick.eq_1, ↓c__law_pick.eq_2, ↓c__law_frac.eq_1, ↓c__law_frac.eq_2, ↓c__law_number.eq_1, ↓c__law_number.eq_2, ↓c__law_kind.eq_1, ↓c__law_kind.eq_2, ↓c_is_integer.eq_1, ↓c_is_integer.eq_2, ↓c_divisor.eq_1, ↓c_divisor.eq_2, ↓c_new_Ratio.eq_1, ↓c_new_Ratio.eq_2, ↓c_new_Ratio.eq_3, ↓c_new_Ratio.eq_4, ↓c_is_number.eq_1, ↓c_is_number.eq_2, ↓c_Ratio_of.eq_1, ↓c_Ratio_of.eq_2, ↓c_Ratio___lt__.eq_1, ↓c_Ratio___lt__.eq_2, ↓c_Ratio___ge__.eq_1, ↓c_Ratio___ge__.eq_2, ↓c_Ratio___gt__.eq_1, ↓c_Ratio___gt__.eq_2, ↓c_Ratio___le__.eq_1, ↓c_Ratio___le__.eq_2, ↓c_is_same.eq_1, ↓c_is_same.eq_2, ↓c_Ratio___eq__.eq_1, ↓c_Ratio___eq__.eq_2, ↓c_Ratio___bool__.eq_1, ↓c_Ratio___bool__.eq_2, ↓c_new_Rounding.eq_1, ↓c_new_Rounding.eq_2, ↓c__law_rounding.eq_1, ↓c__law_rounding.eq_2, ↓c_Ratio___add__.eq_1, ↓c_Ratio___add__.eq_2, ↓c_need_number.eq_1, ↓c_need_number.eq_2, ↓c_Rounding_stepped.eq_1, ↓c_Rounding_stepped.eq_2, ↓c_Rounding___call__.eq_1, ↓c_Rounding___call__.eq_2, ↓c_Ratio___neg__.eq_1, ↓c_Ratio___neg__.eq_2, ↓c_Ratio___sub__.eq_1, ↓c_Ratio___sub__.eq_2, ↓c_Ratio_divided.eq_1, ↓c_Ratio_divided.eq_2, ↓c_Ratio_floor.eq_1, ↓c_Ratio_floor.eq_2, ↓c_Ratio___floordiv__.eq_1, ↓c_Ratio___floordiv__.eq_2, ↓c_Ratio___mul__.eq_1, ↓c_Ratio___mul__.eq_2, ↓c_Ratio___mod__.eq_1, ↓c_Ratio___mod__.eq_2, ↓c_Rounding_is_step.eq_1, ↓c_Rounding_is_step.eq_2, ↓c_Rounding_behind.eq_1, ↓c_Rounding_behind.eq_2, ↓c_Rounding_before.eq_1, ↓c_Rounding_before.eq_2, ↓c_Rounding_places.eq_1, ↓c_Rounding_places.eq_2, ↓c__law_right.eq_1, ↓c__law_right.eq_2, ↓c_law.eq_1, ↓c_law.eq_2, $ts,*])
section
variable {P : Program} {w : World} {K : PySem.W.Frag} {mg : Str → Option Value} {base : Heap}
/-! Ratio.__mod__ -/
def b_Ratio___mod__ (K : PySem.W.Frag) : FS :=
    (sRet (mOp (mOwn "Ratio" (c_Ratio___sub__ K)) (mVar 0) (mOp (mOwn "Ratio" (c_Ratio___mul__ K)) (mCall (c_Ratio_of K) [] (mCons (mVar 1) mNil)) (mOp (mOwn "Ratio" (c_Ratio___floordiv__ K)) (mVar 0) (mVar 1)))))
def m_Ratio___mod__ (K : PySem.W.Frag) : FM := bodyM 2 2 (b_Ratio___mod__ K)
theorem cl_Ratio___mod__ (Z : Zf P w K mg) {ds : List D} {μ : MS} {Q : D → MS → Prop} {X : MX} (h : c_Ratio___mod__ K ds μ Q X) : m_Ratio___mod__ K ds μ Q X := by
  unfold c_Ratio___mod__ at h
  split at h
  · rename_i d1 d2
    split at h
    · rename_i x y e1 e2
      cases asR_of e1
      unfold m_Ratio___mod__ b_Ratio___mod__
      by_cases hy : y = 0
      · rw [if_pos hy] at h
        rcases toQ_of e2 with ⟨i, rfl, rfl⟩ | rfl
        · simp_arith [hy]
          exact h
        · subst hy
          simp_arith []
          exact h
      · rw [if_neg hy] at h
        obtain ⟨s1, s2, h⟩ := h
        have sf := fl_sz s1 s2 hy
        rcases toQ_of e2 with ⟨i, rfl, rfl⟩ | rfl
        · simp_arith [hy]
          exact ⟨s1.up (by decide), s2.up (by decide), s2.up (by decide), sf.up (by decide), s1.up (by decide), (s2.mul sf).up (by decide), h⟩
        · simp_arith [hy]
          exact ⟨s1.up (by decide), s2.up (by decide), s2.up (by decide), sf.up (by decide), s1.up (by decide), (s2.mul sf).up (by decide), h⟩
    · rename_i x e1 e2
      cases asR_of e1
      unfold m_Ratio___mod__ b_Ratio___mod__
      simp_arith [e2, h.1.1, h.1.2]
      exact h.2
    · exact h.elim
  · exact h.elim
theorem fo_Ratio___mod__ {fd : FuncData} (M : MT mg K) (Z : Zf P w K mg) (D_Ratio___floordiv__ : DnM P w K mg base (Tt K) 6 (a_Ratio___floordiv__ K) ["self", "other"] [] (c_Ratio___floordiv__ K)) (D_Ratio___mul__ : DnM P w K mg base (Tt K) 5 (a_Ratio___mul__ K) ["self", "other"] [] (c_Ratio___mul__ K)) (D_Ratio___sub__ : DnM P w K mg base (Tt K) 6 (a_Ratio___sub__ K) ["self", "other"] [] (c_Ratio___sub__ K)) (D_Ratio_of : DnM P w K mg base (Tt K) 4 (a_Ratio_of K) ["value"] [] (c_Ratio_of K)) (F : FnP K d_Ratio___mod__ fd) :
    FnOk P w K mg base (L2.CX P w) 7 (a_Ratio___mod__ K) fd ["self", "other"] (spF K (Tt K) (c_Ratio___mod__ K)) :=
  FnOk.impM (fnM (b := b_Ratio___mod__ K) F sc_Ratio___mod__ (fun cdv A outer s H E hr =>
    (pssm_one (psm_ret (pm_op (opm_own Z.opc_Ratio_sub Z.ots_Ratio_sub D_Ratio___sub__ (hr.mono (by decide)) passX) (pmv 0) (pm_op (opm_own Z.opc_Ratio_mul Z.ots_Ratio_mul D_Ratio___mul__ (hr.mono (by decide)) passX) (pm_smeth (c := "Ratio") (dv := []) (dd := []) (pe_glob (v := .ref (ca K "Ratio")) rfl M.g_Ratio rfl) Z.cr_Ratio Z.sm_Ratio_of D_Ratio_of 0 (hr.mono (by decide)) passX (pam_cons (pmv 1) pam_nil) (fun _ => .nil)) (pm_op (opm_own Z.opc_Ratio_floordiv Z.ots_Ratio_floordiv D_Ratio___floordiv__ (hr.mono (by decide)) passX) (pmv 0) (pmv 1)))))))) (fun ds μ Q X h => cl_Ratio___mod__ Z h)
theorem ok_Ratio___mod__ {fd : FuncData} (M : MT mg K) (Z : Zf P w K mg) (D_Ratio___floordiv__ : DnM P w K mg base (Tt K) 6 (a_Ratio___floordiv__ K) ["self", "other"] [] (c_Ratio___floordiv__ K)) (D_Ratio___mul__ : DnM P w K mg base (Tt K) 5 (a_Ratio___mul__ K) ["self", "other"] [] (c_Ratio___mul__ K)) (D_Ratio___sub__ : DnM P w K mg base (Tt K) 6 (a_Ratio___sub__ K) ["self", "other"] [] (c_Ratio___sub__ K)) (D_Ratio_of : DnM P w K mg base (Tt K) 4 (a_Ratio_of K) ["value"] [] (c_Ratio_of K)) (F : FnP K d_Ratio___mod__ fd) :
    DnM P w K mg base (Tt K) 7 (a_Ratio___mod__ K) ["self", "other"] [] (c_Ratio___mod__ K) :=
  dn_mk F rfl (fun _ _ _ _ _ _ us hl => match us, hl with | [_, _], _ => rfl) (fo_Ratio___mod__ M Z D_Ratio___floordiv__ D_Ratio___mul__ D_Ratio___sub__ D_Ratio_of F)
/-! Rounding.is_step -/
def b_Rounding_is_step (K : PySem.W.Frag) : FS :=
    (sRet (mOp (mCmpO "Ratio" ["Words", "Rounding"] (c_Ratio___eq__ K)) (mOp (mOwn "Ratio" (c_Ratio___mod__ K)) (mOp (mOwn "Ratio" (c_Ratio___sub__ K)) (mCall (c_need_number K) [] (mCons (mVar 1) mNil)) (mFld K (mVar 0) "threshold")) (mC (.int 1))) (mC (.int 0))))
def m_Rounding_is_step (K : PySem.W.Frag) : FM := bodyM 2 2 (b_Rounding_is_step K)
theorem cl_Rounding_is_step (Z : Zf P w K mg) {ds : List D} {μ : MS} {Q : D → MS → Prop} {X : MX} (h : c_Rounding_is_step K ds μ Q X) : m_Rounding_is_step K ds μ Q X := by
  unfold c_Rounding_is_step at h
  split at h
  · rename_i d1 d2
    split at h
    · rename_i q b e
      cases asRd_of e
      split at h
      · rename_i x e2
        obtain ⟨sx, rk, h⟩ := h
        have ss := (sx.sub rk.sz).up (m := 1000) (by decide)
        have sx' : Sz 3900 x := sx.up (by decide)
        have sq' : Sz 3900 q := rk.sz.up (by decide)
        have s1 : Sz 1000 ((1 : Int) : Rat) := Sz.int (by decide +kernel)
        have z1 : (((1 : Int) : Rat) = 0) = False := eq_false (by decide +kernel)
        unfold m_Rounding_is_step b_Rounding_is_step
        simp_arith [e2, sx', sq', ss, s1, z1]
        exact h
      · rename_i e2
        unfold m_Rounding_is_step b_Rounding_is_step
        simp_arith [e2, h.1.1, h.1.2]
        exact h.2
    · exact h.elim
  · exact h.elim
theorem fo_Rounding_is_step {fd : FuncData} (M : MT mg K) (Z : Zf P w K mg) (D_Ratio___eq__ : DnM P w K mg base (Tt K) 5 (a_Ratio___eq__ K) ["self", "other"] [] (c_Ratio___eq__ K)) (D_Ratio___mod__ : DnM P w K mg base (Tt K) 7 (a_Ratio___mod__ K) ["self", "other"] [] (c_Ratio___mod__ K)) (D_Ratio___sub__ : DnM P w K mg base (Tt K) 6 (a_Ratio___sub__ K) ["self", "other"] [] (c_Ratio___sub__ K)) (D_need_number : DnM P w K mg base (Tt K) 5 (a_need_number K) ["value"] [] (c_need_number K)) (F : FnP K d_Rounding_is_step fd) :
    FnOk P w K mg base (L2.CX P w) 8 (a_Rounding_is_step K) fd ["self", "number"] (spF K (Tt K) (c_Rounding_is_step K)) :=
  FnOk.impM (fnM (b := b_Rounding_is_step K) F sc_Rounding_is_step (fun cdv A outer s H E hr =>
    (pssm_one (psm_ret (pm_cmp (eq_own Z.nof_Ratio D_Ratio___eq__ (hr.mono (by decide)) passX Z.cm_Ratio___eq__) (pm_op (opm_own Z.opc_Ratio_mod Z.ots_Ratio_mod D_Ratio___mod__ (hr.mono (by decide)) passX) (pm_op (opm_own Z.opc_Ratio_sub Z.ots_Ratio_sub D_Ratio___sub__ (hr.mono (by decide)) passX) (pm_call (dv := []) (dd := []) D_need_number 0 (hr.mono (by decide)) rfl M.g_need_number passX (pam_cons (pmv 1) pam_nil) (fun _ => .nil)) (pm_fld (pmv 0) (by rfl))) pm_int) pm_int (nomark _)))))) (fun ds μ Q X h => cl_Rounding_is_step Z h)
theorem ok_Rounding_is_step {fd : FuncData} (M : MT mg K) (Z : Zf P w K mg) (D_Ratio___eq__ : DnM P w K mg base (Tt K) 5 (a_Ratio___eq__ K) ["self", "other"] [] (c_Ratio___eq__ K)) (D_Ratio___mod__ : DnM P w K mg base (Tt K) 7 (a_Ratio___mod__ K) ["self", "other"] [] (c_Ratio___mod__ K)) (D_Ratio___sub__ : DnM P w K mg base (Tt K) 6 (a_Ratio___sub__ K) ["self", "other"] [] (c_Ratio___sub__ K)) (D_need_number : DnM P w K mg base (Tt K) 5 (a_need_number K) ["value"] [] (c_need_number K)) (F : FnP K d_Rounding_is_step fd) :
    DnM P w K mg base (Tt K) 8 (a_Rounding_is_step K) ["self", "number"] [] (c_Rounding_is_step K) :=
  dn_mk F rfl (fun _ _ _ _ _ _ us hl => match us, hl with | [_, _], _ => rfl) (fo_Rounding_is_step M Z D_Ratio___eq__ D_Ratio___mod__ D_Ratio___sub__ D_need_number F)
/-! Rounding.behind -/
def b_Rounding_behind (K : PySem.W.Frag) : FS :=
    (sRet (mOp mAdd (mCallO "Rounding" 2 0 [.p 0, .p 1] [] (c_Rounding___call__ K) (mVar 0) (bArgs (mCons (mVar 1) mNil) mNil)) (mCall mInt [] (mCons (mAndV (mNotV (mFld K (mVar 0) "is_from")) (mMeth "Rounding" "is_step" (c_Rounding_is_step K) [] (mVar 0) (mCons (mVar 1) mNil))) mNil))))
def m_Rounding_behind (K : PySem.W.Frag) : FM := bodyM 2 2 (b_Rounding_behind K)
theorem cl_Rounding_behind (Z : Zf P w K mg) {ds : List D} {μ : MS} {Q : D → MS → Prop} {X : MX} (h : c_Rounding_behind K ds μ Q X) : m_Rounding_behind K ds μ Q X := by
  unfold c_Rounding_behind at h
  split at h
  · rename_i d1 d2
    split at h
    · rename_i q b e
      cases asRd_of e
      split at h
      · rename_i x e2
        obtain ⟨sx, rk, h⟩ := h
        have sx' : Sz 3900 x := sx.up (by decide)
        have bb := stp_bb q x
        unfold m_Rounding_behind b_Rounding_behind
        cases b with
        | true =>
          simp_arith [e2, asRd_rnd, sx', sx, rk]
          rw [Int.add_zero]
          exact h
        | false =>
          simp_arith [e2, asRd_rnd, sx', sx, rk]
          rw [show rnd q false x = bef q x from rfl, ← bb]
          exact h
      · rename_i e2
        unfold m_Rounding_behind b_Rounding_behind
        simp_arith [e2, asRd_rnd, h.1]
        exact h
    · exact h.elim
  · exact h.elim
theorem fo_Rounding_behind {fd : FuncData} (M : MT mg K) (Z : Zf P w K mg) (DK_Rounding___call___0 : DnK P w K mg base (Tt K) 6 (a_Rounding___call__ K) ["self", "number"] [] 2 [] [.p 0, .p 1] (c_Rounding___call__ K)) (D_Rounding_is_step : DnM P w K mg base (Tt K) 8 (a_Rounding_is_step K) ["self", "number"] [] (c_Rounding_is_step K)) (F : FnP K d_Rounding_behind fd) :
    FnOk P w K mg base (L2.CX P w) 9 (a_Rounding_behind K) fd ["self", "number"] (spF K (Tt K) (c_Rounding_behind K)) :=
  FnOk.impM (fnM (b := b_Rounding_behind K) F sc_Rounding_behind (fun cdv A outer s H E hr =>
    (pssm_one (psm_ret (pm_op o_add (pm_callO (ks := []) (c := "Rounding") (dd := []) (pmv 0) Z.callo_Rounding DK_Rounding___call___0 (hr.mono (by decide)) passX (pbm_2 (pam_cons (pmv 1) pam_nil) pkm_nil) (fun _ => .nil)) (pm_callTy f_int (by rfl) M.f_int (by decide +kernel) (pam_cons (pm_and (pm_not (pm_fld (pmv 0) (by rfl))) (pm_one (pm_meth (c := "Rounding") (dv := []) (dd := []) (pmv 0) Z.cls_Rounding.cls Z.mt_Rounding_is_step D_Rounding_is_step 0 (hr.mono (by decide)) passX (pam_cons (pmv 1) pam_nil) (fun _ => .nil)))) pam_nil))))))) (fun ds μ Q X h => cl_Rounding_behind Z h)
theorem ok_Rounding_behind {fd : FuncData} (M : MT mg K) (Z : Zf P w K mg) (DK_Rounding___call___0 : DnK P w K mg base (Tt K) 6 (a_Rounding___call__ K) ["self", "number"] [] 2 [] [.p 0, .p 1] (c_Rounding___call__ K)) (D_Rounding_is_step : DnM P w K mg base (Tt K) 8 (a_Rounding_is_step K) ["self", "number"] [] (c_Rounding_is_step K)) (F : FnP K d_Rounding_behind fd) :
    DnM P w K mg base (Tt K) 9 (a_Rounding_behind K) ["self", "number"] [] (c_Rounding_behind K) :=
  dn_mk F rfl (fun _ _ _ _ _ _ us hl => match us, hl with | [_, _], _ => rfl) (fo_Rounding_behind M Z DK_Rounding___call___0 D_Rounding_is_step F)
/-! Rounding.before -/
def b_Rounding_before (K : PySem.W.Frag) : FS :=
    (sRet (mOp mSub (mCallO "Rounding" 2 0 [.p 0, .p 1] [] (c_Rounding___call__ K) (mVar 0) (bArgs (mCons (mVar 1) mNil) mNil)) (mCall mInt [] (mCons (mAndV (mFld K (mVar 0) "is_from") (mMeth "Rounding" "is_step" (c_Rounding_is_step K) [] (mVar 0) (mCons (mVar 1) mNil))) mNil))))
def m_Rounding_before (K : PySem.W.Frag) : FM := bodyM 2 2 (b_Rounding_before K)
theorem cl_Rounding_before (Z : Zf P w K mg) {ds : List D} {μ : MS} {Q : D → MS → Prop} {X : MX} (h : c_Rounding_before K ds μ Q X) : m_Rounding_before K ds μ Q X := by
  unfold c_Rounding_before at h
  split at h
  · rename_i d1 d2
    split at h
    · rename_i q b e
      cases asRd_of e
      split at h
      · rename_i x e2
        obtain ⟨sx, rk, h⟩ := h
        have sx' : Sz 3900 x := sx.up (by decide)
        have bb := stp_bb q x
        unfold m_Rounding_before b_Rounding_before
        cases b with
        | true =>
          simp_arith [e2, asRd_rnd, sx', sx, rk]
          rw [show rnd q true x = beh q x from rfl, bb, Int.add_sub_cancel]
          exact h
        | false =>
          simp_arith [e2, asRd_rnd, sx', sx, rk]
          rw [Int.sub_zero]
          exact h
      · rename_i e2
        unfold m_Rounding_before b_Rounding_before
        simp_arith [e2, asRd_rnd, h.1]
        exact h
    · exact h.elim
  · exact h.elim
theorem fo_Rounding_before {fd : FuncData} (M : MT mg K) (Z : Zf P w K mg) (DK_Rounding___call___0 : DnK P w K mg base (Tt K) 6 (a_Rounding___call__ K) ["self", "number"] [] 2 [] [.p 0, .p 1] (c_Rounding___call__ K)) (D_Rounding_is_step : DnM P w K mg base (Tt K) 8 (a_Rounding_is_step K) ["self", "number"] [] (c_Rounding_is_step K)) (F : FnP K d_Rounding_before fd) :
    FnOk P w K mg base (L2.CX P w) 9 (a_Rounding_before K) fd ["self", "number"] (spF K (Tt K) (c_Rounding_before K)) :=
  FnOk.impM (fnM (b := b_Rounding_before K) F sc_Rounding_before (fun cdv A outer s H E hr =>
    (pssm_one (psm_ret (pm_op o_sub (pm_callO (ks := []) (c := "Rounding") (dd := []) (pmv 0) Z.callo_Rounding DK_Rounding___call___0 (hr.mono (by decide)) passX (pbm_2 (pam_cons (pmv 1) pam_nil) pkm_nil) (fun _ => .nil)) (pm_callTy f_int (by rfl) M.f_int (by decide +kernel) (pam_cons (pm_and (pm_fld (pmv 0) (by rfl)) (pm_one (pm_meth (c := "Rounding") (dv := []) (dd := []) (pmv 0) Z.cls_Rounding.cls Z.mt_Rounding_is_step D_Rounding_is_step 0 (hr.mono (by decide)) passX (pam_cons (pmv 1) pam_nil) (fun _ => .nil)))) pam_nil))))))) (fun ds μ Q X h => cl_Rounding_before Z h)
theorem ok_Rounding_before {fd : FuncData} (M : MT mg K) (Z : Zf P w K mg) (DK_Rounding___call___0 : DnK P w K mg base (Tt K) 6 (a_Rounding___call__ K) ["self", "number"] [] 2 [] [.p 0, .p 1] (c_Rounding___call__ K)) (D_Rounding_is_step : DnM P w K mg base (Tt K) 8 (a_Rounding_is_step K) ["self", "number"] [] (c_Rounding_is_step K)) (F : FnP K d_Rounding_before fd) :
    DnM P w K mg base (Tt K) 9 (a_Rounding_before K) ["self", "number"] [] (c_Rounding_before K) :=
  dn_mk F rfl (fun _ _ _ _ _ _ us hl => match us, hl with | [_, _], _ => rfl) (fo_Rounding_before M Z DK_Rounding___call___0 D_Rounding_is_step F)
end
end Mz

namespace Mz
open PySem PySem.Spec PyProof.Rows L2 AzX ClX LamX Hz He Az
local macro_rules | `(tactic| walk_at "ev") => `(tactic| simp (config := {decide := false}) only [↓mEqW.eq_1, ↓mNeW.eq_1, ↓mFmtO.eq_1, ↓mCallP.eq_1, ↓mMethP.eq_1, ↓mCMethP.eq_1, ↓mCallO.eq_1, ↓mMakeP.eq_1, ↓bArgs.eq_1, ↓selA.eq_1, ↓selA.eq_2, ↓selA.eq_3, ↓selA.eq_4, ↓mSorted.eq_1, Option.getD_some, Option.getD_none, ↓mLc.eq_1, ↓goLc.eq_1, ↓goLc.eq_2, ↓wipeM.eq_1, ↓wipeM.eq_2, ↓bodyM.eq_1, ↓mVar.eq_1, ↓mC.eq_1, ↓mOp.eq_1, ↓mTest.eq_1, ↓mChain.eq_1, ↓mUn.eq_1, ↓mTru.eq_1, ↓dTru.eq_1, ↓dTru.eq_2, ↓dTru.eq_3, ↓dTru.eq_4, ↓dTru.eq_5, ↓dTru.eq_6, ↓dTru.eq_7, ↓dTru.eq_8, ↓dTru.eq_9, ↓dTru.eq_10, ↓mTr.eq_1, ↓mAnd.eq_1, ↓mOr.eq_1, ↓mNot.eq_1, ↓mAndV.eq_1, ↓mOrV.eq_1, ↓mNotV.eq_1, ↓mIf.eq_1, ↓mNil.eq_1, ↓mCons.eq_1, ↓mTup.eq_1, ↓mLst.eq_1, ↓mLstM.eq_1, ↓mAlt.eq_1, ↓uAlt.eq_1, ↓tAlt.eq_1, ↓fAlt.eq_1, ↓eAlt.eq_1, ↓lAlt.eq_1, ↓bAlt.eq_1, ↓gmName.eq_1, ↓gmNil.eq_1, ↓gmNil.eq_2, ↓gmCons.eq_1, ↓gmCons.eq_2, ↓gmTup.eq_1, ↓gmTup.eq_2, ↓gmSub.eq_1, ↓mSetL.eq_1, ↓mSetL.eq_2, ↓sNext.eq_1, ↓sSeq.eq_1, ↓sBreak.eq_1, ↓sCont.eq_1, ↓sExpr.eq_1, ↓sRet.eq_1, ↓sRetN.eq_1, ↓sIf.eq_1, ↓sSet.eq_1, ↓sAsg.eq_1, ↓sPar.eq_1, ↓sPar3.eq_1, ↓sAug.eq_1, ↓sFldM.eq_1, ↓sFldAugM.eq_1, ↓sFor.eq_1, ↓iLs.eq_1, ↓iTupM.eq_1, ↓iRange1.eq_1, ↓mCall.eq_1, ↓isC.eq_1, ↓isC.eq_2, ↓isC.eq_3, ↓mMeth.eq_1, ↓insC.eq_1, ↓insC.eq_2, ↓insC.eq_3, ↓mProp.eq_1, ↓mFld.eq_1, ↓mOwn.eq_1, ↓mOwn.eq_2, ↓mOwnR.eq_1, ↓mOwnR.eq_2, ↓mCmpO.eq_1, ↓mCmpO.eq_2, ↓kNotM.eq_1, ↓kNotM.eq_2, ↓mNeO.eq_1, ↓mNeO.eq_2, ↓mNeR.eq_1, ↓mNeR.eq_2, ↓mOwnU.eq_1, ↓mOwnU.eq_2, ↓kBlM.eq_1, ↓kBlM.eq_2, ↓mTruO.eq_1, ↓mTruO.eq_2, ↓mBoolO.eq_1, ↓mBoolO.eq_2, ↓kStrM.eq_1, ↓kStrM.eq_2, ↓mStrO.eq_1, ↓mStrO.eq_2, ↓mII.eq_1, ↓mII.eq_2, ↓mII0.eq_1, ↓mII0.eq_2, ↓mNeg.eq_1, ↓mNeg.eq_2, ↓mAddS.eq_1, ↓mAddS.eq_2, ↓noneD.eq_1, ↓noneD.eq_2, ↓mIsN.eq_1, ↓mIsN.eq_2, ↓mNotN.eq_1, ↓mNotN.eq_2, ↓mIsB.eq_1, ↓mIsB.eq_2, ↓mInt.eq_1, ↓mInt.eq_2, ↓mInt.eq_3, ↓mIntS.eq_1, ↓mIntS.eq_2, ↓mAbs.eq_1, ↓mAbs.eq_2, ↓mLen.eq_1, ↓mLen.eq_2, ↓mLen.eq_3, ↓mListF.eq_1, ↓mListF.eq_2, ↓mListM.eq_1, ↓mListM.eq_2, ↓mTupF.eq_1, ↓mTupF.eq_2, ↓mTupF.eq_3, ↓mBool1.eq_1, ↓mBool1.eq_2, ↓mBool1.eq_3, ↓mStrI.eq_1, ↓mStrI.eq_2, ↓mIx.eq_1, ↓mIx.eq_2, ↓mIxS.eq_1, ↓mIxS.eq_2, ↓mSl.eq_1, ↓mSlL.eq_1, ↓mSlS.eq_1, ↓mSlS.eq_2, ↓oNone.eq_1, ↓oSome.eq_1, ↓seqD.eq_1, ↓seqD.eq_2, ↓seqD.eq_3, ↓seqD.eq_4, ↓seqD.eq_5, ↓lsD.eq_1, ↓lsD.eq_2, ↓lsD.eq_3, ↓lsD.eq_4, ↓mdD.eq_1, ↓mdD.eq_2, ↓mdD.eq_3, ↓mCatL.eq_1, ↓mRepL.eq_1, ↓mRepL.eq_2, ↓isT.eq_1, ↓isT.eq_2, ↓isT.eq_3, ↓isT.eq_4, ↓isT.eq_5, ↓isT.eq_6, ↓mBM.eq_1, ↓bAppend.eq_1, ↓bAppend.eq_2, ↓bSplit.eq_1, ↓bSplit.eq_2, ↓bStarts.eq_1, ↓bStarts.eq_2, ↓bJoin.eq_1, ↓bJoin.eq_2, ↓mFmt.eq_1, ↓sRaise.eq_1, ↓mXat.eq_1, ↓mDict0.eq_1, ↓mNotT.eq_1, ↓mIsi.eq_1, ↓mIsi.eq_2, ↓mIsi.eq_3, ↓tyI.eq_1, ↓tyI.eq_2, ↓tyD.eq_1, ↓tyD.eq_2, ↓tyD.eq_3, ↓tyD.eq_4, ↓tyD.eq_5, ↓tyD.eq_6, ↓tyD.eq_7, ↓tyD.eq_8, ↓tyD.eq_9, ↓tyD.eq_10, ↓tyD.eq_11, ↓clsD.eq_1, ↓clsD.eq_2, ↓clsD.eq_3, ↓clsDs.eq_1, ↓clsDs.eq_2, ↓needT.eq_1, ↓needT.eq_2, ↓needT.eq_3, ↓needT.eq_4, ↓mHeard.eq_1, ↓mAsk.eq_1, ↓sTry.eq_1, ↓sFrz.eq_1, List.getElem?_cons_zero, List.getElem?_cons_succ, List.getElem?_nil, List.set_cons_zero, List.set_cons_succ, List.set_nil, List.length_cons, List.length_nil, List.map_cons, List.map_nil, List.cons_append, List.nil_append, List.append_nil, List.replicate_zero, List.replicate_succ, List.zip_cons_cons, List.zip_nil_left, List.zip_nil_right, Nat.reduceAdd, Nat.reduceSub, Nat.reduceEqDiff, Nat.reduceLT, Nat.reduceLeDiff, Nat.zero_add, Nat.add_zero, Bool.not_true, Bool.not_false, Bool.not_not, true_and, and_true, false_and, and_false, true_or, or_true, false_or, or_false, if_true, if_false, ite_true, ite_false, Bool.false_eq_true, reduceIte, reduceCtorEq, eq_self_iff_true, and_self, or_self, put_same, del_same, decide_true, decide_false, String.reduceEq, List.mem_cons, List.not_mem_nil, Int.reduceNeg, Int.reduceEq, Int.reduceLT, ne_eq, not_true_eq_false, not_false_eq_true])
set_option hygiene false in
local macro_rules | `(tactic| walk_at "evz") => `(tactic| simp (config := {decide := false}) only [↓mEqW.eq_1, ↓mNeW.eq_1, ↓mFmtO.eq_1, ↓mCallP.eq_1, ↓mMethP.eq_1, ↓mCMethP.eq_1, ↓mCallO.eq_1, ↓mMakeP.eq_1, ↓bArgs.eq_1, ↓selA.eq_1, ↓selA.eq_2, ↓selA.eq_3, ↓selA.eq_4, ↓mSorted.eq_1, Option.getD_some, Option.getD_none, ↓mLc.eq_1, ↓goLc.eq_1, ↓goLc.eq_2, ↓wipeM.eq_1, ↓wipeM.eq_2, ↓bodyM.eq_1, ↓mVar.eq_1, ↓mC.eq_1, ↓mOp.eq_1, ↓mTest.eq_1, ↓mChain.eq_1, ↓mUn.eq_1, ↓mTru.eq_1, ↓dTru.eq_1, ↓dTru.eq_2, ↓dTru.eq_3, ↓dTru.eq_4, ↓dTru.eq_5, ↓dTru.eq_6, ↓dTru.eq_7, ↓dTru.eq_8, ↓dTru.eq_9, ↓dTru.eq_10, ↓mTr.eq_1, ↓mAnd.eq_1, ↓mOr.eq_1, ↓mNot.eq_1, ↓mAndV.eq_1, ↓mOrV.eq_1, ↓mNotV.eq_1, ↓mIf.eq_1, ↓mNil.eq_1, ↓mCons.eq_1, ↓mTup.eq_1, ↓mLst.eq_1, ↓mLstM.eq_1, ↓mAlt.eq_1, ↓uAlt.eq_1, ↓tAlt.eq_1, ↓fAlt.eq_1, ↓eAlt.eq_1, ↓lAlt.eq_1, ↓bAlt.eq_1, ↓gmName.eq_1, ↓gmNil.eq_1, ↓gmNil.eq_2, ↓gmCons.eq_1, ↓gmCons.eq_2, ↓gmTup.eq_1, ↓gmTup.eq_2, ↓gmSub.eq_1, ↓mSetL.eq_1, ↓mSetL.eq_2, ↓sNext.eq_1, ↓sSeq.eq_1, ↓sBreak.eq_1, ↓sCont.eq_1, ↓sExpr.eq_1, ↓sRet.eq_1, ↓sRetN.eq_1, ↓sIf.eq_1, ↓sSet.eq_1, ↓sAsg.eq_1, ↓sPar.eq_1, ↓sPar3.eq_1, ↓sAug.eq_1, ↓sFldM.eq_1, ↓sFldAugM.eq_1, ↓sFor.eq_1, ↓iLs.eq_1, ↓iTupM.eq_1, ↓iRange1.eq_1, ↓mCall.eq_1, ↓isC.eq_1, ↓isC.eq_2, ↓isC.eq_3, ↓mMeth.eq_1, ↓insC.eq_1, ↓insC.eq_2, ↓insC.eq_3, ↓mProp.eq_1, ↓mFld.eq_1, ↓mOwn.eq_1, ↓mOwn.eq_2, ↓mOwnR.eq_1, ↓mOwnR.eq_2, ↓mCmpO.eq_1, ↓mCmpO.eq_2, ↓kNotM.eq_1, ↓kNotM.eq_2, ↓mNeO.eq_1, ↓mNeO.eq_2, ↓mNeR.eq_1, ↓mNeR.eq_2, ↓mOwnU.eq_1, ↓mOwnU.eq_2, ↓kBlM.eq_1, ↓kBlM.eq_2, ↓mTruO.eq_1, ↓mTruO.eq_2, ↓mBoolO.eq_1, ↓mBoolO.eq_2, ↓kStrM.eq_1, ↓kStrM.eq_2, ↓mStrO.eq_1, ↓mStrO.eq_2, ↓mII.eq_1, ↓mII.eq_2, ↓mII0.eq_1, ↓mII0.eq_2, ↓mNeg.eq_1, ↓mNeg.eq_2, ↓mAddS.eq_1, ↓mAddS.eq_2, ↓noneD.eq_1, ↓noneD.eq_2, ↓mIsN.eq_1, ↓mIsN.eq_2, ↓mNotN.eq_1, ↓mNotN.eq_2, ↓mIsB.eq_1, ↓mIsB.eq_2, ↓mInt.eq_1, ↓mInt.eq_2, ↓mInt.eq_3, ↓mIntS.eq_1, ↓mIntS.eq_2, ↓mAbs.eq_1, ↓mAbs.eq_2, ↓mLen.eq_1, ↓mLen.eq_2, ↓mLen.eq_3, ↓mListF.eq_1, ↓mListF.eq_2, ↓mListM.eq_1, ↓mListM.eq_2, ↓mTupF.eq_1, ↓mTupF.eq_2, ↓mTupF.eq_3, ↓mBool1.eq_1, ↓mBool1.eq_2, ↓mBool1.eq_3, ↓mStrI.eq_1, ↓mStrI.eq_2, ↓mIx.eq_1, ↓mIx.eq_2, ↓mIxS.eq_1, ↓mIxS.eq_2, ↓mSl.eq_1, ↓mSlL.eq_1, ↓mSlS.eq_1, ↓mSlS.eq_2, ↓oNone.eq_1, ↓oSome.eq_1, ↓seqD.eq_1, ↓seqD.eq_2, ↓seqD.eq_3, ↓seqD.eq_4, ↓seqD.eq_5, ↓lsD.eq_1, ↓lsD.eq_2, ↓lsD.eq_3, ↓lsD.eq_4, ↓mdD.eq_1, ↓mdD.eq_2, ↓mdD.eq_3, ↓mCatL.eq_1, ↓mRepL.eq_1, ↓mRepL.eq_2, ↓isT.eq_1, ↓isT.eq_2, ↓isT.eq_3, ↓isT.eq_4, ↓isT.eq_5, ↓isT.eq_6, ↓mBM.eq_1, ↓bAppend.eq_1, ↓bAppend.eq_2, ↓bSplit.eq_1, ↓bSplit.eq_2, ↓bStarts.eq_1, ↓bStarts.eq_2, ↓bJoin.eq_1, ↓bJoin.eq_2, ↓mFmt.eq_1, ↓sRaise.eq_1, ↓mXat.eq_1, ↓mDict0.eq_1, ↓mNotT.eq_1, ↓mIsi.eq_1, ↓mIsi.eq_2, ↓mIsi.eq_3, ↓tyI.eq_1, ↓tyI.eq_2, ↓tyD.eq_1, ↓tyD.eq_2, ↓tyD.eq_3, ↓tyD.eq_4, ↓tyD.eq_5, ↓tyD.eq_6, ↓tyD.eq_7, ↓tyD.eq_8, ↓tyD.eq_9, ↓tyD.eq_10, ↓tyD.eq_11, ↓clsD.eq_1, ↓clsD.eq_2, ↓clsD.eq_3, ↓clsDs.eq_1, ↓clsDs.eq_2, ↓needT.eq_1, ↓needT.eq_2, ↓needT.eq_3, ↓needT.eq_4, ↓mHeard.eq_1, ↓mAsk.eq_1, ↓sTry.eq_1, ↓sFrz.eq_1, List.getElem?_cons_zero, List.getElem?_cons_succ, List.getElem?_nil, List.set_cons_zero, List.set_cons_succ, List.set_nil, List.length_cons, List.length_nil, List.map_cons, List.map_nil, List.cons_append, List.nil_append, List.append_nil, List.replicate_zero, List.replicate_succ, List.zip_cons_cons, List.zip_nil_left, List.zip_nil_right, Nat.reduceAdd, Nat.reduceSub, Nat.reduceEqDiff, Nat.reduceLT, Nat.reduceLeDiff, Nat.zero_add, Nat.add_zero, Bool.not_true, Bool.not_false, Bool.not_not, true_and, and_true, false_and, and_false, true_or, or_true, false_or, or_false, if_true, if_false, ite_true, ite_false, Bool.false_eq_true, reduceIte, reduceCtorEq, eq_self_iff_true, and_self, or_self, put_same, del_same, decide_true, decide_false, String.reduceEq, List.mem_cons, List.not_mem_nil, Int.reduceNeg, Int.reduceEq, Int.reduceLT, ne_eq, not_true_eq_false, not_false_eq_true, Z.kit_NoneType_int, Z.kit_bool_int, Z.kit_dict_int, Z.kit_int_int, Z.kit_list_int, Z.kit_str_int, Z.kit_tuple_int, Z.cls_Words, Z.cls_Words.cls, Z.kit_Words_int, Z.cls_Ratio, Z.cls_Ratio.cls, Z.kit_Ratio_int, Z.cls_Rounding, Z.cls_Rounding.cls, Z.kit_Rounding_int, Z.kit_NoneType_bool, Z.kit_bool_bool, Z.kit_dict_bool, Z.kit_int_bool, Z.kit_list_bool, Z.kit_str_bool, Z.kit_tuple_bool, Z.kit_Words_bool, Z.kit_Ratio_bool, Z.kit_Rounding_bool, Z.no_Ratio_over, Z.no_Ratio_under, Z.kit_NoneType_Ratio, Z.kit_bool_Ratio, Z.kit_dict_Ratio, Z.kit_int_Ratio, Z.kit_list_Ratio, Z.kit_str_Ratio, Z.kit_tuple_Ratio, Z.kit_Words_Ratio, Z.kit_Ratio_Ratio, Z.kit_Rounding_Ratio, Z.no_Rounding_threshold, Z.no_Rounding_is_from, lkF_self, asR_rat, toQ_rat, anyD_non, anyD_bl, anyD_int, anyD_str, anyD_tup, anyD_lst, anyD_wls, anyD_dict, isIntD_non, isIntD_bl, isIntD_int, isIntD_str, isIntD_tup, isIntD_lst, isIntD_wls, isIntD_dict, isNumD_non, isNumD_bl, isNumD_int, isNumD_str, isNumD_tup, isNumD_lst, isNumD_wls, isNumD_dict, toQ_non, toQ_bl, toQ_int, toQ_str, toQ_tup, toQ_lst, toQ_wls, toQ_dict, yOk_non, yOk_bl, yOk_int, yOk_str, yOk_tup, yOk_lst, yOk_wls, yOk_dict, cOk_non, cOk_bl, cOk_int, cOk_str, cOk_tup, cOk_lst, cOk_wls, cOk_dict, oddD, yOk_ins, cOk_ins, anyD_ins, isIntD_ins, isNumD_ins, BEq.rfl, mEqD_ii, mNeD_ii, mEqD_insL, mNeD_insL, mEqD_insR, mNeD_insR, asRd_rnd, put_put, Bool.false_or, Bool.or_false, Bool.or_true, Bool.true_or, Bool.and_true, Bool.true_and, Bool.and_false, Bool.false_and, Option.map_some, decide_eq_true_eq, lk_Ratio_over, pt_Ratio_over, lk_Ratio_under, pt_Ratio_under, nf_Ratio_divided, nf_Ratio_floor, lk_Words_all_words, pt_Words_all_words, lk_Words_taken, pt_Words_taken, lk_Rounding_threshold, pt_Rounding_threshold, lk_Rounding_is_from, pt_Rounding_is_from, nf_Rounding_stepped, nf_Rounding_is_step, nf_Rounding_before, nf_Rounding_behind, nf_Rounding_places, ↓c__law_pen.eq_1, ↓c__law_pen.eq_2, ↓c__law_draw.eq_1, ↓c__law_draw.eq_2, ↓c__law_pick.eq_1, ↓c__law_pick.eq_2, ↓c__law_frac.eq_1, ↓c__law_frac.eq_2, ↓c__law_number.eq_1, ↓c__law_number.eq_2, ↓c__law_kind.eq_1, ↓c__law_kind.eq_2, ↓c_is_integer.eq_1, ↓c_is_integer.eq_2, ↓c_divisor.eq_1, ↓c_divisor.eq_2, ↓c_new_Ratio.eq_1, ↓c_new_Ratio.eq_2, ↓c_new_Ratio.eq_3, ↓c_new_Ratio.eq_4, ↓c_is_number.eq_1, ↓c_is_number.eq_2, ↓c_Ratio_of.eq_1, ↓c_Ratio_of.eq_2, ↓c_Ratio___lt__.eq_1, ↓c_Ratio___lt__.eq_2, ↓c_Ratio___ge__.eq_1, ↓c_Ratio___ge__.eq_2, ↓c_Ratio___gt__.eq_1, ↓c_Ratio___gt__.eq_2, ↓c_Ratio___le__.eq_1, ↓c_Ratio___le__.eq_2, ↓c_is_same.eq_1, ↓c_is_same.eq_2, ↓c_Ratio___eq__.eq_1, ↓c_Ratio___eq__.eq_2, ↓c_Ratio___bool__.eq_1, ↓c_Ratio___bool__.eq_2, ↓c_new_Rounding.eq_1, ↓c_new_Rounding.eq_2, ↓c__law_rounding.eq_1, ↓c__law_rounding.eq_2, ↓c_Ratio___add__.eq_1, ↓c_Ratio___add__.eq_2, ↓c_need_number.eq_1, ↓c_need_number.eq_2, ↓c_Rounding_stepped.eq_1, ↓c_Rounding_stepped.eq_2, ↓c_Rounding___call__.eq_1, ↓c_Rounding___call__.eq_2, ↓c_Ratio___neg__.eq_1, ↓c_Ratio___neg__.eq_2, ↓c_Ratio___sub__.eq_1, ↓c_Ratio___sub__.eq_2, ↓c_Ratio_divided.eq_1, ↓c_Ratio_divided.eq_2, ↓c_Ratio_floor.eq_1, ↓c_Ratio_floor.eq_2, ↓c_Ratio___floordiv__.eq_1, ↓c_Ratio___floordiv__.eq_2, ↓c_Ratio___mul__.eq_1, ↓c_Ratio___mul__.eq_2, ↓c_Ratio___mod__.eq_1, ↓c_Ratio___mod__.eq_2, ↓c_Rounding_is_step.eq_1, ↓c_Rounding_is_step.eq_2, ↓c_Rounding_behind.eq_1, ↓c_Rounding_behind.eq_2, ↓c_Rounding_before.eq_1, ↓c_Rounding_before.eq_2, ↓c_Rounding_places.eq_1, ↓c_Rounding_places.eq_2, ↓c__law_right.eq_1, ↓c__law_right.eq_2, ↓c_law.eq_1, ↓c_law.eq_2])
set_option hygiene false in
local macro_rules | `(tactic| simp_arith [$ts,*]) => `(tactic| simp (config := {decide := false}) only [↓mEqW.eq_1, ↓mNeW.eq_1, ↓mFmtO.eq_1, ↓mCallP.eq_1, ↓mMethP.eq_1, ↓mCMethP.eq_1, ↓mCallO.eq_1, ↓mMakeP.eq_1, ↓bArgs.eq_1, ↓selA.eq_1, ↓selA.eq_2, ↓selA.eq_3, ↓selA.eq_4, ↓mSorted.eq_1, Option.getD_some, Option.getD_none, ↓mLc.eq_1, ↓goLc.eq_1, ↓goLc.eq_2, ↓wipeM.eq_1, ↓wipeM.eq_2, ↓bodyM.eq_1, ↓mVar.eq_1, ↓mC.eq_1, ↓mOp.eq_1, ↓mTest.eq_1, ↓mChain.eq_1, ↓mUn.eq_1, ↓mTru.eq_1, ↓dTru.eq_1, ↓dTru.eq_2, ↓dTru.eq_3, ↓dTru.eq_4, ↓dTru.eq_5, ↓dTru.eq_6, ↓dTru.eq_7, ↓dTru.eq_8, ↓dTru.eq_9, ↓dTru.eq_10, ↓mTr.eq_1, ↓mAnd.eq_1, ↓mOr.eq_1, ↓mNot.eq_1, ↓mAndV.eq_1, ↓mOrV.eq_1, ↓mNotV.eq_1, ↓mIf.eq_1, ↓mNil.eq_1, ↓mCons.eq_1, ↓mTup.eq_1, ↓mLst.eq_1, ↓mLstM.eq_1, ↓mAlt.eq_1, ↓uAlt.eq_1, ↓tAlt.eq_1, ↓fAlt.eq_1, ↓eAlt.eq_1, ↓lAlt.eq_1, ↓bAlt.eq_1, ↓gmName.eq_1, ↓gmNil.eq_1, ↓gmNil.eq_2, ↓gmCons.eq_1, ↓gmCons.eq_2, ↓gmTup.eq_1, ↓gmTup.eq_2, ↓gmSub.eq_1, ↓mSetL.eq_1, ↓mSetL.eq_2, ↓sNext.eq_1, ↓sSeq.eq_1, ↓sBreak.eq_1, ↓sCont.eq_1, ↓sExpr.eq_1, ↓sRet.eq_1, ↓sRetN.eq_1, ↓sIf.eq_1, ↓sSet.eq_1, ↓sAsg.eq_1, ↓sPar.eq_1, ↓sPar3.eq_1, ↓sAug.eq_1, ↓sFldM.eq_1, ↓sFldAugM.eq_1, ↓sFor.eq_1, ↓iLs.eq_1, ↓iTupM.eq_1, ↓iRange1.eq_1, ↓mCall.eq_1, ↓isC.eq_1, ↓isC.eq_2, ↓isC.eq_3, ↓mMeth.eq_1, ↓insC.eq_1, ↓insC.eq_2, ↓insC.eq_3, ↓mProp.eq_1, ↓mFld.eq_1, ↓mOwn.eq_1, ↓mOwn.eq_2, ↓mOwnR.eq_1, ↓mOwnR.eq_2, ↓mCmpO.eq_1, ↓mCmpO.eq_2, ↓kNotM.eq_1, ↓kNotM.eq_2, ↓mNeO.eq_1, ↓mNeO.eq_2, ↓mNeR.eq_1, ↓mNeR.eq_2, ↓mOwnU.eq_1, ↓mOwnU.eq_2, ↓kBlM.eq_1, ↓kBlM.eq_2, ↓mTruO.eq_1, ↓mTruO.eq_2, ↓mBoolO.eq_1, ↓mBoolO.eq_2, ↓kStrM.eq_1, ↓kStrM.eq_2, ↓mStrO.eq_1, ↓mStrO.eq_2, ↓mII.eq_1, ↓mII.eq_2, ↓mII0.eq_1, ↓mII0.eq_2, ↓mNeg.eq_1, ↓mNeg.eq_2, ↓mAddS.eq_1, ↓mAddS.eq_2, ↓noneD.eq_1, ↓noneD.eq_2, ↓mIsN.eq_1, ↓mIsN.eq_2, ↓mNotN.eq_1, ↓mNotN.eq_2, ↓mIsB.eq_1, ↓mIsB.eq_2, ↓mInt.eq_1, ↓mInt.eq_2, ↓mInt.eq_3, ↓mIntS.eq_1, ↓mIntS.eq_2, ↓mAbs.eq_1, ↓mAbs.eq_2, ↓mLen.eq_1, ↓mLen.eq_2, ↓mLen.eq_3, ↓mListF.eq_1, ↓mListF.eq_2, ↓mListM.eq_1, ↓mListM.eq_2, ↓mTupF.eq_1, ↓mTupF.eq_2, ↓mTupF.eq_3, ↓mBool1.eq_1, ↓mBool1.eq_2, ↓mBool1.eq_3, ↓mStrI.eq_1, ↓mStrI.eq_2, ↓mIx.eq_1, ↓mIx.eq_2, ↓mIxS.eq_1, ↓mIxS.eq_2, ↓mSl.eq_1, ↓mSlL.eq_1, ↓mSlS.eq_1, ↓mSlS.eq_2, ↓oNone.eq_1, ↓oSome.eq_1, ↓seqD.eq_1, ↓seqD.eq_2, ↓seqD.eq_3, ↓seqD.eq_4, ↓seqD.eq_5, ↓lsD.eq_1, ↓lsD.eq_2, ↓lsD.eq_3, ↓lsD.eq_4, ↓mdD.eq_1, ↓mdD.eq_2, ↓mdD.eq_3, ↓mCatL.eq_1, ↓mRepL.eq_1, ↓mRepL.eq_2, ↓isT.eq_1, ↓isT.eq_2, ↓isT.eq_3, ↓isT.eq_4, ↓isT.eq_5, ↓isT.eq_6, ↓mBM.eq_1, ↓bAppend.eq_1, ↓bAppend.eq_2, ↓bSplit.eq_1, ↓bSplit.eq_2, ↓bStarts.eq_1, ↓bStarts.eq_2, ↓bJoin.eq_1, ↓bJoin.eq_2, ↓mFmt.eq_1, ↓sRaise.eq_1, ↓mXat.eq_1, ↓mDict0.eq_1, ↓mNotT.eq_1, ↓mIsi.eq_1, ↓mIsi.eq_2, ↓mIsi.eq_3, ↓tyI.eq_1, ↓tyI.eq_2, ↓tyD.eq_1, ↓tyD.eq_2, ↓tyD.eq_3, ↓tyD.eq_4, ↓tyD.eq_5, ↓tyD.eq_6, ↓tyD.eq_7, ↓tyD.eq_8, ↓tyD.eq_9, ↓tyD.eq_10, ↓tyD.eq_11, ↓clsD.eq_1, ↓clsD.eq_2, ↓clsD.eq_3, ↓clsDs.eq_1, ↓clsDs.eq_2, ↓needT.eq_1, ↓needT.eq_2, ↓needT.eq_3, ↓needT.eq_4, ↓mHeard.eq_1, ↓mAsk.eq_1, ↓sTry.eq_1, ↓sFrz.eq_1, List.getElem?_cons_zero, List.getElem?_cons_succ, List.getElem?_nil, List.set_cons_zero, List.set_cons_succ, List.set_nil, List.length_cons, List.length_nil, List.map_cons, List.map_nil, List.cons_append, List.nil_append, List.append_nil, List.replicate_zero, List.replicate_succ, List.zip_cons_cons, List.zip_nil_left, List.zip_nil_right, Nat.reduceAdd, Nat.reduceSub, Nat.reduceEqDiff, Nat.reduceLT, Nat.reduceLeDiff, Nat.zero_add, Nat.add_zero, Bool.not_true, Bool.not_false, Bool.not_not, true_and, and_true, false_and, and_false, true_or, or_true, false_or, or_false, if_true, if_false, ite_true, ite_false, Bool.false_eq_true, reduceIte, reduceCtorEq, eq_self_iff_true, and_self, or_self, put_same, del_same, decide_true, decide_false, String.reduceEq, List.mem_cons, List.not_mem_nil, Int.reduceNeg, Int.reduceEq, Int.reduceLT, ne_eq, not_true_eq_false, not_false_eq_true, Z.kit_NoneType_int, Z.kit_bool_int, Z.kit_dict_int, Z.kit_int_int, Z.kit_list_int, Z.kit_str_int, Z.kit_tuple_int, Z.cls_Words, Z.cls_Words.cls, Z.kit_Words_int, Z.cls_Ratio, Z.cls_Ratio.cls, Z.kit_Ratio_int, Z.cls_Rounding, Z.cls_Rounding.cls, Z.kit_Rounding_int, Z.kit_NoneType_bool, Z.kit_bool_bool, Z.kit_dict_bool, Z.kit_int_bool, Z.kit_list_bool, Z.kit_str_bool, Z.kit_tuple_bool, Z.kit_Words_bool, Z.kit_Ratio_bool, Z.kit_Rounding_bool, Z.no_Ratio_over, Z.no_Ratio_under, Z.kit_NoneType_Ratio, Z.kit_bool_Ratio, Z.kit_dict_Ratio, Z.kit_int_Ratio, Z.kit_list_Ratio, Z.kit_str_Ratio, Z.kit_tuple_Ratio, Z.kit_Words_Ratio, Z.kit_Ratio_Ratio, Z.kit_Rounding_Ratio, Z.no_Rounding_threshold, Z.no_Rounding_is_from, lkF_self, asR_rat, toQ_rat, anyD_non, anyD_bl, anyD_int, anyD_str, anyD_tup, anyD_lst, anyD_wls, anyD_dict, isIntD_non, isIntD_bl, isIntD_int, isIntD_str, isIntD_tup, isIntD_lst, isIntD_wls, isIntD_dict, isNumD_non, isNumD_bl, isNumD_int, isNumD_str, isNumD_tup, isNumD_lst, isNumD_wls, isNumD_dict, toQ_non, toQ_bl, toQ_int, toQ_str, toQ_tup, toQ_lst, toQ_wls, toQ_dict, yOk_non, yOk_bl, yOk_int, yOk_str, yOk_tup, yOk_lst, yOk_wls, yOk_dict, cOk_non, cOk_bl, cOk_int, cOk_str, cOk_tup, cOk_lst, cOk_wls, cOk_dict, oddD, yOk_ins, cOk_ins, anyD_ins, isIntD_ins, isNumD_ins, BEq.rfl, mEqD_ii, mNeD_ii, mEqD_insL, mNeD_insL, mEqD_insR, mNeD_insR, asRd_rnd, put_put, Bool.false_or, Bool.or_false, Bool.or_true, Bool.true_or, Bool.and_true, Bool.true_and, Bool.and_false, Bool.false_and, Option.map_some, decide_eq_true_eq, lk_Ratio_over, pt_Ratio_over, lk_Ratio_under, pt_Ratio_under, nf_Ratio_divided, nf_Ratio_floor, lk_Words_all_words, pt_Words_all_words, lk_Words_taken, pt_Words_taken, lk_Rounding_threshold, pt_Rounding_threshold, lk_Rounding_is_from, pt_Rounding_is_from, nf_Rounding_stepped, nf_Rounding_is_step, nf_Rounding_before, nf_Rounding_behind, nf_Rounding_places, ↓c__law_pen.eq_1, ↓c__law_pen.eq_2, ↓c__law_draw.eq_1, ↓c__law_draw.eq_2, ↓c__law_pick.eq_1, ↓c__law_pick.eq_2, ↓c__law_frac.eq_1, ↓c__law_frac.eq_2, ↓c__law_number.eq_1, ↓c__law_number.eq_2, ↓c__law_kind.eq_1, ↓c__law_kind.eq_2, ↓c_is_integer.eq_1, ↓c_is_integer.eq_2, ↓c_divisor.eq_1, ↓c_divisor.eq_2, ↓c_new_Ratio.eq_1, ↓c_new_Ratio.eq_2, ↓c_new_Ratio.eq_3, ↓c_new_Ratio.eq_4, ↓c_is_number.eq_1, ↓c_is_number.eq_2, ↓c_Ratio_of.eq_1, ↓c_Ratio_of.eq_2, ↓c_Ratio___lt__.eq_1, ↓c_Ratio___lt__.eq_2, ↓c_Ratio___ge__.eq_1, ↓c_Ratio___ge__.eq_2, ↓c_Ratio___gt__.eq_1, ↓c_Ratio___gt__.eq_2, ↓c_Ratio___le__.eq_1, ↓c_Ratio___le__.eq_2, ↓c_is_same.eq_1, ↓c_is_same.eq_2, ↓c_Ratio___eq__.eq_1, ↓c_Ratio___eq__.eq_2, ↓c_Ratio___bool__.eq_1, ↓c_Ratio___bool__.eq_2, ↓c_new_Rounding.eq_1, ↓c_new_Rounding.eq_2, ↓c__law_rounding.eq_1, ↓c__law_rounding.eq_2, ↓c_Ratio___add__.eq_1, ↓c_Ratio___add__.eq_2, ↓c_need_number.eq_1, ↓c_need_number.eq_2, ↓c_Rounding_stepped.eq_1, ↓c_Rounding_stepped.eq_2, ↓c_Rounding___call__.eq_1, ↓c_Rounding___call__.eq_2, ↓c_Ratio___neg__.eq_1, ↓c_Ratio___neg__.eq_2, ↓c_Ratio___sub__.eq_1, ↓c_Ratio___sub__.eq_2, ↓c_Ratio_divided.eq_1, ↓c_Ratio_divided.eq_2, ↓c_Ratio_floor.eq_1, ↓c_Ratio_floor.eq_2, ↓c_Ratio___floordiv__.eq_1, ↓c_Ratio___floordiv__.eq_2, ↓c_Ratio___mul__.eq_1, ↓c_Ratio___mul__.eq_2, ↓c_Ratio___mod__.eq_1, ↓c_Ratio___mod__.eq_2, ↓c_Rounding_is_step.eq_1, ↓c_Rounding_is_step.eq_2, ↓c_Rounding_behind.eq_1, ↓c_Rounding_behind.eq_2, ↓c_Rounding_before.eq_1, ↓c_Rounding_before.eq_2, ↓c_Rounding_places.eq_1, ↓c_Rounding_places.eq_2, ↓c__law_right.eq_1, ↓c__law_right.eq_2, ↓c_law.eq_1, ↓c_law.eq_2, $ts,*])
section
variable {P : Program} {w : World} {K : PySem.W.Frag} {mg : Str → Option Value} {base : Heap}
/-! Rounding.places -/
def b_Rounding_places (K : PySem.W.Frag) : FS :=
    (sSeq (sIf (mNot (mTr mTru (mCall (c_is_integer K) [] (mCons (mVar 1) mNil))))
      (sRaise "BadNumber" ["value"] (mCons (mVar 1) mNil))
      sNext)
    (sRet (mTup (mCons (mOp (mOwn "Ratio" (c_Ratio___add__ K)) (mFld K (mVar 0) "threshold") (mOp (mAlt (mOwn "Ratio" (c_Ratio___sub__ K)) mSub) (mVar 1) (mC (.int 1)))) (mCons (mFld K (mVar 0) "is_from") (mCons (mOp (mOwn "Ratio" (c_Ratio___add__ K)) (mFld K (mVar 0) "threshold") (mVar 1)) (mCons (mNotV (mFld K (mVar 0) "is_from")) mNil)))))))
def m_Rounding_places (K : PySem.W.Frag) : FM := bodyM 2 2 (b_Rounding_places K)
theorem cl_Rounding_places (Z : Zf P w K mg) {ds : List D} {μ : MS} {Q : D → MS → Prop} {X : MX} (h : c_Rounding_places K ds μ Q X) : m_Rounding_places K ds μ Q X := by
  unfold c_Rounding_places at h
  split at h
  · rename_i d1 p
    split at h
    · rename_i q b e
      cases asRd_of e
      obtain ⟨sp, rk, h⟩ := h
      have s1 : Sz 3900 (p : Rat) := (Sz.int (n := 400) sp).up (by decide)
      have s2 : Sz 3900 ((p - 1 : Int) : Rat) := (Sz.int (n := 402) (by omega)).up (by decide)
      have sq' : Sz 3900 q := rk.sz.up (by decide)
      unfold m_Rounding_places b_Rounding_places
      simp_arith [s1, s2, sq']
      exact ⟨by decide, h⟩
    · exact h.elim
  · exact h.elim
theorem fo_Rounding_places {fd : FuncData} (M : MT mg K) (Z : Zf P w K mg) (D_Ratio___add__ : DnM P w K mg base (Tt K) 5 (a_Ratio___add__ K) ["self", "other"] [] (c_Ratio___add__ K)) (D_Ratio___sub__ : DnM P w K mg base (Tt K) 6 (a_Ratio___sub__ K) ["self", "other"] [] (c_Ratio___sub__ K)) (D_is_integer : DnM P w K mg base (Tt K) 1 (a_is_integer K) ["value"] [] (c_is_integer K)) (F : FnP K d_Rounding_places fd) :
    FnOk P w K mg base (L2.CX P w) 7 (a_Rounding_places K) fd ["self", "pixel"] (spF K (Tt K) (c_Rounding_places K)) :=
  FnOk.impM (fnM (b := b_Rounding_places K) F sc_Rounding_places (fun cdv A outer s H E hr =>
    (pssm_cons (psm_if (ptm_not (ptm_tru tm_tru (pm_call (dv := []) (dd := []) D_is_integer 0 (hr.mono (by decide)) rfl M.g_is_integer passX (pam_cons (pmv 1) pam_nil) (fun _ => .nil)) (by intro _; rfl)))
      (pssm_one (psm_raise (c := "BadNumber") (names := ["value"]) (by rfl) takeX Z.err_BadNumber hr rfl M.g_BadNumber (pam_cons (pmv 1) pam_nil)))
      pssm_nil)
    (pssm_one (psm_ret (pm_tup (pam_cons (pm_op (opm_own Z.opc_Ratio_add Z.ots_Ratio_add D_Ratio___add__ (hr.mono (by decide)) passX) (pm_fld (pmv 0) (by rfl)) (pm_op (OpM.alt (opm_own Z.opc_Ratio_sub Z.ots_Ratio_sub D_Ratio___sub__ (hr.mono (by decide)) passX) o_sub) (pmv 1) pm_int)) (pam_cons (pm_fld (pmv 0) (by rfl)) (pam_cons (pm_op (opm_own Z.opc_Ratio_add Z.ots_Ratio_add D_Ratio___add__ (hr.mono (by decide)) passX) (pm_fld (pmv 0) (by rfl)) (pmv 1)) (pam_cons (pm_not (pm_fld (pmv 0) (by rfl))) pam_nil)))))))))) (fun ds μ Q X h => cl_Rounding_places Z h)
theorem ok_Rounding_places {fd : FuncData} (M : MT mg K) (Z : Zf P w K mg) (D_Ratio___add__ : DnM P w K mg base (Tt K) 5 (a_Ratio___add__ K) ["self", "other"] [] (c_Ratio___add__ K)) (D_Ratio___sub__ : DnM P w K mg base (Tt K) 6 (a_Ratio___sub__ K) ["self", "other"] [] (c_Ratio___sub__ K)) (D_is_integer : DnM P w K mg base (Tt K) 1 (a_is_integer K) ["value"] [] (c_is_integer K)) (F : FnP K d_Rounding_places fd) :
    DnM P w K mg base (Tt K) 7 (a_Rounding_places K) ["self", "pixel"] [] (c_Rounding_places K) :=
  dn_mk F rfl (fun _ _ _ _ _ _ us hl => match us, hl with | [_, _], _ => rfl) (fo_Rounding_places M Z D_Ratio___add__ D_Ratio___sub__ D_is_integer F)
/-! _law_right -/
def b__law_right (K : PySem.W.Frag) : FS :=
    (sSeq (sPar3 1 2 3 (mCons (mCall (c__law_kind K) [] (mCons (mVar 0) mNil)) (mCons (mCall (c__law_number K) [] (mCons (mVar 0) mNil)) (mCons (mCall (c__law_number K) [] (mCons (mVar 0) mNil)) mNil))))
    (sSeq (sPar3 4 5 6 (mCons (mCall (c__law_rounding K) [] (mCons (mVar 1) mNil)) (mCons (mCall (c_new_Ratio K) [] (mCons (mOp mIx (mVar 2) (mC (.int 0))) (mCons (mOp mIx (mVar 2) (mC (.int 1))) mNil))) (mCons (mCall (c_new_Ratio K) [] (mCons (mOp mIx (mVar 3) (mC (.int 0))) (mCons (mOp mIx (mVar 3) (mC (.int 1))) mNil))) mNil))))
    (sSeq (sSet 7 (mCall (c__law_pick K) [] (mCons (mVar 0) (mCons (mLst (mCons (mC (.int 1)) (mCons (mUn mNeg (mC (.int 1))) (mCons (mC (.int 7)) (mCons (mOp mPow (mC (.int 10)) (mC (.int 30))) (mCons (mUn mNeg (mOp mPow (mC (.int 10)) (mC (.int 29)))) (mCons (mCall (c__law_draw K) [] (mCons (mVar 0) (mCons (mC (.int 100)) mNil))) mNil))))))) mNil))))
    (sSeq (sIf (mTest (mOp mNeD (mLst (mCons (mCallO "Rounding" 2 0 [.p 0, .p 1] [] (c_Rounding___call__ K) (mVar 4) (bArgs (mCons (mOp (mOwn "Ratio" (c_Ratio___add__ K)) (mVar 5) (mVar 7)) mNil) mNil)) (mCons (mMeth "Rounding" "before" (c_Rounding_before K) [] (mVar 4) (mCons (mOp (mOwn "Ratio" (c_Ratio___add__ K)) (mVar 5) (mVar 7)) mNil)) (mCons (mMeth "Rounding" "behind" (c_Rounding_behind K) [] (mVar 4) (mCons (mOp (mOwn "Ratio" (c_Ratio___add__ K)) (mVar 5) (mVar 7)) mNil)) mNil)))) (mLst (mCons (mOp mAdd (mCallO "Rounding" 2 0 [.p 0, .p 1] [] (c_Rounding___call__ K) (mVar 4) (bArgs (mCons (mVar 5) mNil) mNil)) (mVar 7)) (mCons (mOp mAdd (mMeth "Rounding" "before" (c_Rounding_before K) [] (mVar 4) (mCons (mVar 5) mNil)) (mVar 7)) (mCons (mOp mAdd (mMeth "Rounding" "behind" (c_Rounding_behind K) [] (mVar 4) (mCons (mVar 5) mNil)) (mVar 7)) mNil))))))
      (sRet (mC (.bl false)))
      sNext)
    (sSeq (sIf (mOr (mAnd (mTest (mOp (mCmpO "Ratio" ["Words", "Rounding"] (c_Ratio___le__ K)) (mVar 5) (mVar 6))) (mNot (mTest (mOp mLe (mCallO "Rounding" 2 0 [.p 0, .p 1] [] (c_Rounding___call__ K) (mVar 4) (bArgs (mCons (mVar 5) mNil) mNil)) (mCallO "Rounding" 2 0 [.p 0, .p 1] [] (c_Rounding___call__ K) (mVar 4) (bArgs (mCons (mVar 6) mNil) mNil)))))) (mAnd (mTest (mOp (mCmpO "Ratio" ["Words", "Rounding"] (c_Ratio___le__ K)) (mVar 6) (mVar 5))) (mNot (mTest (mOp mLe (mCallO "Rounding" 2 0 [.p 0, .p 1] [] (c_Rounding___call__ K) (mVar 4) (bArgs (mCons (mVar 6) mNil) mNil)) (mCallO "Rounding" 2 0 [.p 0, .p 1] [] (c_Rounding___call__ K) (mVar 4) (bArgs (mCons (mVar 5) mNil) mNil)))))))
      (sRet (mC (.bl false)))
      sNext)
    (sSeq (sIf (mAnd (mTest (mOp (mCmpO "Ratio" ["Words", "Rounding"] (c_Ratio___lt__ K)) (mVar 5) (mVar 6))) (mNot (mTest (mOp mLe (mMeth "Rounding" "behind" (c_Rounding_behind K) [] (mVar 4) (mCons (mVar 5) mNil)) (mMeth "Rounding" "before" (c_Rounding_before K) [] (mVar 4) (mCons (mVar 6) mNil))))))
      (sRet (mC (.bl false)))
      sNext)
    (sSeq (sSet 8 (mLst (mCons (mMeth "Rounding" "before" (c_Rounding_before K) [] (mVar 4) (mCons (mVar 5) mNil)) (mCons (mCallO "Rounding" 2 0 [.p 0, .p 1] [] (c_Rounding___call__ K) (mVar 4) (bArgs (mCons (mVar 5) mNil) mNil)) (mCons (mMeth "Rounding" "behind" (c_Rounding_behind K) [] (mVar 4) (mCons (mVar 5) mNil)) mNil)))))
    (sSeq (sIf (mOr (mTest (mOp mNeD (mVar 8) (mCall mSorted [] (mCons (mLc (iLs (mVar 8)) (gmName 9) mYes (mCall mInt [] (mCons (mVar 9) mNil)) [9]) mNil)))) (mTest (mOp mNeD (mOp mSub (mOp mIx (mVar 8) (mC (.int 2))) (mOp mIx (mVar 8) (mC (.int 0)))) (mCall mInt [] (mCons (mMeth "Rounding" "is_step" (c_Rounding_is_step K) [] (mVar 4) (mCons (mVar 5) mNil)) mNil)))))
      (sRet (mC (.bl false)))
      sNext)
    (sSeq (sAsg (mMeth "Rounding" "places" (c_Rounding_places K) [] (mVar 4) (mCons (mCallO "Rounding" 2 0 [.p 0, .p 1] [] (c_Rounding___call__ K) (mVar 4) (bArgs (mCons (mVar 5) mNil) mNil)) mNil)) (gmTup 4 (gmCons (gmName 10) (gmCons (gmName 11) (gmCons (gmName 12) (gmCons (gmName 13) gmNil))))))
    (sSeq (sIf (mOr (mNot (mTest (mChain (mCmpO "Ratio" ["Words", "Rounding"] (c_Ratio___le__ K)) (mCmpO "Ratio" ["Words", "Rounding"] (c_Ratio___le__ K)) (mVar 10) (mVar 5) (mVar 12)))) (mOr (mAnd (mTest (mOp (mCmpO "Ratio" ["Words", "Rounding"] (c_Ratio___eq__ K)) (mVar 5) (mVar 10))) (mNot (mTr mTru (mVar 11)))) (mAnd (mTest (mOp (mCmpO "Ratio" ["Words", "Rounding"] (c_Ratio___eq__ K)) (mVar 5) (mVar 12))) (mNot (mTr mTru (mVar 13))))))
      (sRet (mC (.bl false)))
      sNext)
    (sSeq (sSet 14 (mOp mAdd (mC (.int 1)) (mCall (c__law_draw K) [] (mCons (mVar 0) (mCons (mC (.int 12)) mNil)))))
    (sSeq (sSet 15 (mOp mSub (mOp mMul (mVar 14) (mCallO "Rounding" 2 0 [.p 0, .p 1] [] (c_Rounding___call__ K) (mVar 4) (bArgs (mCons (mVar 5) mNil) mNil))) (mCallO "Rounding" 2 0 [.p 0, .p 1] [] (c_Rounding___call__ K) (mVar 4) (bArgs (mCons (mOp (mOwn "Ratio" (c_Ratio___mul__ K)) (mVar 5) (mVar 14)) mNil) mNil))))
    (sRet (mChain mLe mLe (mOp mSub (mC (.int 1)) (mVar 14)) (mVar 15) (mOp mSub (mVar 14) (mC (.int 1)))))))))))))))))
def m__law_right (K : PySem.W.Frag) : FM := bodyM 1 16 (b__law_right K)
theorem cl__law_right (Z : Zf P w K mg) {ds : List D} {μ : MS} {Q : D → MS → Prop} {X : MX} (h : c__law_right K ds μ Q X) : m__law_right K ds μ Q X := by
  unfold c__law_right at h
  split at h
  · rename_i a
    obtain ⟨v, n, hv, hp, hn, k⟩ := h
    unfold m__law_right
    refine body_gen fun R hR => ?_
    simp_arith []
    subst hR
    unfold b__law_right
    refine seq_gen fun R hR => ?_
    simp_arith []
    refine ⟨v, n, hv, hp, by omega, fun p q b v1 p0 pq q0 q5 hb hp1 => ⟨_, _, rfl, hp1, by omega, fun x v2 sx hp2 => ⟨_, _, rfl, hp2, by omega, fun y v3 sy hp3 => ?_⟩⟩⟩
    subst hR
    refine seq_gen fun R hR => ?_
    have nx : (x.den : Int) ≠ 0 := den_neI x
    have ny : (y.den : Int) ≠ 0 := den_neI y
    have dx : (x.den : Int).natAbs < 2 ^ 8000 := den_abs (sx.up (by decide))
    have dy : (y.den : Int).natAbs < 2 ^ 8000 := den_abs (sy.up (by decide))
    simp_arith [atI_0, atI_1, nx, ny, dx, dy, ← rat_eq_frac]
    refine ⟨p0, pq, q0, q5, hb, fun rk => ?_⟩
    generalize (p : Rat) / (q : Rat) = t at rk ⊢
    subst hR
    have e30 : ipow 10 (Int.toNat 30) = 1000000000000000000000000000000 := by rw [ipow_eq]; decide
    have e29 : ipow 10 (Int.toNat 29) = 100000000000000000000000000000 := by rw [ipow_eq]; decide
    have e100 : (2 : Nat) ^ 100 = 1267650600228229401496703205376 := by decide
    refine seq_gen fun R hR => ?_
    simp_arith [e30, e29]
    refine ⟨⟨by decide, by decide, by decide⟩, ⟨by decide, by decide, by decide⟩, _, _, rfl, hp3, by omega, by decide, fun r v4 r0 r1 hp4 => ⟨by decide, _, _, rfl, hp4, by omega, by decide, fun m v5 hm hp5 => ?_⟩⟩
    have hm' : ∃ i : Int, m = .int i ∧ i.natAbs < 2 ^ 100 := by
      rcases hm with rfl | rfl | rfl | rfl | rfl | rfl <;> exact ⟨_, rfl, by omega⟩
    obtain ⟨m, rfl, hm2⟩ := hm'
    clear hm
    subst hR
    refine seq_gen fun R hR => ?_
    have sm : Sz 100 (m : Rat) := Sz.int hm2
    have sxm := sx.add sm
    have u : ∀ {n : Nat} {z : Rat}, Sz n z → n ≤ 400 → Sz 400 z ∧ Sz 1000 z ∧ Sz 3900 z := fun s hn => ⟨s.up hn, s.up (by omega), s.up (by omega)⟩
    simp_arith [u sx (by decide), u sy (by decide), u sm (by decide), u sxm (by decide), rk, rnd_add, bef_add, beh_add]
    rw [mNeD_self pl_i3]
    refine ⟨by decide, by decide, ?_⟩
    simp_arith []
    subst hR
    refine seq_gen fun R hR => ?_
    simp_arith [u sx (by decide), u sy (by decide), rk]
    have a2 : R { nx := fun _ μ' => Q D.non μ', rt := Q, ex := X } [some (.ref a), some (.tup [.int p, .int q, .bl b]), some (frQ x), some (frQ y), some (rndD t b), some (ratQ x), some (ratQ y), some (.int m), none, none, none, none, none, none, none, none] (put μ a v5) := by
      subst hR
      refine seq_gen fun R hR => ?_
      simp_arith [u sx (by decide), u sy (by decide), rk]
      have a3 : R { nx := fun _ μ' => Q D.non μ', rt := Q, ex := X } [some (.ref a), some (.tup [.int p, .int q, .bl b]), some (frQ x), some (frQ y), some (rndD t b), some (ratQ x), some (ratQ y), some (.int m), none, none, none, none, none, none, none, none] (put μ a v5) := by
        subst hR
        refine seq_gen fun R hR => ?_
        simp_arith [u sx (by decide), u sy (by decide), rk]
        refine ⟨by decide, ?_⟩
        subst hR
        refine seq_gen fun R hR => ?_
        simp_arith [u sx (by decide), u sy (by decide), rk]
        obtain ⟨o1, o2⟩ := bef_rnd t b x
        refine ⟨by decide, by decide, by decide, [bef t x, rnd t b x, beh t x], rfl, fun ns' hp hs => ?_⟩
        rw [sorted_eq hp hs (by simp; omega)]
        rw [show intsD [bef t x, rnd t b x, beh t x] = [D.int (bef t x), D.int (rnd t b x), D.int (beh t x)] from rfl, mNeD_self pl_i3]
        simp_arith [atI_0, atI_2, beh_sub]
        subst hR
        refine seq_gen fun R hR => ?_
        have rs := rnd_sz sx rk
        have rs2 : (rnd t b x).natAbs < 2 ^ 400 := Nat.lt_of_le_of_lt rs (Nat.pow_lt_pow_right (by decide) (by decide))
        have rs3 : (rnd t b x).natAbs < 2 ^ 102 := Nat.lt_of_le_of_lt rs (Nat.pow_lt_pow_right (by decide) (by decide))
        have sr : Sz 102 ((rnd t b x : Int) : Rat) := Sz.int rs3
        have sr1 : Sz 104 ((rnd t b x - 1 : Int) : Rat) := Sz.int (by omega)
        have sl := rk.sz.add sr1
        have sh := rk.sz.add sr
        have u2 : ∀ {n : Nat} {z : Rat}, Sz n z → n ≤ 3900 → Sz 3900 z := fun s hn => s.up hn
        have ql : t + ((rnd t b x - 1 : Int) : Rat) ≤ x := by
          have := rnd_sp t b x
          rw [castI_sub, one_rat]; grind
        have qh : x ≤ t + ((rnd t b x : Int) : Rat) := by
          have := rnd_sp t b x
          grind
        simp_arith [u sx (by decide), rk, rs2]
        subst hR
        refine seq_gen fun R hR => ?_
        have a4 : R { nx := fun _ μ' => Q D.non μ', rt := Q, ex := X } [some (.ref a), some (.tup [.int p, .int q, .bl b]), some (frQ x), some (frQ y), some (rndD t b), some (ratQ x), some (ratQ y), some (.int m), some (D.lst [D.int (bef t x), D.int (rnd t b x), D.int (beh t x)]), none, some (ratQ (t + ((rnd t b x - 1 : Int) : Rat))), some (.bl b), some (ratQ (t + ((rnd t b x : Int) : Rat))), some (.bl (!b)), none, none] (put μ a v5) := by
          subst hR
          refine seq_gen fun R hR => ?_
          simp_arith []
          refine ⟨_, _, rfl, hp5, by omega, by decide, fun r6 v6 r60 r61 hp6 => ?_⟩
          subst hR
          refine seq_gen fun R hR => ?_
          have sn : Sz 8 ((1 + r6 : Int) : Rat) := Sz.int (by omega)
          have sxn := sx.mul sn
          have nn : CMulE (1 + r6) (rnd t b x) := mulL (by omega)
          obtain ⟨g1, g2⟩ := rnd_times (q := t) (x := x) (b := b) (n := 1 + r6) (by omega) rk.lo rk.hi rk.kd
          simp_arith [u sx (by decide), u sn (by decide), u sxn (by decide), rk, nn]
          subst hR
          simp_arith []
          rw [decide_eq_true g1, decide_eq_true g2]
          exact k _ (hp6.le (by omega))
        cases b with
        | true =>
          have ne : (x = t + ((rnd t true x : Int) : Rat)) = False := eq_false (fun z => by
            have := beh_sp t x
            have e : rnd t true x = beh t x := rfl
            rw [e] at z
            grind)
          simp_arith [u sx (by decide), u2 sl (by decide), u2 sh (by decide), ql, qh, ne]
          split <;> exact a4
        | false =>
          have ne : (x = t + ((rnd t false x - 1 : Int) : Rat)) = False := eq_false (fun z => by
            have := bef_sp t x
            have e : rnd t false x = bef t x := rfl
            rw [e, castI_sub, one_rat] at z
            grind)
          simp_arith [u sx (by decide), u2 sl (by decide), u2 sh (by decide), ql, qh, ne]
          split <;> exact a4
      by_cases c : x < y
      · rw [if_pos c, decide_eq_true (beh_bef c)]
        exact a3
      · rw [if_neg c]
        exact a3
    by_cases c1 : x ≤ y
    · rw [if_pos c1, decide_eq_true (rnd_mono (q := t) (b := b) c1)]
      simp_arith []
      by_cases c2 : y ≤ x
      · rw [if_pos c2, decide_eq_true (rnd_mono (q := t) (b := b) c2)]
        simp_arith []
        exact a2
      · rw [if_neg c2]
        exact a2
    · rw [if_neg c1]
      by_cases c2 : y ≤ x
      · rw [if_pos c2, decide_eq_true (rnd_mono (q := t) (b := b) c2)]
        simp_arith []
        exact a2
      · rw [if_neg c2]
        exact a2
  · exact h.elim
theorem fo__law_right {fd : FuncData} (M : MT mg K) (Z : Zf P w K mg) (DK_Rounding___call___0 : DnK P w K mg base (Tt K) 6 (a_Rounding___call__ K) ["self", "number"] [] 2 [] [.p 0, .p 1] (c_Rounding___call__ K)) (D_Ratio___add__ : DnM P w K mg base (Tt K) 5 (a_Ratio___add__ K) ["self", "other"] [] (c_Ratio___add__ K)) (D_Ratio___eq__ : DnM P w K mg base (Tt K) 5 (a_Ratio___eq__ K) ["self", "other"] [] (c_Ratio___eq__ K)) (D_Ratio___init__ : DnM P w K mg base (Tt K) 2 (a_Ratio___init__ K) ["self", "over", "under"] [.int 1] (c_Ratio___init__ K)) (D_Ratio___le__ : DnM P w K mg base (Tt K) 6 (a_Ratio___le__ K) ["self", "other"] [] (c_Ratio___le__ K)) (D_Ratio___lt__ : DnM P w K mg base (Tt K) 5 (a_Ratio___lt__ K) ["self", "other"] [] (c_Ratio___lt__ K)) (D_Ratio___mul__ : DnM P w K mg base (Tt K) 5 (a_Ratio___mul__ K) ["self", "other"] [] (c_Ratio___mul__ K)) (D_Rounding_before : DnM P w K mg base (Tt K) 9 (a_Rounding_before K) ["self", "number"] [] (c_Rounding_before K)) (D_Rounding_behind : DnM P w K mg base (Tt K) 9 (a_Rounding_behind K) ["self", "number"] [] (c_Rounding_behind K)) (D_Rounding_is_step : DnM P w K mg base (Tt K) 8 (a_Rounding_is_step K) ["self", "number"] [] (c_Rounding_is_step K)) (D_Rounding_places : DnM P w K mg base (Tt K) 7 (a_Rounding_places K) ["self", "pixel"] [] (c_Rounding_places K)) (D__law_draw : DnM P w K mg base (Tt K) 1 (a__law_draw K) ["_law_pen_here", "_law_many"] [] (c__law_draw K)) (D__law_kind : DnM P w K mg base (Tt K) 3 (a__law_kind K) ["_law_pen_here"] [] (c__law_kind K)) (D__law_number : DnM P w K mg base (Tt K) 3 (a__law_number K) ["_law_pen_here"] [] (c__law_number K)) (D__law_pick : DnM P w K mg base (Tt K) 2 (a__law_pick K) ["_law_pen_here", "_law_some"] [] (c__law_pick K)) (D__law_rounding : DnM P w K mg base (Tt K) 9 (a__law_rounding K) ["_law_kind_here"] [] (c__law_rounding K)) (F : FnP K d__law_right fd) :
    FnOk P w K mg base (L2.CX P w) 10 (a__law_right K) fd ["_law_pen_here"] (spF K (Tt K) (c__law_right K)) :=
  FnOk.impM (fnM (b := b__law_right K) F sc__law_right (fun cdv A outer s H E hr =>
    (pssm_cons (psm_par3 (i := 1) (j := 2) (l := 3) (by rfl) sc__law_right.nd rfl rfl rfl (by decide) (by decide) (by decide) rfl rfl rfl (pam_cons (pm_call (dv := []) (dd := []) D__law_kind 0 (hr.mono (by decide)) rfl M.g__law_kind passX (pam_cons (pmv 0) pam_nil) (fun _ => .nil)) (pam_cons (pm_call (dv := []) (dd := []) D__law_number 0 (hr.mono (by decide)) rfl M.g__law_number passX (pam_cons (pmv 0) pam_nil) (fun _ => .nil)) (pam_cons (pm_call (dv := []) (dd := []) D__law_number 0 (hr.mono (by decide)) rfl M.g__law_number passX (pam_cons (pmv 0) pam_nil) (fun _ => .nil)) pam_nil))) (by rfl))
    (pssm_cons (psm_par3 (i := 4) (j := 5) (l := 6) (by rfl) sc__law_right.nd rfl rfl rfl (by decide) (by decide) (by decide) rfl rfl rfl (pam_cons (pm_call (dv := []) (dd := []) D__law_rounding 0 (hr.mono (by decide)) rfl M.g__law_rounding passX (pam_cons (pmv 1) pam_nil) (fun _ => .nil)) (pam_cons (pm_make (c := "Ratio") (gM := c_new_Ratio K) (dv := []) (dd := []) ⟨Z.mkr_Ratio, D_Ratio___init__⟩ 1 (hr.mono (by decide)) rfl M.g_Ratio passX (new_Ratio Z) (pam_cons (pm_ix i_seq (pmv 2) pm_int (fun _ _ => rfl)) (pam_cons (pm_ix i_seq (pmv 2) pm_int (fun _ _ => rfl)) pam_nil)) (fun _ => .nil)) (pam_cons (pm_make (c := "Ratio") (gM := c_new_Ratio K) (dv := []) (dd := []) ⟨Z.mkr_Ratio, D_Ratio___init__⟩ 1 (hr.mono (by decide)) rfl M.g_Ratio passX (new_Ratio Z) (pam_cons (pm_ix i_seq (pmv 3) pm_int (fun _ _ => rfl)) (pam_cons (pm_ix i_seq (pmv 3) pm_int (fun _ _ => rfl)) pam_nil)) (fun _ => .nil)) pam_nil))) (by rfl))
    (pssm_cons (psm_set (i := 7) sc__law_right.nd rfl (Or.inl rfl) (pm_call (dv := []) (dd := []) D__law_pick 0 (hr.mono (by decide)) rfl M.g__law_pick passX (pam_cons (pmv 0) (pam_cons (pm_lst (pam_cons pm_int (pam_cons (pm_un u_neg pm_int) (pam_cons pm_int (pam_cons (pm_op o_pow pm_int pm_int) (pam_cons (pm_un u_neg (pm_op o_pow pm_int pm_int)) (pam_cons (pm_call (dv := []) (dd := []) D__law_draw 0 (hr.mono (by decide)) rfl M.g__law_draw passX (pam_cons (pmv 0) (pam_cons pm_int pam_nil)) (fun _ => .nil)) pam_nil))))))) pam_nil)) (fun _ => .nil)))
    (pssm_cons (psm_if (ptm_cmp (o_neD hr.units) (pm_lst (pam_cons (pm_callO (ks := []) (c := "Rounding") (dd := []) (pmv 4) Z.callo_Rounding DK_Rounding___call___0 (hr.mono (by decide)) passX (pbm_2 (pam_cons (pm_op (opm_own Z.opc_Ratio_add Z.ots_Ratio_add D_Ratio___add__ (hr.mono (by decide)) passX) (pmv 5) (pmv 7)) pam_nil) pkm_nil) (fun _ => .nil)) (pam_cons (pm_meth (c := "Rounding") (dv := []) (dd := []) (pmv 4) Z.cls_Rounding.cls Z.mt_Rounding_before D_Rounding_before 0 (hr.mono (by decide)) passX (pam_cons (pm_op (opm_own Z.opc_Ratio_add Z.ots_Ratio_add D_Ratio___add__ (hr.mono (by decide)) passX) (pmv 5) (pmv 7)) pam_nil) (fun _ => .nil)) (pam_cons (pm_meth (c := "Rounding") (dv := []) (dd := []) (pmv 4) Z.cls_Rounding.cls Z.mt_Rounding_behind D_Rounding_behind 0 (hr.mono (by decide)) passX (pam_cons (pm_op (opm_own Z.opc_Ratio_add Z.ots_Ratio_add D_Ratio___add__ (hr.mono (by decide)) passX) (pmv 5) (pmv 7)) pam_nil) (fun _ => .nil)) pam_nil)))) (pm_lst (pam_cons (pm_op o_add (pm_callO (ks := []) (c := "Rounding") (dd := []) (pmv 4) Z.callo_Rounding DK_Rounding___call___0 (hr.mono (by decide)) passX (pbm_2 (pam_cons (pmv 5) pam_nil) pkm_nil) (fun _ => .nil)) (pmv 7)) (pam_cons (pm_op o_add (pm_meth (c := "Rounding") (dv := []) (dd := []) (pmv 4) Z.cls_Rounding.cls Z.mt_Rounding_before D_Rounding_before 0 (hr.mono (by decide)) passX (pam_cons (pmv 5) pam_nil) (fun _ => .nil)) (pmv 7)) (pam_cons (pm_op o_add (pm_meth (c := "Rounding") (dv := []) (dd := []) (pmv 4) Z.cls_Rounding.cls Z.mt_Rounding_behind D_Rounding_behind 0 (hr.mono (by decide)) passX (pam_cons (pmv 5) pam_nil) (fun _ => .nil)) (pmv 7)) pam_nil)))) (nomark _))
      (pssm_one (psm_ret pm_bl))
      pssm_nil)
    (pssm_cons (psm_if (PWM.pt (pwm_or (PWM.pt (pwm_and (ptm_cmp (le_own Z.nof_Ratio D_Ratio___le__ (hr.mono (by decide)) passX Z.cm_Ratio___le__) (pmv 5) (pmv 6) (nomark _)) (pwm_and1 (ptm_not (ptm_cmp o_le (pm_callO (ks := []) (c := "Rounding") (dd := []) (pmv 4) Z.callo_Rounding DK_Rounding___call___0 (hr.mono (by decide)) passX (pbm_2 (pam_cons (pmv 5) pam_nil) pkm_nil) (fun _ => .nil)) (pm_callO (ks := []) (c := "Rounding") (dd := []) (pmv 4) Z.callo_Rounding DK_Rounding___call___0 (hr.mono (by decide)) passX (pbm_2 (pam_cons (pmv 6) pam_nil) pkm_nil) (fun _ => .nil)) (nomark _)))))) (pwm_or1 (PWM.pt (pwm_and (ptm_cmp (le_own Z.nof_Ratio D_Ratio___le__ (hr.mono (by decide)) passX Z.cm_Ratio___le__) (pmv 6) (pmv 5) (nomark _)) (pwm_and1 (ptm_not (ptm_cmp o_le (pm_callO (ks := []) (c := "Rounding") (dd := []) (pmv 4) Z.callo_Rounding DK_Rounding___call___0 (hr.mono (by decide)) passX (pbm_2 (pam_cons (pmv 6) pam_nil) pkm_nil) (fun _ => .nil)) (pm_callO (ks := []) (c := "Rounding") (dd := []) (pmv 4) Z.callo_Rounding DK_Rounding___call___0 (hr.mono (by decide)) passX (pbm_2 (pam_cons (pmv 5) pam_nil) pkm_nil) (fun _ => .nil)) (nomark _)))))))))
      (pssm_one (psm_ret pm_bl))
      pssm_nil)
    (pssm_cons (psm_if (PWM.pt (pwm_and (ptm_cmp (lt_own Z.nof_Ratio D_Ratio___lt__ (hr.mono (by decide)) passX Z.cm_Ratio___lt__) (pmv 5) (pmv 6) (nomark _)) (pwm_and1 (ptm_not (ptm_cmp o_le (pm_meth (c := "Rounding") (dv := []) (dd := []) (pmv 4) Z.cls_Rounding.cls Z.mt_Rounding_behind D_Rounding_behind 0 (hr.mono (by decide)) passX (pam_cons (pmv 5) pam_nil) (fun _ => .nil)) (pm_meth (c := "Rounding") (dv := []) (dd := []) (pmv 4) Z.cls_Rounding.cls Z.mt_Rounding_before D_Rounding_before 0 (hr.mono (by decide)) passX (pam_cons (pmv 6) pam_nil) (fun _ => .nil)) (nomark _))))))
      (pssm_one (psm_ret pm_bl))
      pssm_nil)
    (pssm_cons (psm_set (i := 8) sc__law_right.nd rfl (Or.inl rfl) (pm_lst (pam_cons (pm_meth (c := "Rounding") (dv := []) (dd := []) (pmv 4) Z.cls_Rounding.cls Z.mt_Rounding_before D_Rounding_before 0 (hr.mono (by decide)) passX (pam_cons (pmv 5) pam_nil) (fun _ => .nil)) (pam_cons (pm_callO (ks := []) (c := "Rounding") (dd := []) (pmv 4) Z.callo_Rounding DK_Rounding___call___0 (hr.mono (by decide)) passX (pbm_2 (pam_cons (pmv 5) pam_nil) pkm_nil) (fun _ => .nil)) (pam_cons (pm_meth (c := "Rounding") (dv := []) (dd := []) (pmv 4) Z.cls_Rounding.cls Z.mt_Rounding_behind D_Rounding_behind 0 (hr.mono (by decide)) passX (pam_cons (pmv 5) pam_nil) (fun _ => .nil)) pam_nil)))))
    (pssm_cons (psm_if (PWM.pt (pwm_or (ptm_cmp (o_neD hr.units) (pmv 8) (pm_callB f_sorted (by rfl) M.f_sorted (by decide +kernel) (pam_cons (pm_lc (own := [("_law_pixel", 9)]) (g := (gName 9)) (gm := (gmName 9)) (tt := mYes) (el := (mCall mInt [] (mCons (mVar 9) mNil))) (mi := (iLs (mVar 8))) (by rfl) sc__law_right.nd (pim_list (pmv 8)) (blkOk_by (own := [("_law_pixel", 9)]) (N := ["_law_pen_here", "_law_kind_here", "_law_number_here", "_law_other", "_law_rounding_here", "_law_one", "_law_two", "_law_many", "_law_three", "_law_pixel", "_law_low", "_law_is_low", "_law_high", "_law_is_high", "_law_n", "_law_gap"]) (sc := defScope s__law_right) (by decide +kernel)) (grw_name (by decide)) (fun _ _ _ _ _ => (pg_name (i := 9) sc__law_right.nd rfl (Or.inl rfl))) (fun _ _ _ _ _ => ptsm_nil) (fun _ _ _ _ _ => (pm_callTy f_int (by rfl) M.f_int (by decide +kernel) (pam_cons (pmv 9) pam_nil)))) pam_nil)) (nomark _)) (pwm_or1 (ptm_cmp (o_neD hr.units) (pm_op o_sub (pm_ix i_seq (pmv 8) pm_int (fun _ _ => rfl)) (pm_ix i_seq (pmv 8) pm_int (fun _ _ => rfl))) (pm_callTy f_int (by rfl) M.f_int (by decide +kernel) (pam_cons (pm_meth (c := "Rounding") (dv := []) (dd := []) (pmv 4) Z.cls_Rounding.cls Z.mt_Rounding_is_step D_Rounding_is_step 0 (hr.mono (by decide)) passX (pam_cons (pmv 5) pam_nil) (fun _ => .nil)) pam_nil)) (nomark _)))))
      (pssm_one (psm_ret pm_bl))
      pssm_nil)
    (pssm_cons (psm_asg (pm_meth (c := "Rounding") (dv := []) (dd := []) (pmv 4) Z.cls_Rounding.cls Z.mt_Rounding_places D_Rounding_places 0 (hr.mono (by decide)) passX (pam_cons (pm_callO (ks := []) (c := "Rounding") (dd := []) (pmv 4) Z.callo_Rounding DK_Rounding___call___0 (hr.mono (by decide)) passX (pbm_2 (pam_cons (pmv 5) pam_nil) pkm_nil) (fun _ => .nil)) pam_nil) (fun _ => .nil)) (pgm_tup (by rfl) (pgsm_cons (pgm_name (i := 10) sc__law_right.nd rfl (Or.inl rfl)) (pgsm_cons (pgm_name (i := 11) sc__law_right.nd rfl (Or.inl rfl)) (pgsm_cons (pgm_name (i := 12) sc__law_right.nd rfl (Or.inl rfl)) (pgsm_cons (pgm_name (i := 13) sc__law_right.nd rfl (Or.inl rfl)) pgsm_nil))))))
    (pssm_cons (psm_if (PWM.pt (pwm_or (ptm_not (ptm_chain (le_own Z.nof_Ratio D_Ratio___le__ (hr.mono (by decide)) passX Z.cm_Ratio___le__) (le_own Z.nof_Ratio D_Ratio___le__ (hr.mono (by decide)) passX Z.cm_Ratio___le__) (pmv 10) (pmv 5) (pmv 12))) (pwm_or (PWM.pt (pwm_and (ptm_cmp (eq_own Z.nof_Ratio D_Ratio___eq__ (hr.mono (by decide)) passX Z.cm_Ratio___eq__) (pmv 5) (pmv 10) (nomark _)) (pwm_and1 (ptm_not (ptm_tru tm_tru (pmv 11) (by intro _; rfl)))))) (pwm_or1 (PWM.pt (pwm_and (ptm_cmp (eq_own Z.nof_Ratio D_Ratio___eq__ (hr.mono (by decide)) passX Z.cm_Ratio___eq__) (pmv 5) (pmv 12) (nomark _)) (pwm_and1 (ptm_not (ptm_tru tm_tru (pmv 13) (by intro _; rfl))))))))))
      (pssm_one (psm_ret pm_bl))
      pssm_nil)
    (pssm_cons (psm_set (i := 14) sc__law_right.nd rfl (Or.inl rfl) (pm_op o_add pm_int (pm_call (dv := []) (dd := []) D__law_draw 0 (hr.mono (by decide)) rfl M.g__law_draw passX (pam_cons (pmv 0) (pam_cons pm_int pam_nil)) (fun _ => .nil))))
    (pssm_cons (psm_set (i := 15) sc__law_right.nd rfl (Or.inl rfl) (pm_op o_sub (pm_op o_mul (pmv 14) (pm_callO (ks := []) (c := "Rounding") (dd := []) (pmv 4) Z.callo_Rounding DK_Rounding___call___0 (hr.mono (by decide)) passX (pbm_2 (pam_cons (pmv 5) pam_nil) pkm_nil) (fun _ => .nil))) (pm_callO (ks := []) (c := "Rounding") (dd := []) (pmv 4) Z.callo_Rounding DK_Rounding___call___0 (hr.mono (by decide)) passX (pbm_2 (pam_cons (pm_op (opm_own Z.opc_Ratio_mul Z.ots_Ratio_mul D_Ratio___mul__ (hr.mono (by decide)) passX) (pmv 5) (pmv 14)) pam_nil) pkm_nil) (fun _ => .nil))))
    (pssm_one (psm_ret (pm_chain o_le o_le (pm_op o_sub pm_int (pmv 14)) (pmv 15) (pm_op o_sub (pmv 14) pm_int)))))))))))))))))) (fun ds μ Q X h => cl__law_right Z h)
theorem ok__law_right {fd : FuncData} (M : MT mg K) (Z : Zf P w K mg) (DK_Rounding___call___0 : DnK P w K mg base (Tt K) 6 (a_Rounding___call__ K) ["self", "number"] [] 2 [] [.p 0, .p 1] (c_Rounding___call__ K)) (D_Ratio___add__ : DnM P w K mg base (Tt K) 5 (a_Ratio___add__ K) ["self", "other"] [] (c_Ratio___add__ K)) (D_Ratio___eq__ : DnM P w K mg base (Tt K) 5 (a_Ratio___eq__ K) ["self", "other"] [] (c_Ratio___eq__ K)) (D_Ratio___init__ : DnM P w K mg base (Tt K) 2 (a_Ratio___init__ K) ["self", "over", "under"] [.int 1] (c_Ratio___init__ K)) (D_Ratio___le__ : DnM P w K mg base (Tt K) 6 (a_Ratio___le__ K) ["self", "other"] [] (c_Ratio___le__ K)) (D_Ratio___lt__ : DnM P w K mg base (Tt K) 5 (a_Ratio___lt__ K) ["self", "other"] [] (c_Ratio___lt__ K)) (D_Ratio___mul__ : DnM P w K mg base (Tt K) 5 (a_Ratio___mul__ K) ["self", "other"] [] (c_Ratio___mul__ K)) (D_Rounding_before : DnM P w K mg base (Tt K) 9 (a_Rounding_before K) ["self", "number"] [] (c_Rounding_before K)) (D_Rounding_behind : DnM P w K mg base (Tt K) 9 (a_Rounding_behind K) ["self", "number"] [] (c_Rounding_behind K)) (D_Rounding_is_step : DnM P w K mg base (Tt K) 8 (a_Rounding_is_step K) ["self", "number"] [] (c_Rounding_is_step K)) (D_Rounding_places : DnM P w K mg base (Tt K) 7 (a_Rounding_places K) ["self", "pixel"] [] (c_Rounding_places K)) (D__law_draw : DnM P w K mg base (Tt K) 1 (a__law_draw K) ["_law_pen_here", "_law_many"] [] (c__law_draw K)) (D__law_kind : DnM P w K mg base (Tt K) 3 (a__law_kind K) ["_law_pen_here"] [] (c__law_kind K)) (D__law_number : DnM P w K mg base (Tt K) 3 (a__law_number K) ["_law_pen_here"] [] (c__law_number K)) (D__law_pick : DnM P w K mg base (Tt K) 2 (a__law_pick K) ["_law_pen_here", "_law_some"] [] (c__law_pick K)) (D__law_rounding : DnM P w K mg base (Tt K) 9 (a__law_rounding K) ["_law_kind_here"] [] (c__law_rounding K)) (F : FnP K d__law_right fd) :
    DnM P w K mg base (Tt K) 10 (a__law_right K) ["_law_pen_here"] [] (c__law_right K) :=
  dn_mk F rfl (fun _ _ _ _ _ _ us hl => match us, hl with | [_], _ => rfl) (fo__law_right M Z DK_Rounding___call___0 D_Ratio___add__ D_Ratio___eq__ D_Ratio___init__ D_Ratio___le__ D_Ratio___lt__ D_Ratio___mul__ D_Rounding_before D_Rounding_behind D_Rounding_is_step D_Rounding_places D__law_draw D__law_kind D__law_number D__law_pick D__law_rounding F)
end
end Mz

namespace Mz
open PySem PySem.Spec PyProof.Rows L2 AzX ClX LamX Hz He Az
local macro_rules | `(tactic| walk_at "ev") => `(tactic| simp (config := {decide := false}) only [↓mEqW.eq_1, ↓mNeW.eq_1, ↓mFmtO.eq_1, ↓mCallP.eq_1, ↓mMethP.eq_1, ↓mCMethP.eq_1, ↓mCallO.eq_1, ↓mMakeP.eq_1, ↓bArgs.eq_1, ↓selA.eq_1, ↓selA.eq_2, ↓selA.eq_3, ↓selA.eq_4, ↓mSorted.eq_1, Option.getD_some, Option.getD_none, ↓mLc.eq_1, ↓goLc.eq_1, ↓goLc.eq_2, ↓wipeM.eq_1, ↓wipeM.eq_2, ↓bodyM.eq_1, ↓mVar.eq_1, ↓mC.eq_1, ↓mOp.eq_1, ↓mTest.eq_1, ↓mChain.eq_1, ↓mUn.eq_1, ↓mTru.eq_1, ↓dTru.eq_1, ↓dTru.eq_2, ↓dTru.eq_3, ↓dTru.eq_4, ↓dTru.eq_5, ↓dTru.eq_6, ↓dTru.eq_7, ↓dTru.eq_8, ↓dTru.eq_9, ↓dTru.eq_10, ↓mTr.eq_1, ↓mAnd.eq_1, ↓mOr.eq_1, ↓mNot.eq_1, ↓mAndV.eq_1, ↓mOrV.eq_1, ↓mNotV.eq_1, ↓mIf.eq_1, ↓mNil.eq_1, ↓mCons.eq_1, ↓mTup.eq_1, ↓mLst.eq_1, ↓mLstM.eq_1, ↓mAlt.eq_1, ↓uAlt.eq_1, ↓tAlt.eq_1, ↓fAlt.eq_1, ↓eAlt.eq_1, ↓lAlt.eq_1, ↓bAlt.eq_1, ↓gmName.eq_1, ↓gmNil.eq_1, ↓gmNil.eq_2, ↓gmCons.eq_1, ↓gmCons.eq_2, ↓gmTup.eq_1, ↓gmTup.eq_2, ↓gmSub.eq_1, ↓mSetL.eq_1, ↓mSetL.eq_2, ↓sNext.eq_1, ↓sSeq.eq_1, ↓sBreak.eq_1, ↓sCont.eq_1, ↓sExpr.eq_1, ↓sRet.eq_1, ↓sRetN.eq_1, ↓sIf.eq_1, ↓sSet.eq_1, ↓sAsg.eq_1, ↓sPar.eq_1, ↓sPar3.eq_1, ↓sAug.eq_1, ↓sFldM.eq_1, ↓sFldAugM.eq_1, ↓sFor.eq_1, ↓iLs.eq_1, ↓iTupM.eq_1, ↓iRange1.eq_1, ↓mCall.eq_1, ↓isC.eq_1, ↓isC.eq_2, ↓isC.eq_3, ↓mMeth.eq_1, ↓insC.eq_1, ↓insC.eq_2, ↓insC.eq_3, ↓mProp.eq_1, ↓mFld.eq_1, ↓mOwn.eq_1, ↓mOwn.eq_2, ↓mOwnR.eq_1, ↓mOwnR.eq_2, ↓mCmpO.eq_1, ↓mCmpO.eq_2, ↓kNotM.eq_1, ↓kNotM.eq_2, ↓mNeO.eq_1, ↓mNeO.eq_2, ↓mNeR.eq_1, ↓mNeR.eq_2, ↓mOwnU.eq_1, ↓mOwnU.eq_2, ↓kBlM.eq_1, ↓kBlM.eq_2, ↓mTruO.eq_1, ↓mTruO.eq_2, ↓mBoolO.eq_1, ↓mBoolO.eq_2, ↓kStrM.eq_1, ↓kStrM.eq_2, ↓mStrO.eq_1, ↓mStrO.eq_2, ↓mII.eq_1, ↓mII.eq_2, ↓mII0.eq_1, ↓mII0.eq_2, ↓mNeg.eq_1, ↓mNeg.eq_2, ↓mAddS.eq_1, ↓mAddS.eq_2, ↓noneD.eq_1, ↓noneD.eq_2, ↓mIsN.eq_1, ↓mIsN.eq_2, ↓mNotN.eq_1, ↓mNotN.eq_2, ↓mIsB.eq_1, ↓mIsB.eq_2, ↓mInt.eq_1, ↓mInt.eq_2, ↓mInt.eq_3, ↓mIntS.eq_1, ↓mIntS.eq_2, ↓mAbs.eq_1, ↓mAbs.eq_2, ↓mLen.eq_1, ↓mLen.eq_2, ↓mLen.eq_3, ↓mListF.eq_1, ↓mListF.eq_2, ↓mListM.eq_1, ↓mListM.eq_2, ↓mTupF.eq_1, ↓mTupF.eq_2, ↓mTupF.eq_3, ↓mBool1.eq_1, ↓mBool1.eq_2, ↓mBool1.eq_3, ↓mStrI.eq_1, ↓mStrI.eq_2, ↓mIx.eq_1, ↓mIx.eq_2, ↓mIxS.eq_1, ↓mIxS.eq_2, ↓mSl.eq_1, ↓mSlL.eq_1, ↓mSlS.eq_1, ↓mSlS.eq_2, ↓oNone.eq_1, ↓oSome.eq_1, ↓seqD.eq_1, ↓seqD.eq_2, ↓seqD.eq_3, ↓seqD.eq_4, ↓seqD.eq_5, ↓lsD.eq_1, ↓lsD.eq_2, ↓lsD.eq_3, ↓lsD.eq_4, ↓mdD.eq_1, ↓mdD.eq_2, ↓mdD.eq_3, ↓mCatL.eq_1, ↓mRepL.eq_1, ↓mRepL.eq_2, ↓isT.eq_1, ↓isT.eq_2, ↓isT.eq_3, ↓isT.eq_4, ↓isT.eq_5, ↓isT.eq_6, ↓mBM.eq_1, ↓bAppend.eq_1, ↓bAppend.eq_2, ↓bSplit.eq_1, ↓bSplit.eq_2, ↓bStarts.eq_1, ↓bStarts.eq_2, ↓bJoin.eq_1, ↓bJoin.eq_2, ↓mFmt.eq_1, ↓sRaise.eq_1, ↓mXat.eq_1, ↓mDict0.eq_1, ↓mNotT.eq_1, ↓mIsi.eq_1, ↓mIsi.eq_2, ↓mIsi.eq_3, ↓tyI.eq_1, ↓tyI.eq_2, ↓tyD.eq_1, ↓tyD.eq_2, ↓tyD.eq_3, ↓tyD.eq_4, ↓tyD.eq_5, ↓tyD.eq_6, ↓tyD.eq_7, ↓tyD.eq_8, ↓tyD.eq_9, ↓tyD.eq_10, ↓tyD.eq_11, ↓clsD.eq_1, ↓clsD.eq_2, ↓clsD.eq_3, ↓clsDs.eq_1, ↓clsDs.eq_2, ↓needT.eq_1, ↓needT.eq_2, ↓needT.eq_3, ↓needT.eq_4, ↓mHeard.eq_1, ↓mAsk.eq_1, ↓sTry.eq_1, ↓sFrz.eq_1, List.getElem?_cons_zero, List.getElem?_cons_succ, List.getElem?_nil, List.set_cons_zero, List.set_cons_succ, List.set_nil, List.length_cons, List.length_nil, List.map_cons, List.map_nil, List.cons_append, List.nil_append, List.append_nil, List.replicate_zero, List.replicate_succ, List.zip_cons_cons, List.zip_nil_left, List.zip_nil_right, Nat.reduceAdd, Nat.reduceSub, Nat.reduceEqDiff, Nat.reduceLT, Nat.reduceLeDiff, Nat.zero_add, Nat.add_zero, Bool.not_true, Bool.not_false, Bool.not_not, true_and, and_true, false_and, and_false, true_or, or_true, false_or, or_false, if_true, if_false, ite_true, ite_false, Bool.false_eq_true, reduceIte, reduceCtorEq, eq_self_iff_true, and_self, or_self, put_same, del_same, decide_true, decide_false, String.reduceEq, List.mem_cons, List.not_mem_nil, Int.reduceNeg, Int.reduceEq, Int.reduceLT, ne_eq, not_true_eq_false, not_false_eq_true])
set_option hygiene false in
local macro_rules | `(tactic| walk_at "evz") => `(tactic| simp (config := {decide := false}) only [↓mEqW.eq_1, ↓mNeW.eq_1, ↓mFmtO.eq_1, ↓mCallP.eq_1, ↓mMethP.eq_1, ↓mCMethP.eq_1, ↓mCallO.eq_1, ↓mMakeP.eq_1, ↓bArgs.eq_1, ↓selA.eq_1, ↓selA.eq_2, ↓selA.eq_3, ↓selA.eq_4, ↓mSorted.eq_1, Option.getD_some, Option.getD_none, ↓mLc.eq_1, ↓goLc.eq_1, ↓goLc.eq_2, ↓wipeM.eq_1, ↓wipeM.eq_2, ↓bodyM.eq_1, ↓mVar.eq_1, ↓mC.eq_1, ↓mOp.eq_1, ↓mTest.eq_1, ↓mChain.eq_1, ↓mUn.eq_1, ↓mTru.eq_1, ↓dTru.eq_1, ↓dTru.eq_2, ↓dTru.eq_3, ↓dTru.eq_4, ↓dTru.eq_5, ↓dTru.eq_6, ↓dTru.eq_7, ↓dTru.eq_8, ↓dTru.eq_9, ↓dTru.eq_10, ↓mTr.eq_1, ↓mAnd.eq_1, ↓mOr.eq_1, ↓mNot.eq_1, ↓mAndV.eq_1, ↓mOrV.eq_1, ↓mNotV.eq_1, ↓mIf.eq_1, ↓mNil.eq_1, ↓mCons.eq_1, ↓mTup.eq_1, ↓mLst.eq_1, ↓mLstM.eq_1, ↓mAlt.eq_1, ↓uAlt.eq_1, ↓tAlt.eq_1, ↓fAlt.eq_1, ↓eAlt.eq_1, ↓lAlt.eq_1, ↓bAlt.eq_1, ↓gmName.eq_1, ↓gmNil.eq_1, ↓gmNil.eq_2, ↓gmCons.eq_1, ↓gmCons.eq_2, ↓gmTup.eq_1, ↓gmTup.eq_2, ↓gmSub.eq_1, ↓mSetL.eq_1, ↓mSetL.eq_2, ↓sNext.eq_1, ↓sSeq.eq_1, ↓sBreak.eq_1, ↓sCont.eq_1, ↓sExpr.eq_1, ↓sRet.eq_1, ↓sRetN.eq_1, ↓sIf.eq_1, ↓sSet.eq_1, ↓sAsg.eq_1, ↓sPar.eq_1, ↓sPar3.eq_1, ↓sAug.eq_1, ↓sFldM.eq_1, ↓sFldAugM.eq_1, ↓sFor.eq_1, ↓iLs.eq_1, ↓iTupM.eq_1, ↓iRange1.eq_1, ↓mCall.eq_1, ↓isC.eq_1, ↓isC.eq_2, ↓isC.eq_3, ↓mMeth.eq_1, ↓insC.eq_1, ↓insC.eq_2, ↓insC.eq_3, ↓mProp.eq_1, ↓mFld.eq_1, ↓mOwn.eq_1, ↓mOwn.eq_2, ↓mOwnR.eq_1, ↓mOwnR.eq_2, ↓mCmpO.eq_1, ↓mCmpO.eq_2, ↓kNotM.eq_1, ↓kNotM.eq_2, ↓mNeO.eq_1, ↓mNeO.eq_2, ↓mNeR.eq_1, ↓mNeR.eq_2, ↓mOwnU.eq_1, ↓mOwnU.eq_2, ↓kBlM.eq_1, ↓kBlM.eq_2, ↓mTruO.eq_1, ↓mTruO.eq_2, ↓mBoolO.eq_1, ↓mBoolO.eq_2, ↓kStrM.eq_1, ↓kStrM.eq_2, ↓mStrO.eq_1, ↓mStrO.eq_2, ↓mII.eq_1, ↓mII.eq_2, ↓mII0.eq_1, ↓mII0.eq_2, ↓mNeg.eq_1, ↓mNeg.eq_2, ↓mAddS.eq_1, ↓mAddS.eq_2, ↓noneD.eq_1, ↓noneD.eq_2, ↓mIsN.eq_1, ↓mIsN.eq_2, ↓mNotN.eq_1, ↓mNotN.eq_2, ↓mIsB.eq_1, ↓mIsB.eq_2, ↓mInt.eq_1, ↓mInt.eq_2, ↓mInt.eq_3, ↓mIntS.eq_1, ↓mIntS.eq_2, ↓mAbs.eq_1, ↓mAbs.eq_2, ↓mLen.eq_1, ↓mLen.eq_2, ↓mLen.eq_3, ↓mListF.eq_1, ↓mListF.eq_2, ↓mListM.eq_1, ↓mListM.eq_2, ↓mTupF.eq_1, ↓mTupF.eq_2, ↓mTupF.eq_3, ↓mBool1.eq_1, ↓mBool1.eq_2, ↓mBool1.eq_3, ↓mStrI.eq_1, ↓mStrI.eq_2, ↓mIx.eq_1, ↓mIx.eq_2, ↓mIxS.eq_1, ↓mIxS.eq_2, ↓mSl.eq_1, ↓mSlL.eq_1, ↓mSlS.eq_1, ↓mSlS.eq_2, ↓oNone.eq_1, ↓oSome.eq_1, ↓seqD.eq_1, ↓seqD.eq_2, ↓seqD.eq_3, ↓seqD.eq_4, ↓seqD.eq_5, ↓lsD.eq_1, ↓lsD.eq_2, ↓lsD.eq_3, ↓lsD.eq_4, ↓mdD.eq_1, ↓mdD.eq_2, ↓mdD.eq_3, ↓mCatL.eq_1, ↓mRepL.eq_1, ↓mRepL.eq_2, ↓isT.eq_1, ↓isT.eq_2, ↓isT.eq_3, ↓isT.eq_4, ↓isT.eq_5, ↓isT.eq_6, ↓mBM.eq_1, ↓bAppend.eq_1, ↓bAppend.eq_2, ↓bSplit.eq_1, ↓bSplit.eq_2, ↓bStarts.eq_1, ↓bStarts.eq_2, ↓bJoin.eq_1, ↓bJoin.eq_2, ↓mFmt.eq_1, ↓sRaise.eq_1, ↓mXat.eq_1, ↓mDict0.eq_1, ↓mNotT.eq_1, ↓mIsi.eq_1, ↓mIsi.eq_2, ↓mIsi.eq_3, ↓tyI.eq_1, ↓tyI.eq_2, ↓tyD.eq_1, ↓tyD.eq_2, ↓tyD.eq_3, ↓tyD.eq_4, ↓tyD.eq_5, ↓tyD.eq_6, ↓tyD.eq_7, ↓tyD.eq_8, ↓tyD.eq_9, ↓tyD.eq_10, ↓tyD.eq_11, ↓clsD.eq_1, ↓clsD.eq_2, ↓clsD.eq_3, ↓clsDs.eq_1, ↓clsDs.eq_2, ↓needT.eq_1, ↓needT.eq_2, ↓needT.eq_3, ↓needT.eq_4, ↓mHeard.eq_1, ↓mAsk.eq_1, ↓sTry.eq_1, ↓sFrz.eq_1, List.getElem?_cons_zero, List.getElem?_cons_succ, List.getElem?_nil, List.set_cons_zero, List.set_cons_succ, List.set_nil, List.length_cons, List.length_nil, List.map_cons, List.map_nil, List.cons_append, List.nil_append, List.append_nil, List.replicate_zero, List.replicate_succ, List.zip_cons_cons, List.zip_nil_left, List.zip_nil_right, Nat.reduceAdd, Nat.reduceSub, Nat.reduceEqDiff, Nat.reduceLT, Nat.reduceLeDiff, Nat.zero_add, Nat.add_zero, Bool.not_true, Bool.not_false, Bool.not_not, true_and, and_true, false_and, and_false, true_or, or_true, false_or, or_false, if_true, if_false, ite_true, ite_false, Bool.false_eq_true, reduceIte, reduceCtorEq, eq_self_iff_true, and_self, or_self, put_same, del_same, decide_true, decide_false, String.reduceEq, List.mem_cons, List.not_mem_nil, Int.reduceNeg, Int.reduceEq, Int.reduceLT, ne_eq, not_true_eq_false, not_false_eq_true, Z.kit_NoneType_int, Z.kit_bool_int, Z.kit_dict_int, Z.kit_int_int, Z.kit_list_int, Z.kit_str_int, Z.kit_tuple_int, Z.cls_Words, Z.cls_Words.cls, Z.kit_Words_int, Z.cls_Ratio, Z.cls_Ratio.cls, Z.kit_Ratio_int, Z.cls_Rounding, Z.cls_Rounding.cls, Z.kit_Rounding_int, Z.kit_NoneType_bool, Z.kit_bool_bool, Z.kit_dict_bool, Z.kit_int_bool, Z.kit_list_bool, Z.kit_str_bool, Z.kit_tuple_bool, Z.kit_Words_bool, Z.kit_Ratio_bool, Z.kit_Rounding_bool, Z.no_Ratio_over, Z.no_Ratio_under, Z.kit_NoneType_Ratio, Z.kit_bool_Ratio, Z.kit_dict_Ratio, Z.kit_int_Ratio, Z.kit_list_Ratio, Z.kit_str_Ratio, Z.kit_tuple_Ratio, Z.kit_Words_Ratio, Z.kit_Ratio_Ratio, Z.kit_Rounding_Ratio, Z.no_Rounding_threshold, Z.no_Rounding_is_from, lkF_self, asR_rat, toQ_rat, anyD_non, anyD_bl, anyD_int, anyD_str, anyD_tup, anyD_lst, anyD_wls, anyD_dict, isIntD_non, isIntD_bl, isIntD_int, isIntD_str, isIntD_tup, isIntD_lst, isIntD_wls, isIntD_dict, isNumD_non, isNumD_bl, isNumD_int, isNumD_str, isNumD_tup, isNumD_lst, isNumD_wls, isNumD_dict, toQ_non, toQ_bl, toQ_int, toQ_str, toQ_tup, toQ_lst, toQ_wls, toQ_dict, yOk_non, yOk_bl, yOk_int, yOk_str, yOk_tup, yOk_lst, yOk_wls, yOk_dict, cOk_non, cOk_bl, cOk_int, cOk_str, cOk_tup, cOk_lst, cOk_wls, cOk_dict, oddD, yOk_ins, cOk_ins, anyD_ins, isIntD_ins, isNumD_ins, BEq.rfl, mEqD_ii, mNeD_ii, mEqD_insL, mNeD_insL, mEqD_insR, mNeD_insR, asRd_rnd, put_put, Bool.false_or, Bool.or_false, Bool.or_true, Bool.true_or, Bool.and_true, Bool.true_and, Bool.and_false, Bool.false_and, Option.map_some, decide_eq_true_eq, lk_Ratio_over, pt_Ratio_over, lk_Ratio_under, pt_Ratio_under, nf_Ratio_divided, nf_Ratio_floor, lk_Words_all_words, pt_Words_all_words, lk_Words_taken, pt_Words_taken, lk_Rounding_threshold, pt_Rounding_threshold, lk_Rounding_is_from, pt_Rounding_is_from, nf_Rounding_stepped, nf_Rounding_is_step, nf_Rounding_before, nf_Rounding_behind, nf_Rounding_places, ↓c__law_pen.eq_1, ↓c__law_pen.eq_2, ↓c__law_draw.eq_1, ↓c__law_draw.eq_2, ↓c__law_pick.eq_1, ↓c__law_pick.eq_2, ↓c__law_frac.eq_1, ↓c__law_frac.eq_2, ↓c__law_number.eq_1, ↓c__law_number.eq_2, ↓c__law_kind.eq_1, ↓c__law_kind.eq_2, ↓c_is_integer.eq_1, ↓c_is_integer.eq_2, ↓c_divisor.eq_1, ↓c_divisor.eq_2, ↓c_new_Ratio.eq_1, ↓c_new_Ratio.eq_2, ↓c_new_Ratio.eq_3, ↓c_new_Ratio.eq_4, ↓c_is_number.eq_1, ↓c_is_number.eq_2, ↓c_Ratio_of.eq_1, ↓c_Ratio_of.eq_2, ↓c_Ratio___lt__.eq_1, ↓c_Ratio___lt__.eq_2, ↓c_Ratio___ge__.eq_1, ↓c_Ratio___ge__.eq_2, ↓c_Ratio___gt__.eq_1, ↓c_Ratio___gt__.eq_2, ↓c_Ratio___le__.eq_1, ↓c_Ratio___le__.eq_2, ↓c_is_same.eq_1, ↓c_is_same.eq_2, ↓c_Ratio___eq__.eq_1, ↓c_Ratio___eq__.eq_2, ↓c_Ratio___bool__.eq_1, ↓c_Ratio___bool__.eq_2, ↓c_new_Rounding.eq_1, ↓c_new_Rounding.eq_2, ↓c__law_rounding.eq_1, ↓c__law_rounding.eq_2, ↓c_Ratio___add__.eq_1, ↓c_Ratio___add__.eq_2, ↓c_need_number.eq_1, ↓c_need_number.eq_2, ↓c_Rounding_stepped.eq_1, ↓c_Rounding_stepped.eq_2, ↓c_Rounding___call__.eq_1, ↓c_Rounding___call__.eq_2, ↓c_Ratio___neg__.eq_1, ↓c_Ratio___neg__.eq_2, ↓c_Ratio___sub__.eq_1, ↓c_Ratio___sub__.eq_2, ↓c_Ratio_divided.eq_1, ↓c_Ratio_divided.eq_2, ↓c_Ratio_floor.eq_1, ↓c_Ratio_floor.eq_2, ↓c_Ratio___floordiv__.eq_1, ↓c_Ratio___floordiv__.eq_2, ↓c_Ratio___mul__.eq_1, ↓c_Ratio___mul__.eq_2, ↓c_Ratio___mod__.eq_1, ↓c_Ratio___mod__.eq_2, ↓c_Rounding_is_step.eq_1, ↓c_Rounding_is_step.eq_2, ↓c_Rounding_behind.eq_1, ↓c_Rounding_behind.eq_2, ↓c_Rounding_before.eq_1, ↓c_Rounding_before.eq_2, ↓c_Rounding_places.eq_1, ↓c_Rounding_places.eq_2, ↓c__law_right.eq_1, ↓c__law_right.eq_2, ↓c_law.eq_1, ↓c_law.eq_2])
set_option hygiene false in
local macro_rules | `(tactic| simp_arith [$ts,*]) => `(tactic| simp (config := {decide := false}) only [↓mEqW.eq_1, ↓mNeW.eq_1, ↓mFmtO.eq_1, ↓mCallP.eq_1, ↓mMethP.eq_1, ↓mCMethP.eq_1, ↓mCallO.eq_1, ↓mMakeP.eq_1, ↓bArgs.eq_1, ↓selA.eq_1, ↓selA.eq_2, ↓selA.eq_3, ↓selA.eq_4, ↓mSorted.eq_1, Option.getD_some, Option.getD_none, ↓mLc.eq_1, ↓goLc.eq_1, ↓goLc.eq_2, ↓wipeM.eq_1, ↓wipeM.eq_2, ↓bodyM.eq_1, ↓mVar.eq_1, ↓mC.eq_1, ↓mOp.eq_1, ↓mTest.eq_1, ↓mChain.eq_1, ↓mUn.eq_1, ↓mTru.eq_1, ↓dTru.eq_1, ↓dTru.eq_2, ↓dTru.eq_3, ↓dTru.eq_4, ↓dTru.eq_5, ↓dTru.eq_6, ↓dTru.eq_7, ↓dTru.eq_8, ↓dTru.eq_9, ↓dTru.eq_10, ↓mTr.eq_1, ↓mAnd.eq_1, ↓mOr.eq_1, ↓mNot.eq_1, ↓mAndV.eq_1, ↓mOrV.eq_1, ↓mNotV.eq_1, ↓mIf.eq_1, ↓mNil.eq_1, ↓mCons.eq_1, ↓mTup.eq_1, ↓mLst.eq_1, ↓mLstM.eq_1, ↓mAlt.eq_1, ↓uAlt.eq_1, ↓tAlt.eq_1, ↓fAlt.eq_1, ↓eAlt.eq_1, ↓lAlt.eq_1, ↓bAlt.eq_1, ↓gmName.eq_1, ↓gmNil.eq_1, ↓gmNil.eq_2, ↓gmCons.eq_1, ↓gmCons.eq_2, ↓gmTup.eq_1, ↓gmTup.eq_2, ↓gmSub.eq_1, ↓mSetL.eq_1, ↓mSetL.eq_2, ↓sNext.eq_1, ↓sSeq.eq_1, ↓sBreak.eq_1, ↓sCont.eq_1, ↓sExpr.eq_1, ↓sRet.eq_1, ↓sRetN.eq_1, ↓sIf.eq_1, ↓sSet.eq_1, ↓sAsg.eq_1, ↓sPar.eq_1, ↓sPar3.eq_1, ↓sAug.eq_1, ↓sFldM.eq_1, ↓sFldAugM.eq_1, ↓sFor.eq_1, ↓iLs.eq_1, ↓iTupM.eq_1, ↓iRange1.eq_1, ↓mCall.eq_1, ↓isC.eq_1, ↓isC.eq_2, ↓isC.eq_3, ↓mMeth.eq_1, ↓insC.eq_1, ↓insC.eq_2, ↓insC.eq_3, ↓mProp.eq_1, ↓mFld.eq_1, ↓mOwn.eq_1, ↓mOwn.eq_2, ↓mOwnR.eq_1, ↓mOwnR.eq_2, ↓mCmpO.eq_1, ↓mCmpO.eq_2, ↓kNotM.eq_1, ↓kNotM.eq_2, ↓mNeO.eq_1, ↓mNeO.eq_2, ↓mNeR.eq_1, ↓mNeR.eq_2, ↓mOwnU.eq_1, ↓mOwnU.eq_2, ↓kBlM.eq_1, ↓kBlM.eq_2, ↓mTruO.eq_1, ↓mTruO.eq_2, ↓mBoolO.eq_1, ↓mBoolO.eq_2, ↓kStrM.eq_1, ↓kStrM.eq_2, ↓mStrO.eq_1, ↓mStrO.eq_2, ↓mII.eq_1, ↓mII.eq_2, ↓mII0.eq_1, ↓mII0.eq_2, ↓mNeg.eq_1, ↓mNeg.eq_2, ↓mAddS.eq_1, ↓mAddS.eq_2, ↓noneD.eq_1, ↓noneD.eq_2, ↓mIsN.eq_1, ↓mIsN.eq_2, ↓mNotN.eq_1, ↓mNotN.eq_2, ↓mIsB.eq_1, ↓mIsB.eq_2, ↓mInt.eq_1, ↓mInt.eq_2, ↓mInt.eq_3, ↓mIntS.eq_1, ↓mIntS.eq_2, ↓mAbs.eq_1, ↓mAbs.eq_2, ↓mLen.eq_1, ↓mLen.eq_2, ↓mLen.eq_3, ↓mListF.eq_1, ↓mListF.eq_2, ↓mListM.eq_1, ↓mListM.eq_2, ↓mTupF.eq_1, ↓mTupF.eq_2, ↓mTupF.eq_3, ↓mBool1.eq_1, ↓mBool1.eq_2, ↓mBool1.eq_3, ↓mStrI.eq_1, ↓mStrI.eq_2, ↓mIx.eq_1, ↓mIx.eq_2, ↓mIxS.eq_1, ↓mIxS.eq_2, ↓mSl.eq_1, ↓mSlL.eq_1, ↓mSlS.eq_1, ↓mSlS.eq_2, ↓oNone.eq_1, ↓oSome.eq_1, ↓seqD.eq_1, ↓seqD.eq_2, ↓seqD.eq_3, ↓seqD.eq_4, ↓seqD.eq_5, ↓lsD.eq_1, ↓lsD.eq_2, ↓lsD.eq_3, ↓lsD.eq_4, ↓mdD.eq_1, ↓mdD.eq_2, ↓mdD.eq_3, ↓mCatL.eq_1, ↓mRepL.eq_1, ↓mRepL.eq_2, ↓isT.eq_1, ↓isT.eq_2, ↓isT.eq_3, ↓isT.eq_4, ↓isT.eq_5, ↓isT.eq_6, ↓mBM.eq_1, ↓bAppend.eq_1, ↓bAppend.eq_2, ↓bSplit.eq_1, ↓bSplit.eq_2, ↓bStarts.eq_1, ↓bStarts.eq_2, ↓bJoin.eq_1, ↓bJoin.eq_2, ↓mFmt.eq_1, ↓sRaise.eq_1, ↓mXat.eq_1, ↓mDict0.eq_1, ↓mNotT.eq_1, ↓mIsi.eq_1, ↓mIsi.eq_2, ↓mIsi.eq_3, ↓tyI.eq_1, ↓tyI.eq_2, ↓tyD.eq_1, ↓tyD.eq_2, ↓tyD.eq_3, ↓tyD.eq_4, ↓tyD.eq_5, ↓tyD.eq_6, ↓tyD.eq_7, ↓tyD.eq_8, ↓tyD.eq_9, ↓tyD.eq_10, ↓tyD.eq_11, ↓clsD.eq_1, ↓clsD.eq_2, ↓clsD.eq_3, ↓clsDs.eq_1, ↓clsDs.eq_2, ↓needT.eq_1, ↓needT.eq_2, ↓needT.eq_3, ↓needT.eq_4, ↓mHeard.eq_1, ↓mAsk.eq_1, ↓sTry.eq_1, ↓sFrz.eq_1, List.getElem?_cons_zero, List.getElem?_cons_succ, List.getElem?_nil, List.set_cons_zero, List.set_cons_succ, List.set_nil, List.length_cons, List.length_nil, List.map_cons, List.map_nil, List.cons_append, List.nil_append, List.append_nil, List.replicate_zero, List.replicate_succ, List.zip_cons_cons, List.zip_nil_left, List.zip_nil_right, Nat.reduceAdd, Nat.reduceSub, Nat.reduceEqDiff, Nat.reduceLT, Nat.reduceLeDiff, Nat.zero_add, Nat.add_zero, Bool.not_true, Bool.not_false, Bool.not_not, true_and, and_true, false_and, and_false, true_or, or_true, false_or, or_false, if_true, if_false, ite_true, ite_false, Bool.false_eq_true, reduceIte, reduceCtorEq, eq_self_iff_true, and_self, or_self, put_same, del_same, decide_true, decide_false, String.reduceEq, List.mem_cons, List.not_mem_nil, Int.reduceNeg, Int.reduceEq, Int.reduceLT, ne_eq, not_true_eq_false, not_false_eq_true, Z.kit_NoneType_int, Z.kit_bool_int, Z.kit_dict_int, Z.kit_int_int, Z.kit_list_int, Z.kit_str_int, Z.kit_tuple_int, Z.cls_Words, Z.cls_Words.cls, Z.kit_Words_int, Z.cls_Ratio, Z.cls_Ratio.cls, Z.kit_Ratio_int, Z.cls_Rounding, Z.cls_Rounding.cls, Z.kit_Rounding_int, Z.kit_NoneType_bool, Z.kit_bool_bool, Z.kit_dict_bool, Z.kit_int_bool, Z.kit_list_bool, Z.kit_str_bool, Z.kit_tuple_bool, Z.kit_Words_bool, Z.kit_Ratio_bool, Z.kit_Rounding_bool, Z.no_Ratio_over, Z.no_Ratio_under, Z.kit_NoneType_Ratio, Z.kit_bool_Ratio, Z.kit_dict_Ratio, Z.kit_int_Ratio, Z.kit_list_Ratio, Z.kit_str_Ratio, Z.kit_tuple_Ratio, Z.kit_Words_Ratio, Z.kit_Ratio_Ratio, Z.kit_Rounding_Ratio, Z.no_Rounding_threshold, Z.no_Rounding_is_from, lkF_self, asR_rat, toQ_rat, anyD_non, anyD_bl, anyD_int, anyD_str, anyD_tup, anyD_lst, anyD_wls, anyD_dict, isIntD_non, isIntD_bl, isIntD_int, isIntD_str, isIntD_tup, isIntD_lst, isIntD_wls, isIntD_dict, isNumD_non, isNumD_bl, isNumD_int, isNumD_str, isNumD_tup, isNumD_lst, isNumD_wls, isNumD_dict, toQ_non, toQ_bl, toQ_int, toQ_str, toQ_tup, toQ_lst, toQ_wls, toQ_dict, yOk_non, yOk_bl, yOk_int, yOk_str, yOk_tup, yOk_lst, yOk_wls, yOk_dict, cOk_non, cOk_bl, cOk_int, cOk_str, cOk_tup, cOk_lst, cOk_wls, cOk_dict, oddD, yOk_ins, cOk_ins, anyD_ins, isIntD_ins, isNumD_ins, BEq.rfl, mEqD_ii, mNeD_ii, mEqD_insL, mNeD_insL, mEqD_insR, mNeD_insR, asRd_rnd, put_put, Bool.false_or, Bool.or_false, Bool.or_true, Bool.true_or, Bool.and_true, Bool.true_and, Bool.and_false, Bool.false_and, Option.map_some, decide_eq_true_eq, lk_Ratio_over, pt_Ratio_over, lk_Ratio_under, pt_Ratio_under, nf_Ratio_divided, nf_Ratio_floor, lk_Words_all_words, pt_Words_all_words, lk_Words_taken, pt_Words_taken, lk_Rounding_threshold, pt_Rounding_threshold, lk_Rounding_is_from, pt_Rounding_is_from, nf_Rounding_stepped, nf_Rounding_is_step, nf_Rounding_before, nf_Rounding_behind, nf_Rounding_places, ↓c__law_pen.eq_1, ↓c__law_pen.eq_2, ↓c__law_draw.eq_1, ↓c__law_draw.eq_2, ↓c__law_pick.eq_1, ↓c__law_pick.eq_2, ↓c__law_frac.eq_1, ↓c__law_frac.eq_2, ↓c__law_number.eq_1, ↓c__law_number.eq_2, ↓c__law_kind.eq_1, ↓c__law_kind.eq_2, ↓c_is_integer.eq_1, ↓c_is_integer.eq_2, ↓c_divisor.eq_1, ↓c_divisor.eq_2, ↓c_new_Ratio.eq_1, ↓c_new_Ratio.eq_2, ↓c_new_Ratio.eq_3, ↓c_new_Ratio.eq_4, ↓c_is_number.eq_1, ↓c_is_number.eq_2, ↓c_Ratio_of.eq_1, ↓c_Ratio_of.eq_2, ↓c_Ratio___lt__.eq_1, ↓c_Ratio___lt__.eq_2, ↓c_Ratio___ge__.eq_1, ↓c_Ratio___ge__.eq_2, ↓c_Ratio___gt__.eq_1, ↓c_Ratio___gt__.eq_2, ↓c_Ratio___le__.eq_1, ↓c_Ratio___le__.eq_2, ↓c_is_same.eq_1, ↓c_is_same.eq_2, ↓c_Ratio___eq__.eq_1, ↓c_Ratio___eq__.eq_2, ↓c_Ratio___bool__.eq_1, ↓c_Ratio___bool__.eq_2, ↓c_new_Rounding.eq_1, ↓c_new_Rounding.eq_2, ↓c__law_rounding.eq_1, ↓c__law_rounding.eq_2, ↓c_Ratio___add__.eq_1, ↓c_Ratio___add__.eq_2, ↓c_need_number.eq_1, ↓c_need_number.eq_2, ↓c_Rounding_stepped.eq_1, ↓c_Rounding_stepped.eq_2, ↓c_Rounding___call__.eq_1, ↓c_Rounding___call__.eq_2, ↓c_Ratio___neg__.eq_1, ↓c_Ratio___neg__.eq_2, ↓c_Ratio___sub__.eq_1, ↓c_Ratio___sub__.eq_2, ↓c_Ratio_divided.eq_1, ↓c_Ratio_divided.eq_2, ↓c_Ratio_floor.eq_1, ↓c_Ratio_floor.eq_2, ↓c_Ratio___floordiv__.eq_1, ↓c_Ratio___floordiv__.eq_2, ↓c_Ratio___mul__.eq_1, ↓c_Ratio___mul__.eq_2, ↓c_Ratio___mod__.eq_1, ↓c_Ratio___mod__.eq_2, ↓c_Rounding_is_step.eq_1, ↓c_Rounding_is_step.eq_2, ↓c_Rounding_behind.eq_1, ↓c_Rounding_behind.eq_2, ↓c_Rounding_before.eq_1, ↓c_Rounding_before.eq_2, ↓c_Rounding_places.eq_1, ↓c_Rounding_places.eq_2, ↓c__law_right.eq_1, ↓c__law_right.eq_2, ↓c_law.eq_1, ↓c_law.eq_2, $ts,*])
section
variable {P : Program} {w : World} {K : PySem.W.Frag} {mg : Str → Option Value} {base : Heap}
/-! law -/
def b_law (K : PySem.W.Frag) : FS :=
    (sSeq (sSet 1 (mCall (c__law_pen K) [] (mCons (mVar 0) mNil)))
    (sSeq (sFor (iRange1 (mCons (mC (.int 16)) mNil)) (gmName 2)
      (sIf (mNot (mTr mTru (mCall (c__law_right K) [] (mCons (mVar 1) mNil))))
        (sRet (mC (.bl false)))
        sNext))
    (sRet (mC (.bl true)))))
def m_law (K : PySem.W.Frag) : FM := bodyM 1 3 (b_law K)
theorem cl_law (Z : Zf P w K mg) {ds : List D} {μ : MS} {Q : D → MS → Prop} {X : MX} (h : c_law K ds μ Q X) : m_law K ds μ Q X := by
  unfold c_law at h
  split at h
  · rename_i d
    obtain ⟨hd, h⟩ := h
    unfold m_law
    refine body_gen fun R hR => ?_
    simp_arith []
    subst hR
    unfold b_law
    refine seq_gen fun R hR => ?_
    simp_arith []
    refine ⟨hd, fun a v0 ha hp0 => ?_⟩
    subst hR
    refine seq_gen fun R hR => ?_
    refine for_gen fun G B hG hB => ?_
    simp_arith []
    refine ⟨by decide, by decide, ?_⟩
    refine goFor_ind (I := fun k ρ μ2 => ∃ o2 v, ρ = [some d, some (.ref a), o2] ∧ μ2 = put μ a v ∧ PenV v (20 * k)) 16 ?_ (rgD 0 (Int.toNat 16)) 0 _ _ (by rw [rgD_length]; rfl) ?_ ⟨_, _, rfl, rfl, hp0⟩
    · rintro N k dd ρ μ2 hk hN ⟨o2, v, rfl, rfl, hp⟩
      subst hG
      refine (show ∀ B', B' = B → gmName 2 dd _ _ (fun ρ1 μ1 => B' _ ρ1 μ1) X from fun B' hB' => ?_) B rfl
      simp_arith []
      subst hB' hB
      simp_arith []
      exact ⟨v, _, rfl, hp, by omega, fun v2 hp2 => hN _ _ ⟨_, _, rfl, rfl, hp2.le (by omega)⟩⟩
    · rintro ρ μ2 ⟨o2, v, rfl, rfl, hp⟩
      simp_arith []
      subst hR
      simp_arith []
      exact h _
  · exact h.elim
theorem law_true (ns : List Int) (μ : MS) (_ : ns.length ≤ 63) (_ : ∀ z ∈ ns, Builtin.Int.intBits z ≤ 1048576) : c_law K [.wls (intsD ns)] μ (fun d _ => d = .bl true) (fun _ _ _ => False) := ⟨⟨ns, rfl⟩, fun _ => rfl⟩
theorem ok_law {fd : FuncData} (M : MT mg K) (Z : Zf P w K mg) (D__law_pen : DnM P w K mg base (Tt K) 1 (a__law_pen K) ["_law_script"] [] (c__law_pen K)) (D__law_right : DnM P w K mg base (Tt K) 10 (a__law_right K) ["_law_pen_here"] [] (c__law_right K)) (F : FnP K d_law fd) :
    FnG P w K mg base (L2.CX P w) 11 (a_law K) fd ["_law_script"] (spF K (Tt K) (c_law K)) :=
  FnG.imp (fnGM (b := b_law K) F sc_law rfl (fun cdv A outer s H E hr hgd =>
    (pssm_cons (psm_set (i := 1) sc_law.nd rfl (Or.inl rfl) (pm_call (dv := []) (dd := []) D__law_pen 0 (hr.mono (by decide)) rfl M.g__law_pen passX (pam_cons (pmv 0) pam_nil) (fun _ => .nil)))
    (pssm_cons (psm_for ownX (by rfl) (pim_range1 (by rfl) M.f_range (pam_cons pm_int pam_nil)) (pgm_name (i := 2) sc_law.nd rfl (Or.inl rfl))
      (pssm_one (psm_if (ptm_not (ptm_tru tm_tru (pm_call (dv := []) (dd := []) D__law_right 0 (hr.mono (by decide)) rfl M.g__law_right passX (pam_cons (pmv 1) pam_nil) (fun _ => .nil)) (by intro _; rfl)))
        (pssm_one (psm_ret pm_bl))
        pssm_nil)))
    (pssm_one (psm_ret pm_bl)))))) (fun ds μ Q X h => cl_law Z h)
end
end Mz

set_option maxHeartbeats 0
namespace Mz
open PySem PySem.Spec PyProof.Rows L2 He Hz AzX ClX LamX Az
def fz : List DefZ := [d__law_pen, d__law_draw, d__law_pick, d__law_frac, d__law_number, d__law_kind, d_is_integer, d_divisor, d_Ratio___init__, d_is_number, d_Ratio_of, d_Ratio___lt__, d_Ratio___ge__, d_Ratio___gt__, d_Ratio___le__, d_is_same, d_Ratio___eq__, d_Ratio___bool__, d_Rounding___init__, d__law_rounding, d_Ratio___add__, d_need_number, d_Rounding_stepped, d_Rounding___call__, d_Ratio___neg__, d_Ratio___sub__, d_Ratio_divided, d_Ratio_floor, d_Ratio___floordiv__, d_Ratio___mul__, d_Ratio___mod__, d_Rounding_is_step, d_Rounding_behind, d_Rounding_before, d_Rounding_places, d__law_right, d_law, d_BadRatio___init__, d_BadRounding___init__, d_BadNumber___init__]
def tf : List Defn := []
def names0 : List PySem.Str := ["_wall", "__name__", "SnapError", "BadRatio", "BadRounding", "BadNumber", "BadText", "FIGURES", "integer_in", "Words", "is_integer", "divisor", "is_number", "Ratio", "is_same", "some_numbers", "ratio_in", "take_ratio", "Rounding", "need_number", "take_rounding", "_law_pen", "_law_draw", "_law_pick", "_law_frac", "_law_plus", "_law_times", "_law_less", "_law_ratio", "_law_kind"]
def names1 : List PySem.Str := ["_law_rounding", "_law_round", "_law_number", "_law_right"]
def names : List PySem.Str := names0 ++ names1
def ex0 (K : PySem.W.Frag) : List Bool := [(Fa.glo "_wall").ok K, (Fa.glo "SnapError").ok K, (Fa.glo "BadRatio").ok K, (Fa.glo "BadRounding").ok K, (Fa.glo "BadNumber").ok K, (Fa.glo "BadText").ok K, (Fa.glo "integer_in").ok K, (Fa.glo "Words").ok K, (Fa.glo "is_integer").ok K, (Fa.glo "divisor").ok K, (Fa.glo "is_number").ok K, (Fa.glo "Ratio").ok K, (Fa.glo "is_same").ok K, (Fa.glo "some_numbers").ok K, (Fa.glo "ratio_in").ok K, (Fa.glo "take_ratio").ok K, (Fa.glo "Rounding").ok K, (Fa.glo "need_number").ok K, (Fa.glo "take_rounding").ok K, (Fa.glo "_law_pen").ok K, (Fa.glo "_law_draw").ok K, (Fa.glo "_law_pick").ok K, (Fa.glo "_law_frac").ok K, (Fa.glo "_law_plus").ok K, (Fa.glo "_law_times").ok K]
def ex1 (K : PySem.W.Frag) : List Bool := [(Fa.glo "_law_less").ok K, (Fa.glo "_law_ratio").ok K, (Fa.glo "_law_kind").ok K, (Fa.glo "_law_rounding").ok K, (Fa.glo "_law_round").ok K, (Fa.glo "_law_number").ok K, (Fa.glo "_law_right").ok K, (Fa.glo "law").ok K, (Fa.free "ValueError").ok K, (Fa.free "abs").ok K, (Fa.free "all").ok K, (Fa.free "bool").ok K, (Fa.free "classmethod").ok K, (Fa.free "int").ok K, (Fa.free "isinstance").ok K, (Fa.free "len").ok K, (Fa.free "list").ok K, (Fa.free "property").ok K, (Fa.free "range").ok K, (Fa.free "sorted").ok K, (Fa.free "staticmethod").ok K, (Fa.free "str").ok K, (Fa.free "super").ok K, (Fa.free "tuple").ok K, kitB1 K (.type "NoneType") (.type "int") false]
def ex2 (K : PySem.W.Frag) : List Bool := [kitB1 K (.type "bool") (.type "int") true, kitB1 K (.type "dict") (.type "int") false, kitB1 K (.type "int") (.type "int") true, kitB1 K (.type "list") (.type "int") false, kitB1 K (.type "str") (.type "int") false, kitB1 K (.type "tuple") (.type "int") false, clsTB K "Words", kitB1 K (.ref (ca K "Words")) (.type "int") false, clsTB K "Ratio", kitB1 K (.ref (ca K "Ratio")) (.type "int") false, clsTB K "Rounding", kitB1 K (.ref (ca K "Rounding")) (.type "int") false, kitB1 K (.type "NoneType") (.type "bool") false, kitB1 K (.type "bool") (.type "bool") true, kitB1 K (.type "dict") (.type "bool") false, kitB1 K (.type "int") (.type "bool") false, kitB1 K (.type "list") (.type "bool") false, kitB1 K (.type "str") (.type "bool") false, kitB1 K (.type "tuple") (.type "bool") false, kitB1 K (.ref (ca K "Words")) (.type "bool") false, kitB1 K (.ref (ca K "Ratio")) (.type "bool") false, kitB1 K (.ref (ca K "Rounding")) (.type "bool") false, erB (PySem.Challenge.pw_allzooms_k09_whole_roundings_rise_and_co.main.file : Str) K "BadRatio" ["value"], (Fa.noat "Ratio" "over").ok K, (Fa.noat "Ratio" "under").ok K]
def ex3 (K : PySem.W.Frag) : List Bool := [kitB1 K (.type "NoneType") (.ref (ca K "Ratio")) false, kitB1 K (.type "bool") (.ref (ca K "Ratio")) false, kitB1 K (.type "dict") (.ref (ca K "Ratio")) false, kitB1 K (.type "int") (.ref (ca K "Ratio")) false, kitB1 K (.type "list") (.ref (ca K "Ratio")) false, kitB1 K (.type "str") (.ref (ca K "Ratio")) false, kitB1 K (.type "tuple") (.ref (ca K "Ratio")) false, kitB1 K (.ref (ca K "Words")) (.ref (ca K "Ratio")) false, kitB1 K (.ref (ca K "Ratio")) (.ref (ca K "Ratio")) true, kitB1 K (.ref (ca K "Rounding")) (.ref (ca K "Ratio")) false, (Fa.mkr "Ratio").ok K, crB K "Ratio", smB K "Ratio" "of", nofB K "Ratio" ["Words", "Rounding"], (Fa.meth "Ratio" "__lt__").ok K, (Fa.meth "Ratio" "__gt__").ok K, subB K "Ratio" "int", (Fa.meth "Ratio" "__ge__").ok K, (Fa.meth "Ratio" "__le__").ok K, erB (PySem.Challenge.pw_allzooms_k09_whole_roundings_rise_and_co.main.file : Str) K "BadRounding" ["part"], (Fa.meth "Ratio" "__eq__").ok K, (Fa.meth "Ratio" "__bool__").ok K, (Fa.noat "Rounding" "threshold").ok K, (Fa.noat "Rounding" "is_from").ok K, (Fa.mkr "Rounding").ok K]
def ex4 (K : PySem.W.Frag) : List Bool := [erB (PySem.Challenge.pw_allzooms_k09_whole_roundings_rise_and_co.main.file : Str) K "BadNumber" ["value"], (Fa.meth "Rounding" "stepped").ok K, (Fa.meth "Ratio" "__neg__").ok K, opcB K "Ratio" "add", optsB K "Ratio" "add", (Fa.meth "Ratio" "divided").ok K, (Fa.meth "Ratio" "floor").ok K, opcB K "Ratio" "floordiv", optsB K "Ratio" "floordiv", opcB K "Ratio" "mul", optsB K "Ratio" "mul", opcB K "Ratio" "sub", optsB K "Ratio" "sub", opcB K "Ratio" "mod", optsB K "Ratio" "mod", coB K "Rounding", (Fa.meth "Rounding" "is_step").ok K, (Fa.meth "Rounding" "behind").ok K, (Fa.meth "Rounding" "before").ok K, (Fa.meth "Rounding" "places").ok K]
def ex (K : PySem.W.Frag) : List Bool := ex0 K ++ ex1 K ++ ex2 K ++ ex3 K ++ ex4 K
def asL : List Addr := [2, 3, 31, 53, 74, 95, 198, 209, 216, 223, 438, 449, 598, 609, 623, 630, 637, 644, 680, 687, 701, 706, 713, 30, 52, 73, 94, 197, 208, 215, 222, 437, 448, 597, 608, 622, 629, 636, 643, 679, 686, 700, 705, 712, 50, 71, 92, 238, 257, 295, 302, 309, 316, 323, 330, 337, 344, 351, 358, 365, 372, 379, 386, 393, 400, 407, 414, 421, 482, 539, 546, 553, 560, 567, 574, 49, 38, 70, 59, 91, 80, 237, 231, 255, 294, 308, 322, 336, 343, 350, 364, 378, 385, 392, 399, 406, 413, 420, 481, 475, 538, 545, 552, 559, 566, 573, 254]
abbrev RW : PySem.W.OpenRow := PySem.W.OpenLaw.row PySem.Challenge.rw_allzooms_k09_whole_roundings_rise_and_co
abbrev hk : PySem.W.Hook := hookL asL fz tf ex
def ob (s : PySem.W.SharedT) : AlZ := obsL asL fz tf ex (HandSHeadRun.getT s)
theorem ob_eq (s : PySem.W.SharedT) : ob s = hk.obs s.abs := obsL_eq (HandSHeadRun.getT_eq s)
theorem run (w : World) : HandSHeadRun.RunEq RW (PySem.W.view RW.prog [38]) hk ob 6000 names w := by
  intro os
  kernel_rfl
theorem mks_BadRatio {P : Program} {w : World} {K : PySem.W.Frag} {mg : Str → Option Value} {C fI : Addr} (T : AzX.ExK P K mg C fI (defArgs s_BadRatio___init__) (defBody s_BadRatio___init__) (defScope s_BadRatio___init__)) (no : PySem.W.findIn K (.ref C) "value" = some none) (base : Heap) (us : List Value) (hl : us.length = 1) : Makes P w K mg base C ⟨us, []⟩ (mOf ["value"] us) := by
  match us, hl with
  | [v], _ =>
  refine makes_of T (size_ok rfl) ?_
  intro A s R x t0 M kb hlim hx hnx hroom hq
  rw [mOf1] at hq
  exact init1 (f := "value") (v := v) T (by decide +kernel) no ⟨fun _ _ _ _ => ⟨_, rfl⟩, fun _ _ _ _ => rfl⟩ (fun _ _ _ _ => rfl) M kb hlim hx hnx hroom (fun fd h => by obtain ⟨_, _, _, _, _, _, _, _, rfl⟩ := h; exact .of_eq rfl) hq
theorem mks_BadRounding {P : Program} {w : World} {K : PySem.W.Frag} {mg : Str → Option Value} {C fI : Addr} (T : AzX.ExK P K mg C fI (defArgs s_BadRounding___init__) (defBody s_BadRounding___init__) (defScope s_BadRounding___init__)) (no : PySem.W.findIn K (.ref C) "part" = some none) (base : Heap) (us : List Value) (hl : us.length = 1) : Makes P w K mg base C ⟨us, []⟩ (mOf ["part"] us) := by
  match us, hl with
  | [v], _ =>
  refine makes_of T (size_ok rfl) ?_
  intro A s R x t0 M kb hlim hx hnx hroom hq
  rw [mOf1] at hq
  exact init1 (f := "part") (v := v) T (by decide +kernel) no ⟨fun _ _ _ _ => ⟨_, rfl⟩, fun _ _ _ _ => rfl⟩ (fun _ _ _ _ => rfl) M kb hlim hx hnx hroom (fun fd h => by obtain ⟨_, _, _, _, _, _, _, _, rfl⟩ := h; exact .of_eq rfl) hq
theorem mks_BadNumber {P : Program} {w : World} {K : PySem.W.Frag} {mg : Str → Option Value} {C fI : Addr} (T : AzX.ExK P K mg C fI (defArgs s_BadNumber___init__) (defBody s_BadNumber___init__) (defScope s_BadNumber___init__)) (no : PySem.W.findIn K (.ref C) "value" = some none) (base : Heap) (us : List Value) (hl : us.length = 1) : Makes P w K mg base C ⟨us, []⟩ (mOf ["value"] us) := by
  match us, hl with
  | [v], _ =>
  refine makes_of T (size_ok rfl) ?_
  intro A s R x t0 M kb hlim hx hnx hroom hq
  rw [mOf1] at hq
  exact init1 (f := "value") (v := v) T (by decide +kernel) no ⟨fun _ _ _ _ => ⟨_, rfl⟩, fun _ _ _ _ => rfl⟩ (fun _ _ _ _ => rfl) M kb hlim hx hnx hroom (fun fd h => by obtain ⟨_, _, _, _, _, _, _, _, rfl⟩ := h; exact .of_eq rfl) hq
theorem mt_of {K : PySem.W.Frag} {h : Heap} {mg : Str → Option Value} (KX : K.In h) (G : h.Ns mainGlobals mg) (c : Says fz tf ex h K) : MT mg K :=
  ⟨glo_ok KX G (c.fact 0 rfl), glo_ok KX G (c.fact 1 rfl), glo_ok KX G (c.fact 2 rfl), glo_ok KX G (c.fact 3 rfl), glo_ok KX G (c.fact 4 rfl), glo_ok KX G (c.fact 5 rfl), glo_ok KX G (c.fact 6 rfl), glo_ok KX G (c.fact 7 rfl), glo_ok KX G (c.fact 8 rfl), glo_ok KX G (c.fact 9 rfl), glo_ok KX G (c.fact 10 rfl), glo_ok KX G (c.fact 11 rfl), glo_ok KX G (c.fact 12 rfl), glo_ok KX G (c.fact 13 rfl), glo_ok KX G (c.fact 14 rfl), glo_ok KX G (c.fact 15 rfl), glo_ok KX G (c.fact 16 rfl), glo_ok KX G (c.fact 17 rfl), glo_ok KX G (c.fact 18 rfl), glo_ok KX G (c.fact 19 rfl), glo_ok KX G (c.fact 20 rfl), glo_ok KX G (c.fact 21 rfl), glo_ok KX G (c.fact 22 rfl), glo_ok KX G (c.fact 23 rfl), glo_ok KX G (c.fact 24 rfl), glo_ok KX G (c.fact 25 rfl), glo_ok KX G (c.fact 26 rfl), glo_ok KX G (c.fact 27 rfl), glo_ok KX G (c.fact 28 rfl), glo_ok KX G (c.fact 29 rfl), glo_ok KX G (c.fact 30 rfl), glo_ok KX G (c.fact 31 rfl), glo_ok KX G (c.fact 32 rfl), free_ok KX G (c.fact 33 rfl), free_ok KX G (c.fact 34 rfl), free_ok KX G (c.fact 35 rfl), free_ok KX G (c.fact 36 rfl), free_ok KX G (c.fact 37 rfl), free_ok KX G (c.fact 38 rfl), free_ok KX G (c.fact 39 rfl), free_ok KX G (c.fact 40 rfl), free_ok KX G (c.fact 41 rfl), free_ok KX G (c.fact 42 rfl), free_ok KX G (c.fact 43 rfl), free_ok KX G (c.fact 44 rfl), free_ok KX G (c.fact 45 rfl), free_ok KX G (c.fact 46 rfl), free_ok KX G (c.fact 47 rfl), free_ok KX G (c.fact 48 rfl)⟩
theorem zf_of {w : World} {K : PySem.W.Frag} {h : Heap} {mg : Str → Option Value} (KX : K.In h) (G : h.Ns mainGlobals mg) (c : Says fz tf ex h K) : Zf PySem.Challenge.rw_allzooms_k09_whole_roundings_rise_and_co.prog w K mg := by
  have M := mt_of KX G c
  obtain ⟨eb_BadRatio, es_BadRatio, et_BadRatio⟩ := erB_ok (c.fact 72 rfl)
  obtain ⟨EX_BadRatio, no_BadRatio⟩ := exk_of (P := PySem.Challenge.rw_allzooms_k09_whole_roundings_rise_and_co.prog) (mg := mg) (x := "BadRatio") (fs := ["value"]) (d := d_BadRatio___init__) rfl rfl rfl (c.at 37 rfl).1 (c.at 37 rfl).2 eb_BadRatio M.f_super (by decide +kernel)
  obtain ⟨eb_BadRounding, es_BadRounding, et_BadRounding⟩ := erB_ok (c.fact 94 rfl)
  obtain ⟨EX_BadRounding, no_BadRounding⟩ := exk_of (P := PySem.Challenge.rw_allzooms_k09_whole_roundings_rise_and_co.prog) (mg := mg) (x := "BadRounding") (fs := ["part"]) (d := d_BadRounding___init__) rfl rfl rfl (c.at 38 rfl).1 (c.at 38 rfl).2 eb_BadRounding M.f_super (by decide +kernel)
  obtain ⟨eb_BadNumber, es_BadNumber, et_BadNumber⟩ := erB_ok (c.fact 100 rfl)
  obtain ⟨EX_BadNumber, no_BadNumber⟩ := exk_of (P := PySem.Challenge.rw_allzooms_k09_whole_roundings_rise_and_co.prog) (mg := mg) (x := "BadNumber") (fs := ["value"]) (d := d_BadNumber___init__) rfl rfl rfl (c.at 39 rfl).1 (c.at 39 rfl).2 eb_BadNumber M.f_super (by decide +kernel)
  exact ⟨kitB1_ok (c.fact 49 rfl),
    kitB1_ok (c.fact 50 rfl),
    kitB1_ok (c.fact 51 rfl),
    kitB1_ok (c.fact 52 rfl),
    kitB1_ok (c.fact 53 rfl),
    kitB1_ok (c.fact 54 rfl),
    kitB1_ok (c.fact 55 rfl),
    clsTB_ok (c.fact 56 rfl),
    kitB1_ok (c.fact 57 rfl),
    clsTB_ok (c.fact 58 rfl),
    kitB1_ok (c.fact 59 rfl),
    clsTB_ok (c.fact 60 rfl),
    kitB1_ok (c.fact 61 rfl),
    kitB1_ok (c.fact 62 rfl),
    kitB1_ok (c.fact 63 rfl),
    kitB1_ok (c.fact 64 rfl),
    kitB1_ok (c.fact 65 rfl),
    kitB1_ok (c.fact 66 rfl),
    kitB1_ok (c.fact 67 rfl),
    kitB1_ok (c.fact 68 rfl),
    kitB1_ok (c.fact 69 rfl),
    kitB1_ok (c.fact 70 rfl),
    kitB1_ok (c.fact 71 rfl),
    ⟨fun base us hl => mks_BadRatio EX_BadRatio (no_BadRatio "value" (by simp)) base us hl, es_BadRatio, et_BadRatio, EX_BadRatio.kC⟩,
    noat_ok (c.fact 73 rfl),
    noat_ok (c.fact 74 rfl),
    kitB1_ok (c.fact 75 rfl),
    kitB1_ok (c.fact 76 rfl),
    kitB1_ok (c.fact 77 rfl),
    kitB1_ok (c.fact 78 rfl),
    kitB1_ok (c.fact 79 rfl),
    kitB1_ok (c.fact 80 rfl),
    kitB1_ok (c.fact 81 rfl),
    kitB1_ok (c.fact 82 rfl),
    kitB1_ok (c.fact 83 rfl),
    kitB1_ok (c.fact 84 rfl),
    mkr_ok (c.fact 85 rfl),
    crB_ok (c.fact 86 rfl),
    smB_ok (c.fact 87 rfl),
    nofB_ok (c.fact 88 rfl),
    cm_of (c.fact 89 rfl),
    cm_of (c.fact 90 rfl),
    subB_ok (c.fact 91 rfl),
    cm_of (c.fact 92 rfl),
    cm_of (c.fact 93 rfl),
    ⟨fun base us hl => mks_BadRounding EX_BadRounding (no_BadRounding "part" (by simp)) base us hl, es_BadRounding, et_BadRounding, EX_BadRounding.kC⟩,
    cm_of (c.fact 95 rfl),
    cm_of (c.fact 96 rfl),
    noat_ok (c.fact 97 rfl),
    noat_ok (c.fact 98 rfl),
    mkr_ok (c.fact 99 rfl),
    ⟨fun base us hl => mks_BadNumber EX_BadNumber (no_BadNumber "value" (by simp)) base us hl, es_BadNumber, et_BadNumber, EX_BadNumber.kC⟩,
    meth_ok (c.fact 101 rfl),
    cm_of (c.fact 102 rfl),
    opcB_ok (c.fact 103 rfl),
    optsB_ok (c.fact 104 rfl),
    meth_ok (c.fact 105 rfl),
    meth_ok (c.fact 106 rfl),
    opcB_ok (c.fact 107 rfl),
    optsB_ok (c.fact 108 rfl),
    opcB_ok (c.fact 109 rfl),
    optsB_ok (c.fact 110 rfl),
    opcB_ok (c.fact 111 rfl),
    optsB_ok (c.fact 112 rfl),
    opcB_ok (c.fact 113 rfl),
    optsB_ok (c.fact 114 rfl),
    coB_ok (c.fact 115 rfl),
    meth_ok (c.fact 116 rfl),
    meth_ok (c.fact 117 rfl),
    meth_ok (c.fact 118 rfl),
    meth_ok (c.fact 119 rfl)⟩
theorem end_of {w : World} {K : PySem.W.Frag} {h : Heap} {mg : Str → Option Value} {fa : Addr} (KX : K.In h) (G : h.Ns mainGlobals mg) (hmg : mg "law" = some (.ref fa)) (c : Says fz tf ex h K) : LawAtG PySem.Challenge.rw_allzooms_k09_whole_roundings_rise_and_co w K (L2.CX PySem.Challenge.rw_allzooms_k09_whole_roundings_rise_and_co.prog w) 11 63 "_law_script" mg fa h := by
  have M := mt_of KX G c
  have Z := zf_of (w := w) KX G c
  have e := hmg.symm.trans M.g_law
  cases e
  obtain ⟨fd0, F0⟩ := c.def_ 0 (d := d__law_pen) rfl rfl
  obtain ⟨fd1, F1⟩ := c.def_ 1 (d := d__law_draw) rfl rfl
  obtain ⟨fd2, F2⟩ := c.def_ 2 (d := d__law_pick) rfl rfl
  obtain ⟨fd3, F3⟩ := c.def_ 3 (d := d__law_frac) rfl rfl
  obtain ⟨fd4, F4⟩ := c.def_ 4 (d := d__law_number) rfl rfl
  obtain ⟨fd5, F5⟩ := c.def_ 5 (d := d__law_kind) rfl rfl
  obtain ⟨fd6, F6⟩ := c.def_ 6 (d := d_is_integer) rfl rfl
  obtain ⟨fd7, F7⟩ := c.def_ 7 (d := d_divisor) rfl rfl
  obtain ⟨fd8, F8⟩ := c.def_ 8 (d := d_Ratio___init__) rfl rfl
  obtain ⟨fd9, F9⟩ := c.def_ 9 (d := d_is_number) rfl rfl
  obtain ⟨fd10, F10⟩ := c.def_ 10 (d := d_Ratio_of) rfl rfl
  obtain ⟨fd11, F11⟩ := c.def_ 11 (d := d_Ratio___lt__) rfl rfl
  obtain ⟨fd12, F12⟩ := c.def_ 12 (d := d_Ratio___ge__) rfl rfl
  obtain ⟨fd13, F13⟩ := c.def_ 13 (d := d_Ratio___gt__) rfl rfl
  obtain ⟨fd14, F14⟩ := c.def_ 14 (d := d_Ratio___le__) rfl rfl
  obtain ⟨fd15, F15⟩ := c.def_ 15 (d := d_is_same) rfl rfl
  obtain ⟨fd16, F16⟩ := c.def_ 16 (d := d_Ratio___eq__) rfl rfl
  obtain ⟨fd17, F17⟩ := c.def_ 17 (d := d_Ratio___bool__) rfl rfl
  obtain ⟨fd18, F18⟩ := c.def_ 18 (d := d_Rounding___init__) rfl rfl
  obtain ⟨fd19, F19⟩ := c.def_ 19 (d := d__law_rounding) rfl rfl
  obtain ⟨fd20, F20⟩ := c.def_ 20 (d := d_Ratio___add__) rfl rfl
  obtain ⟨fd21, F21⟩ := c.def_ 21 (d := d_need_number) rfl rfl
  obtain ⟨fd22, F22⟩ := c.def_ 22 (d := d_Rounding_stepped) rfl rfl
  obtain ⟨fd23, F23⟩ := c.def_ 23 (d := d_Rounding___call__) rfl rfl
  obtain ⟨fd24, F24⟩ := c.def_ 24 (d := d_Ratio___neg__) rfl rfl
  obtain ⟨fd25, F25⟩ := c.def_ 25 (d := d_Ratio___sub__) rfl rfl
  obtain ⟨fd26, F26⟩ := c.def_ 26 (d := d_Ratio_divided) rfl rfl
  obtain ⟨fd27, F27⟩ := c.def_ 27 (d := d_Ratio_floor) rfl rfl
  obtain ⟨fd28, F28⟩ := c.def_ 28 (d := d_Ratio___floordiv__) rfl rfl
  obtain ⟨fd29, F29⟩ := c.def_ 29 (d := d_Ratio___mul__) rfl rfl
  obtain ⟨fd30, F30⟩ := c.def_ 30 (d := d_Ratio___mod__) rfl rfl
  obtain ⟨fd31, F31⟩ := c.def_ 31 (d := d_Rounding_is_step) rfl rfl
  obtain ⟨fd32, F32⟩ := c.def_ 32 (d := d_Rounding_behind) rfl rfl
  obtain ⟨fd33, F33⟩ := c.def_ 33 (d := d_Rounding_before) rfl rfl
  obtain ⟨fd34, F34⟩ := c.def_ 34 (d := d_Rounding_places) rfl rfl
  obtain ⟨fd35, F35⟩ := c.def_ 35 (d := d__law_right) rfl rfl
  obtain ⟨fd36, F36⟩ := c.def_ 36 (d := d_law) rfl rfl
  refine law_end (xs := []) (fd := fd36) (fM := c_law K) KX (fun p hp => by
    cases hp)
    (fun p hp => by
    cases hp)
    (fun p hp => by
    cases hp)
    (fun s u => FunD.bindsA (ps := ["_law_script"]) F36 (fun _ _ _ _ _ _ us hl => match us, hl with | [_], _ => rfl) s [u] rfl) (fun ns μ h1 h2 => law_true ns μ h1 h2) (fun base KB GB TB => ?_)
  have D__law_pen := ok__law_pen (P := PySem.Challenge.rw_allzooms_k09_whole_roundings_rise_and_co.prog) (w := w) (base := base) M Z   F0
  have D__law_draw := ok__law_draw (P := PySem.Challenge.rw_allzooms_k09_whole_roundings_rise_and_co.prog) (w := w) (base := base) M Z   F1
  have D__law_pick := ok__law_pick (P := PySem.Challenge.rw_allzooms_k09_whole_roundings_rise_and_co.prog) (w := w) (base := base) M Z D__law_draw  F2
  have D__law_frac := ok__law_frac (P := PySem.Challenge.rw_allzooms_k09_whole_roundings_rise_and_co.prog) (w := w) (base := base) M Z   F3
  have D__law_number := ok__law_number (P := PySem.Challenge.rw_allzooms_k09_whole_roundings_rise_and_co.prog) (w := w) (base := base) M Z D__law_draw D__law_frac D__law_pick  F4
  have D__law_kind := ok__law_kind (P := PySem.Challenge.rw_allzooms_k09_whole_roundings_rise_and_co.prog) (w := w) (base := base) M Z D__law_pick  F5
  have D_is_integer := ok_is_integer (P := PySem.Challenge.rw_allzooms_k09_whole_roundings_rise_and_co.prog) (w := w) (base := base) M Z   F6
  have D_divisor := ok_divisor (P := PySem.Challenge.rw_allzooms_k09_whole_roundings_rise_and_co.prog) (w := w) (base := base) M Z   F7
  have D_Ratio___init__ := ok_Ratio___init__ (P := PySem.Challenge.rw_allzooms_k09_whole_roundings_rise_and_co.prog) (w := w) (base := base) M Z D_divisor D_is_integer  F8
  have D_is_number := ok_is_number (P := PySem.Challenge.rw_allzooms_k09_whole_roundings_rise_and_co.prog) (w := w) (base := base) M Z D_is_integer  F9
  have D_Ratio_of := ok_Ratio_of (P := PySem.Challenge.rw_allzooms_k09_whole_roundings_rise_and_co.prog) (w := w) (base := base) M Z D_Ratio___init__ D_is_number  F10
  have D_Ratio___lt__ := ok_Ratio___lt__ (P := PySem.Challenge.rw_allzooms_k09_whole_roundings_rise_and_co.prog) (w := w) (base := base) M Z D_Ratio_of  F11
  have D_Ratio___ge__ := ok_Ratio___ge__ (P := PySem.Challenge.rw_allzooms_k09_whole_roundings_rise_and_co.prog) (w := w) (base := base) M Z D_Ratio___lt__  F12
  have D_Ratio___gt__ := ok_Ratio___gt__ (P := PySem.Challenge.rw_allzooms_k09_whole_roundings_rise_and_co.prog) (w := w) (base := base) M Z D_Ratio_of  F13
  have D_Ratio___le__ := ok_Ratio___le__ (P := PySem.Challenge.rw_allzooms_k09_whole_roundings_rise_and_co.prog) (w := w) (base := base) M Z D_Ratio___gt__  F14
  have D_is_same := ok_is_same (P := PySem.Challenge.rw_allzooms_k09_whole_roundings_rise_and_co.prog) (w := w) (base := base) M Z   F15
  have D_Ratio___eq__ := ok_Ratio___eq__ (P := PySem.Challenge.rw_allzooms_k09_whole_roundings_rise_and_co.prog) (w := w) (base := base) M Z D_Ratio_of D_is_number D_is_same  F16
  have D_Ratio___bool__ := ok_Ratio___bool__ (P := PySem.Challenge.rw_allzooms_k09_whole_roundings_rise_and_co.prog) (w := w) (base := base) M Z   F17
  have D_Rounding___init__ := ok_Rounding___init__ (P := PySem.Challenge.rw_allzooms_k09_whole_roundings_rise_and_co.prog) (w := w) (base := base) M Z D_Ratio___bool__ D_Ratio___eq__ D_Ratio___ge__ D_Ratio___le__ D_Ratio_of D_is_number  F18
  have D__law_rounding := ok__law_rounding (P := PySem.Challenge.rw_allzooms_k09_whole_roundings_rise_and_co.prog) (w := w) (base := base) M Z D_Ratio___init__ D_Rounding___init__  F19
  have D_Ratio___add__ := ok_Ratio___add__ (P := PySem.Challenge.rw_allzooms_k09_whole_roundings_rise_and_co.prog) (w := w) (base := base) M Z D_Ratio___init__ D_Ratio_of  F20
  have D_need_number := ok_need_number (P := PySem.Challenge.rw_allzooms_k09_whole_roundings_rise_and_co.prog) (w := w) (base := base) M Z D_Ratio_of D_is_number  F21
  have D_Rounding_stepped := ok_Rounding_stepped (P := PySem.Challenge.rw_allzooms_k09_whole_roundings_rise_and_co.prog) (w := w) (base := base) M Z   F22
  have D_Rounding___call__ := ok_Rounding___call__ (P := PySem.Challenge.rw_allzooms_k09_whole_roundings_rise_and_co.prog) (w := w) (base := base) M Z D_Rounding_stepped D_need_number  F23
  have DK_Rounding___call___0 := okK_Rounding___call___0 (P := PySem.Challenge.rw_allzooms_k09_whole_roundings_rise_and_co.prog) (w := w) (base := base) M Z D_Rounding_stepped D_need_number F23
  have D_Ratio___neg__ := ok_Ratio___neg__ (P := PySem.Challenge.rw_allzooms_k09_whole_roundings_rise_and_co.prog) (w := w) (base := base) M Z D_Ratio___init__  F24
  have D_Ratio___sub__ := ok_Ratio___sub__ (P := PySem.Challenge.rw_allzooms_k09_whole_roundings_rise_and_co.prog) (w := w) (base := base) M Z D_Ratio___add__ D_Ratio___neg__ D_Ratio_of  F25
  have D_Ratio_divided := ok_Ratio_divided (P := PySem.Challenge.rw_allzooms_k09_whole_roundings_rise_and_co.prog) (w := w) (base := base) M Z D_Ratio___init__ D_Ratio_of  F26
  have D_Ratio_floor := ok_Ratio_floor (P := PySem.Challenge.rw_allzooms_k09_whole_roundings_rise_and_co.prog) (w := w) (base := base) M Z   F27
  have D_Ratio___floordiv__ := ok_Ratio___floordiv__ (P := PySem.Challenge.rw_allzooms_k09_whole_roundings_rise_and_co.prog) (w := w) (base := base) M Z D_Ratio_divided D_Ratio_floor  F28
  have D_Ratio___mul__ := ok_Ratio___mul__ (P := PySem.Challenge.rw_allzooms_k09_whole_roundings_rise_and_co.prog) (w := w) (base := base) M Z D_Ratio___init__ D_Ratio_of  F29
  have D_Ratio___mod__ := ok_Ratio___mod__ (P := PySem.Challenge.rw_allzooms_k09_whole_roundings_rise_and_co.prog) (w := w) (base := base) M Z D_Ratio___floordiv__ D_Ratio___mul__ D_Ratio___sub__ D_Ratio_of  F30
  have D_Rounding_is_step := ok_Rounding_is_step (P := PySem.Challenge.rw_allzooms_k09_whole_roundings_rise_and_co.prog) (w := w) (base := base) M Z D_Ratio___eq__ D_Ratio___mod__ D_Ratio___sub__ D_need_number  F31
  have D_Rounding_behind := ok_Rounding_behind (P := PySem.Challenge.rw_allzooms_k09_whole_roundings_rise_and_co.prog) (w := w) (base := base) M Z DK_Rounding___call___0 D_Rounding_is_step  F32
  have D_Rounding_before := ok_Rounding_before (P := PySem.Challenge.rw_allzooms_k09_whole_roundings_rise_and_co.prog) (w := w) (base := base) M Z DK_Rounding___call___0 D_Rounding_is_step  F33
  have D_Rounding_places := ok_Rounding_places (P := PySem.Challenge.rw_allzooms_k09_whole_roundings_rise_and_co.prog) (w := w) (base := base) M Z D_Ratio___add__ D_Ratio___sub__ D_is_integer  F34
  have D__law_right := ok__law_right (P := PySem.Challenge.rw_allzooms_k09_whole_roundings_rise_and_co.prog) (w := w) (base := base) M Z DK_Rounding___call___0 D_Ratio___add__ D_Ratio___eq__ D_Ratio___init__ D_Ratio___le__ D_Ratio___lt__ D_Ratio___mul__ D_Rounding_before D_Rounding_behind D_Rounding_is_step D_Rounding_places D__law_draw D__law_kind D__law_number D__law_pick D__law_rounding  F35
  exact ok_law (P := PySem.Challenge.rw_allzooms_k09_whole_roundings_rise_and_co.prog) (w := w) (base := base) M Z D__law_pen D__law_right  F36
end Mz
open PySem PySem.W PySem.Calls PyProof.Rows
theorem PySem.Challenge.cw_allzooms_k09_whole_roundings_rise_and_co_holds : PySem.Challenge.rw_allzooms_k09_whole_roundings_rise_and_co.Holds := by
  w_on; o_law
  refine HandSHeadRun.head_any (r := OpenLaw.row PySem.Challenge.rw_allzooms_k09_whole_roundings_rise_and_co) (q := view (OpenLaw.row PySem.Challenge.rw_allzooms_k09_whole_roundings_rise_and_co).prog [38]) (H := Mz.hk) (ob := Mz.ob) (M := 6000) (loose := Mz.names) (d := HandSHeadRun.topDef (OpenLaw.row PySem.Challenge.rw_allzooms_k09_whole_roundings_rise_and_co).prog 38) (kwd := []) Mz.ob_eq
    (by kernel_rfl) (fun s => by kernel_rfl) Mz.run (by kernel_rfl) (by kernel_rfl) (by kernel_rfl) (by rfl) (by first | assumption | decide +kernel) (by decide +kernel) ⟨rfl, rfl, rfl, rfl, rfl, by decide +kernel⟩ ?az_w ?az_c
  case az_w => w_witness2
  case az_c =>
    refine Az.walk_ofGE (l := PySem.Challenge.rw_allzooms_k09_whole_roundings_rise_and_co) (n := 63) (k := 11) (x := "_law_script") (CX := fun w => L2.CX PySem.Challenge.rw_allzooms_k09_whole_roundings_rise_and_co.prog w) rfl (by decide) (by kernel_rfl) ⟨rfl, by decide, by decide⟩ ?az_F (fun _ _ _ _ _ z => Mz.noCX z)
    intro w mg fa h Y G hmg0
    obtain ⟨K, KX, c⟩ := Y
    have hmg : mg ("law" : PySem.Str) = some (.ref fa) := by
      have e : (HandSHeadRun.topDef (OpenLaw.row PySem.Challenge.rw_allzooms_k09_whole_roundings_rise_and_co).prog 38).name = ("law" : PySem.Str) := by kernel_rfl
      rw [← e]
      exact hmg0
    exact ⟨K, KX, Mz.end_of KX G hmg c⟩
#print axioms PySem.Challenge.cw_allzooms_k09_whole_roundings_rise_and_co_holds
