import PyProof.Rows.All
import Wide.All
import OpenK.AllK
import Wide.FinOn
import HandS.ForMost
import HandS.ForExc
import HandS.Codes
import KE.KOpsOwn
import HandS.ClsMeth
import HandS.EndTab
import KE.KExcLine
import KE.KExcPX
import HandS.ExcIs
import HandS.ExcValue
import HandS.IsInst
import HandS.ExcField
import HandS.MakeKwOnly
import HandS.Exc
import PyProof.ReprRoads
import PyProof.CallFns
import KE.KCallOwn
import HandS.Small
import HandS.FStr
import HandS.Head2
import HandS.HeadHook4
import HandS.HeadEnd
import HandS.Defaults
import HandS.Property
import HandS.WordsExc
import HandS.Wide
import PyProof.Rows.RegStrFacts
import HandS.Lambda
import HandS.Style
import HandS.Flow
import PySem.Challenge.RW_allzooms_k04_ratios_in_order
set_option Elab.async false
set_option linter.all false
set_option maxRecDepth 100000
set_option maxHeartbeats 4000000
/-! Readings step by step: one lemma for each word of the hand layer. -/
namespace Az
open PySem L2
section
variable {σ : L2.St} {H H1 : Hp} {Q : VK} {v x y : V} {i j : Int} {a p : Addr} {K : PySem.W.Frag}
theorem i_var {n : Nat} (h : σ[n]? = some (some v)) (k : Q v H) : tVar n σ H Q := ⟨v, h, k⟩
theorem i_c (k : Q v H) : tC v σ H Q := k
theorem i_op {r : R2} {ta tb : TE} (k : ta σ H fun x H1 => tb σ H1 fun y H2 => r x y H2 Q) : tOp r ta tb σ H Q := k
theorem i_un {r : V → Hp → VK → Prop} {ta : TE} (k : ta σ H fun x H1 => r x H1 Q) : tUn r ta σ H Q := k
theorem i_I0 {g : Int → Int → V} (k : Q (g i j) H) : rI0 g (.int i) (.int j) H Q := ⟨i, j, rfl, rfl, k⟩
theorem i_I {C : Int → Int → Prop} {g : Int → Int → V} (c : C i j) (k : Q (g i j) H) : rI C g (.int i) (.int j) H Q := ⟨i, j, rfl, rfl, c, k⟩
theorem i_U {g : Int → V} (k : Q (g i) H) : rU g (.int i) H Q := ⟨i, rfl, k⟩
theorem i_test {t : TE} {R : Bool → Hp → Prop} (k : t σ H fun x H' => ∃ k, x = .bl k ∧ R k H') : tTest t σ H R := k
theorem i_tB {t : TE} {R : Bool → Hp → Prop} (k : t σ H fun x H' => ∃ k, x = .bl k ∧ R k H') : tB t σ H R := k
theorem i_bl {b : Bool} {R : Bool → Prop} (k : R b) : ∃ c, V.bl b = .bl c ∧ R c := ⟨b, rfl, k⟩
theorem i_int1 {R : Int → Prop} (k : R i) : ∃ c, V.int i = .int c ∧ R c := ⟨i, rfl, k⟩
theorem i_seq {t u : TS} {D : Ends} (k : t { D with nx := u D } σ H) : tSeq t u D σ H := k
theorem i_asg {te : TE} {g : TG} {D : Ends} (k : te σ H fun x H1 => g x σ H1 D.nx) : tAsg te g D σ H := k
theorem i_name {n : Nat} {R : L2.St → Hp → Prop} (k : R (σ.set n (some v)) H) : gName n v σ H R := k
theorem i_ret {te : TE} {D : Ends} (k : te σ H D.rt) : tRet te D σ H := k
theorem i_drop {te : TE} {D : Ends} (k : te σ H fun _ H1 => D.nx σ H1) : tDrop te D σ H := k
theorem i_next {D : Ends} (k : D.nx σ H) : tNext D σ H := k
theorem i_ifS {c : TT} {t u : TS} {D : Ends} (k : c σ H fun b H1 => if b = true then t D σ H1 else u D σ H1) : tIfS c t u D σ H := k
theorem i_if {c : TT} {ta tb : TE} (k : c σ H fun b H1 => if b = true then ta σ H1 Q else tb σ H1 Q) : tIf c ta tb σ H Q := k
theorem i_and {t u : TT} {R : Bool → Hp → Prop} (k : t σ H fun c H1 => if c = true then u σ H1 R else R false H1) : tAnd t u σ H R := k
theorem i_or {t u : TT} {R : Bool → Hp → Prop} (k : t σ H fun c H1 => if c = true then R true H1 else u σ H1 R) : tOr t u σ H R := k
theorem i_not {t : TT} {R : Bool → Hp → Prop} (k : t σ H fun c H1 => R (!c) H1) : tNot t σ H R := k
theorem i_andV {ta tb : TE} (k : ta σ H fun x H1 => ∃ c, x = .bl c ∧ if c = true then tb σ H1 Q else Q (.bl false) H1) : tAndV ta tb σ H Q := k
theorem i_orV {ta tb : TE} (k : ta σ H fun x H1 => ∃ c, x = .bl c ∧ if c = true then Q (.bl true) H1 else tb σ H1 Q) : tOrV ta tb σ H Q := k
theorem i_notV {ta : TE} (k : ta σ H fun x H1 => ∃ c, x = .bl c ∧ Q (.bl (!c)) H1) : tNotV ta σ H Q := k
theorem i_nil {R : List V → Hp → Prop} (k : R [] H) : tNil σ H R := k
theorem i_cons {ta : TE} {tr : TA} {R : List V → Hp → Prop} (k : ta σ H fun x H1 => tr σ H1 fun xs H2 => R (x :: xs) H2) : tCons ta tr σ H R := k
theorem i_tup {t : TA} (k : t σ H fun xs H1 => xs.length ≤ sizeLine ∧ ∀ p, H1 p = none → Q (.ref p) (upd H1 p (.tup xs))) : tTup t σ H Q := k
theorem i_lst {t : TA} (k : t σ H fun xs H1 => xs.length ≤ sizeLine ∧ ∀ p, H1 p = none → Q (.ref p) (upd H1 p (.lst xs))) : tLst t σ H Q := k
theorem i_CB {r : List V → Hp → VK → Prop} {t : TA} (k : t σ H fun vs H1 => r vs H1 Q) : tCB r t σ H Q := k
theorem i_call {sp : Sp} {E : XK} {t : TA} (k : t σ H fun vs H1 => sp vs H1 Q E) : tCall sp [] E t σ H Q := by
  unfold tCall
  simpa only [List.append_nil] using k
theorem i_fld {C dx : Addr} {fs : List (Str × V)} {f : Str} (h : H a = some (.ins C dx fs)) (c : Cls K C) (n : NoAttr K C f) (l : fs.lookup f = some v) (k : Q v H) : (∃ a' C dx fs v, V.ref a = .ref a' ∧ H a' = some (.ins C dx fs) ∧ Cls K C ∧ NoAttr K C f ∧ fs.lookup f = some v ∧ Q v H) := ⟨a, C, dx, fs, v, rfl, h, c, n, l, k⟩
theorem i_tFld {ta : TE} {f : Str} (k : ta σ H fun x H1 => ∃ a C dx fs v, x = .ref a ∧ H1 a = some (.ins C dx fs) ∧ Cls K C ∧ NoAttr K C f ∧ fs.lookup f = some v ∧ Q v H1) : tFld K ta f σ H Q := k
theorem i_ixL {xs : List V} (h : H p = some (.lst xs)) (hv : atI xs i = some v) (k : Q v H) : rIxL K (.ref p) (.int i) H Q := ⟨p, xs, i, v, rfl, rfl, SqL.of h, hv, k⟩
theorem i_ixT {xs : List V} (h : H p = some (.tup xs)) (hv : atI xs i = some v) (k : Q v H) : rIxT K (.ref p) (.int i) H Q := ⟨p, xs, i, v, rfl, rfl, SqT.of h, hv, k⟩
theorem i_setL {xs : List V} {n : Nat} {R : Hp → Prop} (h : H p = some (.lst xs)) (hn : ixN xs.length i = some n) (k : R (upd H p (.lst (xs.set n v)))) : rSetL (.ref p) (.int i) v H R := ⟨p, xs, i, n, rfl, rfl, h, hn, k⟩
theorem i_set31 {x0 x1 x2 : V} {R : Hp → Prop} (h : H p = some (.lst [x0, x1, x2])) (k : R (upd H p (.lst [x0, v, x2]))) : rSetL (.ref p) (.int 1) v H R := ⟨p, _, 1, 1, rfl, rfl, h, rfl, k⟩
theorem i_set32 {x0 x1 x2 : V} {R : Hp → Prop} (h : H p = some (.lst [x0, x1, x2])) (k : R (upd H p (.lst [x0, x1, v]))) : rSetL (.ref p) (.int 2) v H R := ⟨p, _, 2, 2, rfl, rfl, h, rfl, k⟩
theorem i_sub {to ti : TE} {t : TSet} {R : L2.St → Hp → Prop} (k : to σ H fun o H1 => ti σ H1 fun i H2 => t o i v H2 fun H3 => R σ H3) : gSub to ti t v σ H R := k
theorem i_sl {r : V → Option Int → Option Int → Hp → VK → Prop} {te : TE} {tl th : TO} (k : te σ H fun x H1 => tl σ H1 fun l H2 => th σ H2 fun u H3 => r x l u H3 Q) : tSl r te tl th σ H Q := k
theorem i_noPart {R : Option Int → Hp → Prop} (k : R none H) : tNoPart σ H R := k
theorem i_part {t : TE} {R : Option Int → Hp → Prop} (k : t σ H fun x H1 => ∃ i, x = .int i ∧ R (some i) H1) : tPart t σ H R := k
theorem i_dec {q : Prop} [Decidable q] {A B : Prop} (h1 : q → A) (h2 : ¬ q → B) : if decide q = true then A else B := by
  by_cases h : q
  · rw [if_pos (decide_eq_true h)]; exact h1 h
  · rw [if_neg (by rw [decide_eq_false h]; exact Bool.false_ne_true)]; exact h2 h
theorem i_ndec {q : Prop} [Decidable q] {A B : Prop} (h1 : ¬ q → A) (h2 : q → B) : if (!decide q) = true then A else B := by
  by_cases h : q
  · rw [if_neg (by rw [decide_eq_true h]; exact Bool.false_ne_true)]; exact h2 h
  · rw [if_pos (by rw [decide_eq_false h]; rfl)]; exact h1 h
theorem i_b2 {b : Bool} {A B : Prop} (h1 : b = true → A) (h2 : b = false → B) : if b = true then A else B := by
  cases b
  · rw [if_neg Bool.false_ne_true]; exact h2 rfl
  · rw [if_pos rfl]; exact h1 rfl
def rInt : List V → Hp → VK → Prop := fun xs H Q => (∃ i, xs = [.int i] ∧ Q (.int i) H) ∨ ∃ k, xs = [.bl k] ∧ Q (.int (if k then 1 else 0)) H
theorem c_int {X : Cx} : CallR X (.type "int") rInt := call_int1
def rAbs : List V → Hp → VK → Prop := fun xs H Q => ∃ i, xs = [.int i] ∧ Q (.int (if i < 0 then -i else i)) H
theorem c_abs {X : Cx} : CallR X (.builtin "abs") rAbs := call_abs
def rLenS (K : PySem.W.Frag) : List V → Hp → VK → Prop := fun xs H Q => ∃ p ys, xs = [.ref p] ∧ (SqL K H p ys ∨ SqT K H p ys) ∧ Q (.int ys.length) H
theorem c_len {X : Cx} : CallR X (.builtin "len") (rLenS X.K) := call_len_seq
def rListOf (K : PySem.W.Frag) : List V → Hp → VK → Prop := fun xs H Q => ∃ p ys, xs = [.ref p] ∧ (SqL K H p ys ∨ SqT K H p ys) ∧ ∀ l, H l = none → Q (.ref l) (upd H l (.lst ys))
theorem c_list {X : Cx} : CallR X (.type "list") (rListOf X.K) := call_list_of
theorem i_int (k : Q (.int i) H) : rInt [.int i] H Q := .inl ⟨i, rfl, k⟩
theorem i_intB {b : Bool} (k : Q (.int (if b then 1 else 0)) H) : rInt [.bl b] H Q := .inr ⟨b, rfl, k⟩
theorem i_abs (k : Q (.int (if i < 0 then -i else i)) H) : rAbs [.int i] H Q := ⟨i, rfl, k⟩
theorem i_len {xs : List V} (h : H p = some (.lst xs)) (k : Q (.int xs.length) H) : rLenS K [.ref p] H Q := ⟨p, xs, rfl, .inl (SqL.of h), k⟩
theorem i_lenT {xs : List V} (h : H p = some (.tup xs)) (k : Q (.int xs.length) H) : rLenS K [.ref p] H Q := ⟨p, xs, rfl, .inr (SqT.of h), k⟩
theorem i_neL0 {xs : List Int} {b : Addr} (h : H p = some (.lst (xs.map V.int))) (h2 : H b = some (.lst [])) (k : Q (.bl (!xs.isEmpty)) H) : rNeD K (.ref p) (.ref b) H Q := by
  have da : ∀ l : List Int, DpAll K H (l.map V.int) (l.map PyData.int) := fun l => by
    induction l with
    | nil => exact .nil
    | cons x r ih => exact .cons (.int x) ih
  refine ⟨.list (xs.map PyData.int), .list [], .lst (SqL.of h) (da xs), .lst (SqL.of h2) .nil, ?_, rfl, ?_⟩
  · have c0 : ∀ l : List Int, PyData.canLayAll0 (l.map PyData.int) = true := fun l => by
      induction l with
      | nil => simp [PyData.canLayAll0]
      | cons x r ih => simp [PyData.canLayAll0, PyData.canLay0, ih]
    have d0 : ∀ l : List Int, PyData.depthAll (l.map PyData.int) = 0 := fun l => by
      induction l with
      | nil => simp [PyData.depthAll]
      | cons x r ih => simp [PyData.depthAll, PyData.depth, ih]
    simp [SeqAt.shaped, PyData.canLay0, PyData.depth, c0, d0]
  · cases xs with
    | nil => exact k
    | cons x r => exact k
theorem i_cat {l b : Addr} {xs zs : List V} (h1 : H l = some (.lst xs)) (h2 : H b = some (.lst zs)) (hz : xs.length + zs.length ≤ sizeLine) (k : ∀ p, H p = none → Q (.ref p) (upd H p (.lst (xs ++ zs)))) : rCat (.ref l) (.ref b) H Q := ⟨l, b, xs, zs, rfl, rfl, h1, h2, hz, k⟩
theorem i_fresh {n : Nat} {R : Addr → Prop} (hn : n ≤ sizeLine) (k : ∀ p, H p = none → R p) : n ≤ sizeLine ∧ ∀ p, H p = none → R p := ⟨hn, k⟩
theorem size_ok {n : Nat} (h : Nat.ble n 16777216 = true) : n ≤ sizeLine := by rw [sizeLine_eq]; exact Nat.le_of_ble_eq_true h
theorem i_eq {x y : V} (s : scal x y = true) (k : Q (.bl (decide (x = y))) H) : rEq x y H Q := ⟨s, k⟩
theorem i_ne {x y : V} (s : scal x y = true) (k : Q (.bl (!decide (x = y))) H) : rNe x y H Q := ⟨s, k⟩
end
theorem mul_bd {a b : Int} (A B : Int) (ha : 0 ≤ a) (hb : 0 ≤ b) (hA : a ≤ A) (hB : b ≤ B) : 0 ≤ a * b ∧ a * b ≤ A * B :=
  ⟨Int.mul_nonneg ha hb, Int.mul_le_mul hA hB hb (Int.le_trans ha hA)⟩
theorem mix_lt {m s c5 c6 c7 : Int} (hm0 : 0 ≤ m) (hm1 : m < 2147483648) (hs0 : 0 ≤ s) (hs1 : s ≤ 100000) (h5 : 0 ≤ c5 ∧ c5 ≤ 100000) (h6 : 0 ≤ c6 ∧ c6 ≤ 1000000) (h7 : 0 ≤ c7 ∧ c7 ≤ 1000000) :
    (m * (2 * s + c5) + c6 * s * s + c7).natAbs < 2 ^ 64 := by
  have a := mul_bd (a := m) (b := 2 * s + c5) 2147483648 300000 hm0 (by omega) (by omega) (by omega)
  have b := mul_bd (a := c6) (b := s) 1000000 100000 h6.1 hs0 h6.2 hs1
  have c := mul_bd (a := c6 * s) (b := s) (1000000 * 100000) 100000 b.1 hs0 b.2 hs1
  have e : (2 : Int) ^ 64 = 18446744073709551616 := by decide
  omega
theorem get_new {H : Hp} {a p : Addr} {o o' : HO} (hp : H p = none) (h : H a = some o) : upd H p o' a = some o := by rw [upd_ne (ne_of_none h hp)]; exact h
theorem get_put {H : Hp} {a p : Addr} {o o' : HO} (n : a ≠ p) (h : H a = some o) : upd H p o' a = some o := by rw [upd_ne n]; exact h
theorem ne_upd_none {H : Hp} {a p : Addr} {o : HO} (h : upd H p o a = none) : H a = none := by
  by_cases e : a = p
  · subst e; rw [upd_same] at h; cases h
  · rw [upd_ne e] at h; exact h
/-- all that stood stands, but what is at a -/
def Ext (a : Addr) (H H' : Hp) : Prop := ∀ b o, H b = some o → b ≠ a → H' b = some o
theorem Ext.refl (a : Addr) (H : Hp) : Ext a H H := fun _ _ h _ => h
theorem Ext.trans {a : Addr} {H H1 H2 : Hp} (x : Ext a H H1) (y : Ext a H1 H2) : Ext a H H2 := fun b o h n => y b o (x b o h n) n
theorem Ext.new {a p : Addr} {o : HO} {H : Hp} (h : H p = none) : Ext a H (upd H p o) := fun b o' e _ => by rw [upd_ne (ne_of_none e h)]; exact e
theorem Ext.put {a : Addr} {o : HO} {H : Hp} : Ext a H (upd H a o) := fun b o' e n => by rw [upd_ne n]; exact e
theorem Ext.andNew {a p : Addr} {o : HO} {H H1 : Hp} (x : Ext a H H1) (h : H1 p = none) : Ext a H (upd H1 p o) := x.trans (.new h)
theorem Ext.andPut {a : Addr} {o : HO} {H H1 : Hp} (x : Ext a H H1) : Ext a H (upd H1 a o) := x.trans .put
theorem Ext.of_same {a : Addr} {H H1 : Hp} (x : Same H H1) : Ext a H H1 := fun b o e _ => x b o e
theorem same_new {H H1 : Hp} {p : Addr} {o : HO} (s : Same H H1) (h : H1 p = none) : Same H (upd H1 p o) := fun b o' e => get_new h (s b o' e)
theorem same_new2 {H H1 : Hp} {p d : Addr} {o o' : HO} (s : Same H H1) (h : H1 p = none) (h2 : H1 d = none) (n : d ≠ p) : Same H (upd (upd H1 d o) p o') := same_new (same_new s h2) (by rw [upd_ne (Ne.symm n)]; exact h)
end Az

/-! Operators by own methods: a + b, b + a, -a, a += b. -/
namespace AzX
open PySem PySem.W PySem.Calls PyProof.Rows
def Back (Q : Value → Shared → Prop) (v : Value) (s : Shared) : Prop := v ≠ .notImplemented ∧ Q v s
section
variable {prog : Program} {w : World} {A : Around} {E : Value → Shared → Prop} {s : Shared} {K : Frag} {x C f : Addr} {ox : Obj} {od : Option Obj} {nm T : String} {b : Value} {Q : Value → Shared → Prop}
theorem try_own {M : Model} {name : Str} (X : K.In s.heap) (I : InstAt s.heap x ox C od) (hs : findIn K (.ref C) name = some (some (.ref f))) (hf : isFn K (.ref f) = true)
    (h : wpAny M A (call (.ref f) [.ref x, b]) (Back Q) E s) : wpAny M A (tryMethod (.ref x) name b) (fun r s' => ∃ v, r = some v ∧ Q v s') E s := by
  unfold tryMethod
  refine wpAny_bind (special_fn X I hs (beq_iff_eq.mp hf) (wpAny_mono h (fun v s' hv => ?_) fun _ _ e => e))
  cases v <;> first | exact (hv.1 rfl).elim | exact wpAny_pure ⟨_, rfl, hv.2⟩
/-- a + b, both of the class -/
theorem bin1_same (X : K.In s.heap) (I : InstAt s.heap x ox C od) (hb : Looks (model prog w) s.heap (typeOf b) (.ref C)) (hc : selfFirst K C = true)
    (hs : findIn K (.ref C) (PySem.dunder nm) = some (some (.ref f))) (hf : isFn K (.ref f) = true)
    (h : wpAny (model prog w) A (call (.ref f) [.ref x, b]) (Back Q) E s) : wpAny (model prog w) A (binaryOp1 nm (.ref x) b) (fun r s' => ∃ v, r = some v ∧ Q v s') E s := by
  obtain ⟨cd, rest, hcd, hm⟩ := ksp_first hc
  have one := try_own X I hs hf h
  unfold binaryOp1
  refine wpAny_bind (I.type.here (wpAny_bind (hb.here (wpAny_bind ((fills_K X hcd hm hs).here ?_)))))
  simp only [beq_self_eq_true, if_true]
  refine wpAny_bind (wpAny_pure ?_)
  simp only [Bool.and_false, Bool.false_eq_true, if_false, Bool.false_and]
  refine wpAny_bind (wpAny_pure ?_)
  simp only [Bool.false_eq_true, if_false]
  refine wpAny_bind (wpAny_mono one (fun r s' hr' => ?_) fun _ _ e => e)
  obtain ⟨v, rfl, hq⟩ := hr'
  exact wpAny_pure ⟨v, rfl, hq⟩
/-- a + b, b of a built-in type -/
theorem bin1_type {fo ro rc : Option Value} (X : K.In s.heap) (I : InstAt s.heap x ox C od) (L2 : Looks (model prog w) s.heap (typeOf b) (.type T)) (hc : selfFirst K C = true)
    (hs : findIn K (.ref C) (PySem.dunder nm) = some (some (.ref f))) (hf : isFn K (.ref f) = true) (hr : findIn K (.ref C) (dunderR nm) = some rc) (hp : rc = none ∨ ∃ g : Addr, rc = some (.ref g))
    (h1 : findIn K (.type T) (PySem.dunder nm) = some fo) (h2 : findIn K (.type T) (dunderR nm) = some ro) (hsub : subIn K (.type T) (.ref C) = some false)
    (h : wpAny (model prog w) A (call (.ref f) [.ref x, b]) (Back Q) E s) : wpAny (model prog w) A (binaryOp1 nm (.ref x) b) (fun r s' => ∃ v, r = some v ∧ Q v s') E s := by
  obtain ⟨cd, rest, hcd, hm⟩ := ksp_first hc
  have one := try_own X I hs hf h
  obtain ⟨hh, g, d, tt, os⟩ := s
  have L1 : Looks (model prog w) hh (typeOf (.ref x)) (.ref C) := I.type
  have L3 : Looks (model prog w) hh (fillsNumberSlot (.ref C) nm) true := fills_K X hcd hm hs
  have L4 : Looks (model prog w) hh (fillsNumberSlot (.type T) nm) ((fo.isSome && !isSeqSlot fo) || (ro.isSome && !isSeqSlot ro)) := ksp_fillsT X h1 h2
  have L5 : Looks (model prog w) hh (isSubtype (.type T) (.ref C)) false := looks_subIn X hsub
  have L6 : Looks (model prog w) hh (numberSlotInPython (.ref C) nm) true := ksp_inPy X hs hr hp
  have L7 : Looks (model prog w) hh (numberSlotInPython (.type T) nm) false := Looks.of_pure rfl
  have L8 : Looks (model prog w) hh (typeLookup (.type T) (dunderR nm)) ro := looks_findIn X h2
  generalize ((fo.isSome && !isSeqSlot fo) || (ro.isSome && !isSeqSlot ro)) = right at L4
  have hne : (Value.ref C == Value.type T) = false := Bool.eq_false_iff.mpr fun q => by cases beq_iff_eq.mp q
  unfold binaryOp1
  refine wpAny_bind (L1.at (wpAny_bind (L2.at (wpAny_bind (L3.at ?_)))))
  simp only [hne, Bool.false_eq_true, if_false]
  cases right with
  | false =>
    ksp_lk
    refine wpAny_mono one (fun r s' hr' => ?_) fun _ _ e => e
    obtain ⟨v, rfl, hq⟩ := hr'
    ksp_lk
    exact ⟨v, rfl, hq⟩
  | true =>
    ksp_lk
    refine wpAny_mono one (fun r s' hr' => ?_) fun _ _ e => e
    obtain ⟨v, rfl, hq⟩ := hr'
    ksp_lk
    exact ⟨v, rfl, hq⟩
theorem int_declines {name : String} {f : Int → Int → Sem Fin} {i : Int} {t : Tok} {o : Obj} {R : Fin → Shared → Prop} (hx : s.heap.get? x = some o) (hd : ∀ p, o.data ≠ .prim p) (h : R (.done (.ret .notImplemented)) s) :
    wpAny (model prog w) A (Builtin.Int.intBinary name f false ⟨[.int i t, .ref x], []⟩) R E s := by
  unfold Builtin.Int.intBinary
  refine wpAny_bind (wpAny_of_eq (a := ((Value.int i t : Value), [Value.ref x])) (by first | rfl | (simp only [slotArgs]; rfl)) ?_)
  refine wpAny_bind (wpAny_of_eq (a := i) rfl ?_)
  refine wpAny_bind ?_
  show wpAny _ _ (asInt? (.ref x)) _ _ _
  unfold asInt?
  refine wpAny_bind (wpAny_load hx ?_)
  obtain ⟨oc, od, dt, sl⟩ := o
  cases dt <;> first | exact (hd _ rfl).elim | (exact wpAny_pure (wpAny_bind (wpAny_rule (show wpAny _ _ (ret Value.notImplemented) _ _ _ from wpAny_pure h))))
/-- b + a, b a whole number, a of the class -/
theorem bin1_refl {i : Int} {t : Tok} {id : String} {name : String} {g : Int → Int → Sem Fin} {fm : Addr} (X : K.In s.heap) (I : InstAt s.heap x ox C od) (hd : ∀ p, ox.data ≠ .prim p) (hc : selfFirst K C = true)
    (hfi : fillsNumberSlot (.type "int") nm = pure true) (hsl : Slot "int" (PySem.dunder nm) id) (hen : entryFor table id = some (Builtin.Int.intBinary name g false)) (har : argsOk id ⟨[.int i t, .ref x], []⟩)
    (hm : findIn K (.ref C) (PySem.dunder nm) = some (some (.ref fm))) (hs : findIn K (.ref C) (dunderR nm) = some (some (.ref f))) (hf : isFn K (.ref f) = true) (hsub : subIn K (.ref C) (.type "int") = some false)
    (h : wpAny (model prog w) A (call (.ref f) [.ref x, .int i t]) (Back Q) E s) : wpAny (model prog w) A (binaryOp1 nm (.int i t) (.ref x)) (fun r s' => ∃ v, r = some v ∧ Q v s') E s := by
  obtain ⟨cd, rest, hcd, hmr⟩ := ksp_first hc
  have one := try_own X I hs hf h
  have hx := I.at_
  have two : ∀ {R : Option Value → Shared → Prop}, R none s → wpAny (model prog w) A (tryMethod (.int i t) (PySem.dunder nm) (.ref x)) R E s := fun {R} hR =>
    wpAny_tryMethod_declines (typeIs_int s i t) hsl (wpAny_call_entry hsl (typeIs_int s i t) hen (int_declines hx hd ⟨_, rfl, rfl, hR⟩) har)
  obtain ⟨hh, g', d, tt, os⟩ := s
  have L1 : Looks (model prog w) hh (typeOf (.ref x)) (.ref C) := I.type
  have L2 : Looks (model prog w) hh (typeOf (.int i t)) (.type "int") := Looks.of_pure rfl
  have L3 : Looks (model prog w) hh (fillsNumberSlot (.ref C) nm) true := fills_K X hcd hmr hm
  have L4 : Looks (model prog w) hh (fillsNumberSlot (.type "int") nm) true := Looks.of_pure hfi
  have L5 : Looks (model prog w) hh (isSubtype (.ref C) (.type "int")) false := looks_subIn X hsub
  have L7 : Looks (model prog w) hh (numberSlotInPython (.type "int") nm) false := Looks.of_pure rfl
  have hne : (Value.type "int" == Value.ref C) = false := Bool.eq_false_iff.mpr fun q => by cases beq_iff_eq.mp q
  unfold binaryOp1
  refine wpAny_bind (L2.at (wpAny_bind (L1.at (wpAny_bind (L4.at ?_)))))
  simp only [hne, Bool.false_eq_true, if_false]
  ksp_lk
  refine two ?_
  ksp_lk
  refine wpAny_mono one (fun r s' hr' => ?_) fun _ _ e => e
  obtain ⟨v, rfl, hq⟩ := hr'
  ksp_lk
  exact ⟨v, rfl, hq⟩
theorem cmp1_own {M : Model} {name : Str} (X : K.In s.heap) (I : InstAt s.heap x ox C od) (hs : findIn K (.ref C) name = some (some (.ref f))) (hf : isFn K (.ref f) = true)
    (h : wpAny M A (call (.ref f) [.ref x, b]) (Back Q) E s) : wpAny M A (tryCompare (.ref x) name b) (fun r s' => ∃ v, r = some v ∧ Q v s') E s := by
  unfold tryCompare
  refine wpAny_bind (ifBound_K X I hs hf (wpAny_mono h (fun v s' hv => ?_) fun _ _ e => e))
  cases v <;> first | exact (hv.1 rfl).elim | exact wpAny_pure ⟨_, rfl, hv.2⟩
/-- a < b by a's own method -/
theorem cmp_own {op : CmpOp} {tb : Value} (hu : A.units < cLine) (X : K.In s.heap) (I : InstAt s.heap x ox C od) (hb : Looks (model prog w) s.heap (typeOf b) tb) (hn : notFirst K C tb = true)
    (hs : findIn K (.ref C) (cmpInfo op).2.1 = some (some (.ref f))) (hf : isFn K (.ref f) = true)
    (h : wpAny (model prog w) A (call (.ref f) [.ref x, b]) (Back Q) E s) : wpAny (model prog w) A (richCompare op (.ref x) b) Q E s := by
  have one := cmp1_own X I hs hf h
  unfold richCompare
  simp only [oneThing_ref]
  refine wpAny_holding (wpAny_bind (wpAny_cRoomFor hu ?_))
  refine wpAny_bind (I.type.here (wpAny_bind (hb.here ?_)))
  split
  · rename_i q
    have e : subIn K tb (.ref C) = some false := by
      rcases Bool.or_eq_true_iff.mp hn with e | e
      · rw [beq_iff_eq.mp e] at q; simp at q
      · exact beq_iff_eq.mp e
    refine wpAny_bind ((looks_subIn X e).here ?_)
    simp only [Bool.false_eq_true, if_false]
    refine wpAny_bind (wpAny_mono one (fun r s' z => ?_) fun _ _ e => e)
    obtain ⟨v, rfl, hq⟩ := z
    exact wpAny_pure hq
  · refine wpAny_bind (wpAny_pure ?_)
    simp only [Bool.false_eq_true, if_false]
    refine wpAny_bind (wpAny_mono one (fun r s' z => ?_) fun _ _ e => e)
    obtain ⟨v, rfl, hq⟩ := z
    exact wpAny_pure hq
/-- i < a by a's own method, i a whole number -/
theorem cmp_refl {op : CmpOp} {i : Int} {t : Tok} {id : String} {name : String} {g : Int → Int → Sem Fin} (hu : A.units < cLine) (X : K.In s.heap) (I : InstAt s.heap x ox C od) (hd : ∀ p, ox.data ≠ .prim p)
    (hsl : Slot "int" (cmpInfo op).2.1 id) (hen : entryFor table id = some (Builtin.Int.intBinary name g false)) (har : argsOk id ⟨[.int i t, .ref x], []⟩)
    (hs : findIn K (.ref C) (cmpInfo op).2.2 = some (some (.ref f))) (hf : isFn K (.ref f) = true) (hsub : subIn K (.ref C) (.type "int") = some false)
    (h : wpAny (model prog w) A (call (.ref f) [.ref x, .int i t]) (Back Q) E s) : wpAny (model prog w) A (richCompare op (.int i t) (.ref x)) Q E s := by
  have one := cmp1_own X I hs hf h
  have hx := I.at_
  have two : ∀ {R : Option Value → Shared → Prop}, R none s → wpAny (model prog w) A (tryCompare (.int i t) (cmpInfo op).2.1 (.ref x)) R E s := fun {R} hR =>
    wpAny_tryCompare_declines (typeIs_int s i t) hsl (wpAny_call_entry hsl (typeIs_int s i t) hen (int_declines hx hd ⟨_, rfl, rfl, hR⟩) har)
  have L1 : Looks (model prog w) s.heap (typeOf (.ref x)) (.ref C) := I.type
  have L2 : Looks (model prog w) s.heap (typeOf (.int i t)) (.type "int") := Looks.of_pure rfl
  have hne : (Value.type "int" != Value.ref C) = true := rfl
  have ho : oneThing? op (.int i t) (.ref x) = none := by cases op <;> rfl
  unfold richCompare
  simp only [ho]
  refine wpAny_holding (wpAny_bind (wpAny_cRoomFor hu ?_))
  refine wpAny_bind (L2.here (wpAny_bind (L1.here ?_)))
  simp only [hne, if_true]
  refine wpAny_bind ((looks_subIn X hsub).here ?_)
  simp only [Bool.false_eq_true, if_false]
  refine wpAny_bind (two ?_)
  simp only [Bool.not_false, if_true]
  refine wpAny_bind (wpAny_mono one (fun r s' z => ?_) fun _ _ e => e)
  obtain ⟨v, rfl, hq⟩ := z
  exact wpAny_pure hq
theorem bin_of1 {op : Operator} {a : Value} (h : wpAny (model prog w) A (binaryOp1 op.info.2 a b) (fun r s' => ∃ v, r = some v ∧ Q v s') E s) : wpAny (model prog w) A (binaryOp op a b) Q E s := by
  rcases hi : op.info with ⟨sym, nm'⟩
  rw [hi] at h
  simp only [binaryOp, hi]
  refine wpAny_holding (wpAny_bind (wpAny_mono h (fun r s' hr' => ?_) fun _ _ e => e))
  obtain ⟨v, rfl, hq⟩ := hr'
  exact wpAny_pure hq
end
end AzX
namespace Az
open PySem PySem.Spec PyProof.Rows L2 AzX
/-- the built-in type of a value -/
def tyV (H : Hp) : V → Option String
  | .int _ => some "int"
  | .bl _ => some "bool"
  | .non => some "NoneType"
  | .str _ => some "str"
  | .ref a => match H a with
    | some (.lst _) => some "list"
    | some (.tup _) => some "tuple"
    | some (.dK _) => some "dict"
    | _ => none
  | _ => none
theorem rel_ni {x : V} {u : Value} (r : RelV x u) : u ≠ .notImplemented := by
  cases x with
  | non => cases r; exact fun z => nomatch z
  | bl b => cases r; exact fun z => nomatch z
  | int i => obtain ⟨t, rfl⟩ := r; exact fun z => nomatch z
  | str i => obtain ⟨t, rfl⟩ := r; exact fun z => nomatch z
  | byt i => obtain ⟨t, rfl⟩ := r; exact fun z => nomatch z
  | flt i => obtain ⟨t, rfl⟩ := r; exact fun z => nomatch z
  | ref a => cases r; exact fun z => nomatch z
  | ty a => cases r; exact fun z => nomatch z
section
variable {X : Cx} {pins : List (Addr × Obj)} {σ : L2.St} {H : Hp} {s : Shared}
theorem ty_obj {a : Addr} {o : Obj} (ho : s.heap.get? a = some o) : PySem.W.Looks (model X.prog X.w) s.heap (typeOf (.ref a)) o.cls := fun A Q E s' k q => by
  unfold typeOf
  exact wpAny_bind (wpAny_load (k _ _ ho) (wpAny_pure q))
theorem ty_looks (I : Inv X pins σ H s) {y : V} {u : Value} {T : String} (r : RelV y u) (h : tyV H y = some T) : PySem.W.Looks (model X.prog X.w) s.heap (typeOf u) (.type T) := by
  cases y with
  | non => cases r; cases h; exact PySem.W.Looks.of_pure rfl
  | bl b => cases r; cases h; exact PySem.W.Looks.of_pure rfl
  | int i => obtain ⟨t, rfl⟩ := r; cases h; exact PySem.W.Looks.of_pure rfl
  | str i => obtain ⟨t, rfl⟩ := r; cases h; exact PySem.W.Looks.of_pure rfl
  | byt i => cases h
  | flt i => cases h
  | ty i => cases h
  | ref a =>
    cases (show u = Value.ref a from r)
    cases e : H a with
    | none => simp [tyV, e] at h
    | some o =>
      have ho := I.hok a _ e
      cases o <;> simp [tyV, e] at h
      · subst h
        obtain ⟨_, its, n, _, hg⟩ := ho
        exact ty_obj hg
      · subst h
        obtain ⟨_, its, _, o, h1, h2, _⟩ := ho
        have z := ty_obj (X := X) h1
        rw [h2] at z
        exact z
      · subst h
        obtain ⟨_, _, vs, _, o, es, ep, h1, h2, _⟩ := ho
        have z := ty_obj (X := X) h1
        rw [h2.1] at z
        exact z
end
end Az

namespace Az
open PySem PySem.Spec PyProof.Rows L2 AzX
/-- the methods of an own class for an operator -/
structure OpC (K : PySem.W.Frag) (C : Addr) (nm : String) (f g : Addr) : Prop where
  first : PySem.W.selfFirst K C = true
  m : PySem.W.findIn K (.ref C) (PySem.dunder nm) = some (some (.ref f))
  fn : PySem.W.isFn K (.ref f) = true
  r : PySem.W.findIn K (.ref C) (dunderR nm) = some (some (.ref g))
  rfn : PySem.W.isFn K (.ref g) = true
  noInt : PySem.W.subIn K (.ref C) (.type "int") = some false
/-- a built-in type on the other side -/
def OpT (K : PySem.W.Frag) (C : Addr) (nm T : String) : Prop := ∃ fo ro, PySem.W.findIn K (.type T) (PySem.dunder nm) = some fo ∧ PySem.W.findIn K (.type T) (dunderR nm) = some ro ∧ PySem.W.subIn K (.type T) (.ref C) = some false
/-- what may stand on the right -/
def OpY (K : PySem.W.Frag) (C : Addr) (nm : String) (H : Hp) (y : V) : Prop := (∃ b dy gs, y = .ref b ∧ H b = some (.ins C dy gs)) ∨ ∃ T, tyV H y = some T ∧ OpT K C nm T
def rOwn (K : PySem.W.Frag) (C : Addr) (nm : String) (sp : Sp) (E : XK) : R2 := fun x y H Q => ∃ a dx fs, x = .ref a ∧ H a = some (.ins C dx fs) ∧ OpY K C nm H y ∧ sp [x, y] H Q E
def rOwnR (C : Addr) (sp : Sp) (E : XK) : R2 := fun x y H Q => ∃ i a dx fs, x = .int i ∧ y = .ref a ∧ H a = some (.ins C dx fs) ∧ sp [y, x] H Q E
section
variable {X : Cx} {pins : List (Addr × Obj)} {σ : L2.St} {H : Hp} {s : Shared} {C f g : Addr} {nm : String} {k : Nat} {fd : FuncData} {ps : List Str} {sp : Sp} {E : XK} {CX : CXT}
theorem inst_of (I : Inv X pins σ H s) {a dx : Addr} {fs : List (Str × V)} (h : H a = some (.ins C dx fs)) : ∃ od, PySem.W.InstAt s.heap a (PySem.W.instObj C dx) C od := by
  obtain ⟨_, _, _, h1, mA, h2, _⟩ := (show ObjOk X.prog X.w H s.heap a (.ins C dx fs) from I.hok a _ h)
  obtain ⟨od, ho, _⟩ := lookIn_ns h2
  exact ⟨some od, h1, rfl, rfl, ho⟩
theorem run_back {Q : VK} {us : List Value} {vs : List V} (F : FnOk X.prog X.w X.K X.mg X.base CX k f fd ps sp) (hr : Room k X.A) (hb : Binds X.K fd ps []) (hx : Passes CX X E) (I : Inv X pins σ H s) (r : Vals vs us) (h : sp vs H Q E) :
    wpAny (model X.prog X.w) X.A (call (.ref f) us) (Back (EP X pins σ Q)) X.xe s :=
  wpAny_mono (run_fn (dvs := []) F hr hb .nil hx I r (by rw [List.append_nil]; exact h)) (fun v s' ⟨v', H', J, rv, q⟩ => ⟨rel_ni rv, v', H', J, rv, q⟩) fun _ _ e => e
theorem op1_own {Q : VK} {x y : V} {v u : Value} (oc : OpC X.K C nm f g) (F : FnOk X.prog X.w X.K X.mg X.base CX k f fd ps sp) (hr : Room k X.A) (hb : Binds X.K fd ps []) (hx : Passes CX X E) (I : Inv X pins σ H s) (rx : RelV x v) (ry : RelV y u) (h : rOwn X.K C nm sp E x y H Q) :
    wpAny (model X.prog X.w) X.A (binaryOp1 nm v u) (fun r s' => ∃ v, r = some v ∧ EP X pins σ Q v s') X.xe s := by
  obtain ⟨a, dx, fs, rfl, ha, hy, q⟩ := h
  cases (show v = Value.ref a from rx)
  obtain ⟨od, J⟩ := inst_of I ha
  have one := run_back (us := [.ref a, u]) (vs := [.ref a, y]) F hr hb hx I (.cons rfl (.cons ry .nil)) q
  rcases hy with ⟨b, dy, gs, rfl, hB⟩ | ⟨T, hT, fo, ro, h1, h2, h3⟩
  · cases (show u = Value.ref b from ry)
    obtain ⟨od2, J2⟩ := inst_of I hB
    exact bin1_same I.kIn J J2.type oc.first oc.m oc.fn one
  · exact bin1_type I.kIn J (ty_looks I ry hT) oc.first oc.m oc.fn oc.r (.inr ⟨g, rfl⟩) h1 h2 h3 one
/-- x op y by x's own method -/
theorem op_own {op : Operator} (oc : OpC X.K C op.info.2 f g) (F : FnOk X.prog X.w X.K X.mg X.base CX k f fd ps sp) (hr : Room k X.A) (hb : Binds X.K fd ps []) (hx : Passes CX X E) : OpR X (binaryOp op) (rOwn X.K C op.info.2 sp E) :=
  fun pins s σ H x y v u Q I rx ry h => bin_of1 (op1_own oc F hr hb hx I rx ry h)
/-- i op y by y's own method, i a whole number -/
theorem op_ownR {op : Operator} {id : String} {name : String} {gi : Int → Int → Sem Fin} (oc : OpC X.K C op.info.2 g f) (hfi : fillsNumberSlot (.type "int") op.info.2 = pure true) (hsl : Slot "int" (PySem.dunder op.info.2) id) (hen : entryFor table id = some (Builtin.Int.intBinary name gi false)) (har : ∀ a b, argsOk id ⟨[a, b], []⟩)
    (F : FnOk X.prog X.w X.K X.mg X.base CX k f fd ps sp) (hr : Room k X.A) (hb : Binds X.K fd ps []) (hx : Passes CX X E) : OpR X (binaryOp op) (rOwnR C sp E) := by
  intro pins s σ H x y v u Q I rx ry h
  obtain ⟨i, a, dx, fs, rfl, rfl, ha, q⟩ := h
  obtain ⟨t, rfl⟩ := rx
  cases (show u = Value.ref a from ry)
  obtain ⟨od, J⟩ := inst_of I ha
  have one := run_back (us := [.ref a, .int i t]) (vs := [.ref a, .int i]) F hr hb hx I (.cons rfl (.cons ⟨t, rfl⟩ .nil)) q
  exact bin_of1 (bin1_refl I.kIn J (fun p z => nomatch z) oc.first hfi hsl hen (har _ _) oc.m oc.r oc.rfn oc.noInt one)
/-- own comparison methods: x op y, x of the class -/
def CmpY (K : PySem.W.Frag) (C : Addr) (H : Hp) (y : V) : Prop := (∃ b dy gs, y = .ref b ∧ H b = some (.ins C dy gs)) ∨ ∃ T, tyV H y = some T ∧ PySem.W.subIn K (.type T) (.ref C) = some false
def rCmp (K : PySem.W.Frag) (C : Addr) (sp : Sp) (E : XK) : R2 := fun x y H Q => ∃ a dx fs, x = .ref a ∧ H a = some (.ins C dx fs) ∧ CmpY K C H y ∧ sp [x, y] H Q E
theorem cmpR_own {op : CmpOp} (hop : compareOp op = richCompare op) (hm : PySem.W.findIn X.K (.ref C) (cmpInfo op).2.1 = some (some (.ref f))) (hf : PySem.W.isFn X.K (.ref f) = true) (F : FnOk X.prog X.w X.K X.mg X.base CX k f fd ps sp) (hr : Room k X.A) (hb : Binds X.K fd ps []) (hx : Passes CX X E) : OpR X (compareOp op) (rCmp X.K C sp E) := by
  intro pins s σ H x y v u Q I rx ry h
  obtain ⟨a, dx, fs, rfl, ha, hy, q⟩ := h
  cases (show v = Value.ref a from rx)
  obtain ⟨od, J⟩ := inst_of I ha
  have hu : X.A.units < cLine := by have := hr.units; omega
  have one := run_back (us := [.ref a, u]) (vs := [.ref a, y]) F hr hb hx I (.cons rfl (.cons ry .nil)) q
  rw [hop]
  rcases hy with ⟨b, dy, gs, rfl, hB⟩ | ⟨T, hT, h3⟩
  · cases (show u = Value.ref b from ry)
    obtain ⟨od2, J2⟩ := inst_of I hB
    exact AzX.cmp_own hu I.kIn J J2.type (by unfold PySem.W.notFirst; simp) hm hf one
  · exact AzX.cmp_own hu I.kIn J (ty_looks I ry hT) (by unfold PySem.W.notFirst; simp [h3]) hm hf one
theorem cmpR_ownR {op : CmpOp} {id : String} {name : String} {gi : Int → Int → Sem Fin} (hop : compareOp op = richCompare op) (hsl : Slot "int" (cmpInfo op).2.1 id) (hen : entryFor table id = some (Builtin.Int.intBinary name gi false)) (har : ∀ a b, argsOk id ⟨[a, b], []⟩)
    (hm : PySem.W.findIn X.K (.ref C) (cmpInfo op).2.2 = some (some (.ref f))) (hf : PySem.W.isFn X.K (.ref f) = true) (hsub : PySem.W.subIn X.K (.ref C) (.type "int") = some false) (F : FnOk X.prog X.w X.K X.mg X.base CX k f fd ps sp) (hr : Room k X.A) (hb : Binds X.K fd ps []) (hx : Passes CX X E) : OpR X (compareOp op) (rOwnR C sp E) := by
  intro pins s σ H x y v u Q I rx ry h
  obtain ⟨i, a, dx, fs, rfl, rfl, ha, q⟩ := h
  obtain ⟨t, rfl⟩ := rx
  cases (show u = Value.ref a from ry)
  obtain ⟨od, J⟩ := inst_of I ha
  have hu : X.A.units < cLine := by have := hr.units; omega
  have one := run_back (us := [.ref a, .int i t]) (vs := [.ref a, .int i]) F hr hb hx I (.cons rfl (.cons ⟨t, rfl⟩ .nil)) q
  rw [hop]
  exact AzX.cmp_refl hu I.kIn J (fun p z => nomatch z) hsl hen (har _ _) hm hf hsub one
def rOwnU (C : Addr) (sp : Sp) (E : XK) : V → Hp → VK → Prop := fun x H Q => ∃ a dx fs, x = .ref a ∧ H a = some (.ins C dx fs) ∧ sp [x] H Q E
/-- -x by x's own method -/
theorem un_negO (hm : PySem.W.findIn X.K (.ref C) "__neg__" = some (some (.ref f))) (hf : PySem.W.isFn X.K (.ref f) = true) (F : FnOk X.prog X.w X.K X.mg X.base CX k f fd ps sp) (hr : Room k X.A) (hb : Binds X.K fd ps []) (hx : Passes CX X E) : UnR X (unaryOp .USub) (rOwnU C sp E) := by
  intro pins s σ H x v Q I rx h
  obtain ⟨a, dx, fs, rfl, ha, q⟩ := h
  cases (show v = Value.ref a from rx)
  obtain ⟨od, J⟩ := inst_of I ha
  unfold unaryOp
  refine wpAny_holding ?_
  exact wpAny_bind (PySem.W.special_fn I.kIn J hm (beq_iff_eq.mp hf) (wpAny_mono (run_fn (dvs := []) (us := [.ref a]) (vs := [.ref a]) F hr hb .nil hx I (.cons rfl .nil) q) (fun _ _ z => wpAny_pure z) fun _ _ z => z))
end
end Az

/-! C.m(e, ..) of a static method. -/
namespace Az
open PySem PySem.Spec PyProof.Rows L2 ClX
/-- C.m is a staticmethod: its record at p, its def at g -/
structure SMet (K : PySem.W.Frag) (C : Addr) (mc : Value) (m : Str) (p g : Addr) : Prop where
  at_ : PySem.W.findCls K (.ref C) mc m = some (.get (.builtin "staticmethod.__get__") (.ref p) .none (.ref C))
  rc : ∃ rest, PySem.W.recIn K p "staticmethod" = some (.ref g :: rest)
  kp : PySem.W.keepIn K (.ref g) = true
def tSMeth (C : Addr) (sp : Sp) (dvs : List V) (E : XK) (ta : TE) (t : TA) : TE := fun σ H Q => ta σ H fun x H1 => x = .ref C ∧ t σ H1 fun vs H2 => sp (vs ++ dvs) H2 Q E
section
variable {X : Cx} {CX : CXT} {k : Nat} {C p g : Addr} {mc : Value} {sp : Sp} {E : XK} {o e : Expr} {es : List Expr} {m : Str} {pos apos : Pos} {ta : TE} {t : TA} {pl : Sem Bool} {fd : FuncData} {ps : List Str} {ds : List Value} {dvs : List V}
theorem pe_smeth (he : PE X o ta) (r : CRead X.K C mc) (c : SMet X.K C mc m p g) (F : FnOk X.prog X.w X.K X.mg X.base CX k g fd ps sp) (hr : Room k X.A) (hb : Binds X.K fd ps ds) (hd : Vals dvs ds) (hx : Passes CX X E) (ha : PA X (e :: es) t)
    (hst : starEach (e :: es) X.env = (false, eval e X.env) :: starEach es X.env := by rfl) (hpl : (backTo pos (starEach es X.env)).any (·.1) = false := by rfl)
    (ht : eval (.Call (.Attribute o m apos) (e :: es) [] pos) X.env = (do
      let ov ← eval o X.env
      standAt apos.atName
      let (f, first) ← holding [ov] (getMethod ov m pl)
      callWith pos f first (backTo pos (starEach (e :: es) X.env)) (backToKw pos (keywordEach [] X.env))) := by rfl) :
    PE X (.Call (.Attribute o m apos) (e :: es) [] pos) (tSMeth C sp dvs E ta t) := by
  refine ⟨fun pins s σ H Q I h => ?_⟩
  refine PySem.W.methodCall_KW (pl := pl) (thn (he.run pins s σ H _ I h) fun u s1 ⟨x, H1, I1, rx, ex, q⟩ => ?_) ht
  subst ex
  obtain rfl : u = Value.ref C := rx
  obtain ⟨rest, hp⟩ := c.rc
  refine PySem.W.method_cls I1.kIn r.ga (PySem.W.cls_bind I1.kIn r.rd c.at_ (wpAny_call (PySem.W.sm_get (s := { s1 with toks := s1.toks + 1 }) I1.kIn hp (PySem.W.handed_on rfl ?_))))
  have I2 := I1.tok (s1.toks + 1)
  refine PySem.W.callWith_K (first := []) (h₀ := X.base) I.ok.mod.kin c.kp (thn (ha.run pos pins _ σ H1 _ I2 q) fun us s2 ⟨vs, H2, I3, rv, q2⟩ => ⟨I3.kIn, ?_⟩) hst hpl
  exact run_fn F hr hb hd hx I3 rv q2
end
end Az

/-! A def's promise where the guards of repr are known to be none, and the law's end over it. -/
namespace Az
open PySem PySem.Spec PyProof.Rows L2 LamX
/-- as FnOk, called where no repr is under way -/
structure FnG (P : Program) (w : World) (K : PySem.W.Frag) (mg : Str → Option Value) (base : Heap) (CX : CXT) (k : Nat) (f : Addr) (fd : FuncData) (ps : List Str) (sp : Sp) : Prop where
  len : ∀ vs H Q E, sp vs H Q E → vs.length = ps.length
  run : ∀ (A : Around) (outer : List Env) (s : Shared) (H : Hp) (args : Args) (us : List Value) (vs : List V) (Q : VK) (E : XK), Room k A → A.guards = some [] → Env0 P w K mg base A outer s H → BindsTo s fd args (ps.zip us) → Vals vs us → sp vs H Q E →
    codeAny (model P w) A (.call (.ref f) args) (CR CX outer P w H s Q E) s
theorem FnG.of {P : Program} {w : World} {K : PySem.W.Frag} {mg : Str → Option Value} {base : Heap} {CX : CXT} {k : Nat} {f : Addr} {fd : FuncData} {ps : List Str} {sp : Sp} (F : FnOk P w K mg base CX k f fd ps sp) : FnG P w K mg base CX k f fd ps sp :=
  ⟨F.len, fun A outer s H args us vs Q E hr _ => F.run A outer s H args us vs Q E hr⟩
/-- of a def that does as told wherever it is called with the guards known: its promise -/
theorem fn_ofG {CX : CXT} {P : Program} {w : World} {K : PySem.W.Frag} {mg : Str → Option Value} {base : Heap} {k : Nat} {f : Addr} {name qual : Str} {params : Arguments} {body : List Stmt} {scope : Scope} {dV kV doc pm cdv ct oc : Value} {an od : Option Addr}
    {osl : Array (Option Value)} {N ps : List Str} {sp : Sp} (lk : K.lookup f = some ⟨oc, od, .func (PySem.W.fnOf name qual params body scope dV kV doc pm an cdv ct), osl⟩) (hcd : PySem.W.codeIn K cdv qual = true) (S : FnScope N ps scope)
    (len : ∀ vs H Q E, sp vs H Q E → vs.length = ps.length)
    (hbody : ∀ (A : Around) (outer : List Env) (s : Shared) (H : Hp) (vs : List V) (Q : VK) (E : XK), Room k (A.deeper (envOfC qual scope s.heap.objs.size f cdv)) → A.guards = some [] → sp vs H Q E →
      ∃ t, PSs (cxOf CX P w K mg base N qual scope f cdv A outer s H E) body t ∧ t { nx := fun _ H' => Q .non H', rt := Q } (start N vs) H) :
    FnG P w K mg base CX (k + 1) f (PySem.W.fnOf name qual params body scope dV kV doc pm an cdv ct) ps sp := by
  refine ⟨len, fun A outer s H args us vs Q E hr hgd e0 hb r hsp => ?_⟩
  have hl := len _ _ _ _ hsp
  have kp : ∀ b o, base.get? b = some o → s.heap.get? b = some o := fun b o e => (e0.bs b o e).1
  have KX : K.In s.heap := e0.mod.kin.keeps kp
  have lim : s.heap.NoLimit := e0.mod.nolimit.keeps kp
  have hkind : ∀ y ∈ ps.zip us, scope.names.lookup y.1 = some .local ∨ (scope.names.lookup y.1 = some .cell ∧ ((cellsFrom (s.heap.objs.size + 1) scope.names []).lookup y.1).isSome = true) := fun ⟨n, v⟩ hy =>
    (S.par n (List.of_mem_zip hy).1).imp (fun q => q) fun q => ⟨q, PySem.W.cellsFrom_some _ _ _ (.inl q)⟩
  refine codeAny_call_function hr.depth (KX _ _ lk) rfl S.co S.gen rfl (PySem.W.codeRec_of KX hcd) (hb _ _ _ _ (wpAny_newFunctionEnv_cells S.kind hkind fun env he s1 x => ?_))
  subst he
  refine ⟨lim.keeps x.toInCall.keep, codeAny_func ?_⟩
  obtain ⟨t, ht, hq⟩ := hbody A outer s H vs Q E (hr.deeper _) hgd hsp
  refine wpAny_mono (ht.run [] s1 (start N vs) H _ (inv_start S hr.hd e0 hl r x) hq) (fun fl s' hs => ?_) fun e s' hs => hs
  have fin : ∀ {σ' : L2.St} {H' : Hp} {v : V} {u : Value}, Inv (cxOf CX P w K mg base N qual scope f cdv A outer s H E) [] σ' H' s' → RelV v u → Q v H' → CE outer P w H s Q u s' :=
    fun {σ' H' v u} J rv q => ⟨v, H', J.os, J.bare, J.base, J.hok, rv, q⟩
  cases fl with
  | ret u => obtain ⟨v, σ', H', J, rv, q⟩ := hs; exact fin J rv q
  | next => obtain ⟨σ', H', J, q⟩ := hs; exact fin (v := V.non) (u := Value.none) J rfl q
  | brk => obtain ⟨_, _, _, q⟩ := hs; exact False.elim q
  | cont => obtain ⟨_, _, _, q⟩ := hs; exact False.elim q
section
variable {P : Program} {w : World} {K : PySem.W.Frag} {mg : Str → Option Value} {base : Heap}
/-- of a def of the text -/
theorem okG {x qual : Str} {st : Stmt} {f : Addr} {fd : FuncData} {N ps : List Str} {k : Nat} {sp : Sp} (F : Fun K x qual st f fd) (S : FnScope N ps (defScope st)) (len : ∀ vs H Q E, sp vs H Q E → vs.length = ps.length)
    (hbody : ∀ (cdv : Value) (A : Around) (outer : List Env) (s : Shared) (H : Hp) (vs : List V) (Q : VK) (E : XK), Room k (A.deeper (envOfC qual (defScope st) s.heap.objs.size f cdv)) → A.guards = some [] → sp vs H Q E →
      ∃ t, PSs (cxOf CX0 P w K mg base N qual (defScope st) f cdv A outer s H E).nox (defBody st) t ∧ t { nx := fun _ H' => Q .non H', rt := Q } (start N vs) H) : FnG P w K mg base CX0 (k + 1) f fd ps sp := by
  obtain ⟨oc, od, kV, doc, pm, an, cdv, ct, osl, rfl, lk, hcd⟩ := F.ex
  refine fn_ofG lk hcd S len fun A outer s H vs Q E hr hg hsp => ?_
  obtain ⟨t, h, q⟩ := hbody cdv A outer s H vs Q E hr hg hsp
  exact ⟨t, h.nox, q⟩
end
section
variable {X : Cx} {CX : CXT} {k : Nat} {f : Addr} {fd : FuncData} {ps : List Str} {sp : Sp} {dvs : List V} {ds : List Value} {E : XK} {x : Str} {p pos : Pos} {e : Expr} {es : List Expr} {t : TA}
theorem run_fnG {pins : List (Addr × Obj)} {σ : L2.St} {H : Hp} {s : Shared} {Q : VK} {us : List Value} {vs : List V} (F : FnG X.prog X.w X.K X.mg X.base CX k f fd ps sp) (hr : Room k X.A) (hgd : X.A.guards = some []) (hb : Binds X.K fd ps ds) (hd : Vals dvs ds) (hx : Passes CX X E)
    (I : Inv X pins σ H s) (r : Vals vs us) (h : sp (vs ++ dvs) H Q E) : wpAny (model X.prog X.w) X.A (call (.ref f) us) (EP X pins σ Q) X.xe s := by
  have r2 : Vals (vs ++ dvs) (us ++ ds) := r.append hd
  have hl : (us ++ ds).length = ps.length := by rw [← r2.length]; exact F.len _ _ _ _ h
  refine wpAny_call (codeAny_mono (F.run X.A X.stack s H ⟨us, []⟩ (us ++ ds) (vs ++ dvs) Q E hr hgd I.env0 (hb s us I.kIn hl) r2 h) fun r s' hq => ?_)
  cases r with
  | error e => exact hx pins σ H s e s' I hq
  | ok fl => cases fl with
    | ret u => exact I.after hq
    | next => exact False.elim hq
    | brk => exact False.elim hq
    | cont => exact False.elim hq
/-- f(e, ..) -/
theorem pe_callG (F : FnG X.prog X.w X.K X.mg X.base CX k f fd ps sp) (hr : Room k X.A) (hgd : X.A.guards = some []) (hg : Gl X x) (hm : X.mg x = some (.ref f)) (hk : PySem.W.keepIn X.K (.ref f) = true) (hb : Binds X.K fd ps ds) (hd : Vals dvs ds) (hx : Passes CX X E)
    (ha : PA X (e :: es) t) (hdb : (x == ("__debug__" : Str)) = false := by decide) (he : starEach (e :: es) X.env = (false, eval e X.env) :: starEach es X.env := by rfl) (hpl : (backTo pos (starEach es X.env)).any (·.1) = false := by rfl) :
    PE X (.Call (.Name x p) (e :: es) [] pos) (tCall sp dvs E t) := by
  refine ⟨fun pins s σ H Q I h => ?_⟩
  refine wpAny_Call_Name_kw (ld_glob I hg hm ?_ hdb)
  refine PySem.W.callWith_K (h₀ := X.base) I.ok.mod.kin hk (thn (ha.run pos pins s σ H _ I h) fun us s1 ⟨vs, H1, I1, r1, q1⟩ => ?_) he hpl
  exact ⟨I1.kIn, run_fnG F hr hgd hb hd hx I1 r1 q1⟩
end
/-- the law's call from its promise, the guards told -/
theorem law_callG {P : Program} {w : World} {K : PySem.W.Frag} {mg mb : Str → Option Value} {CX : CXT} {k : Nat} {fa a : Addr} {cs : List (Addr × Addr)} {fd : FuncData} {x : Str} {sp : Sp} {s₁ : Shared} {vs : List Value} {ns : List Int}
    (KX : K.In s₁.heap) (hns : s₁.heap.Ns mainGlobals mg) (hb : s₁.heap.Ns builtinsNs mb) (hbb : ∀ x : Str, x ≠ "__name__" → mb x = bootBuiltins x) (hlim : s₁.heap.NoLimit) (hg : s₁.gens = #[])
    (hT : ∀ p ∈ cs, s₁.heap.get? p.2 = some { cls := .none, data := .fields #[] }) (nT : ∀ p ∈ cs, K.lookup p.2 = none) (C : ∀ p ∈ cs, PySem.W.CodeHd s₁.heap p.1 p.2)
    (hbm : ∃ (bm : Addr) (ob : Obj), mg "__builtins__" = some (.ref bm) ∧ bm ≠ builtinsNs ∧ s₁.heap.get? bm = some ob ∧ ob.cls = .type "module" ∧ ob.dict = some builtinsNs ∧ ob.data = .plain)
    (ha : s₁.heap.get? a = some { cls := .type "list", data := .seq vs.toArray }) (hi : IntsAre vs ns) (hl : ns.length ≤ sizeLine) (hr : Room k callerA)
    (F : ∀ base : Heap, K.In base → base.Ns mainGlobals mg → (∀ p ∈ cs, TabB base mg p.1 p.2) → FnG P w K mg base CX k fa fd [x] sp) (hbind : ∀ (s : Shared) (u : Value), BindsTo s fd ⟨[u], []⟩ [(x, u)])
    (hsp : ∀ H : Hp, (∀ p ∈ cs, H p.2 = some (.tbl #[])) → SqL K H a (ns.map V.int) → sp [.ref a] H (fun v _ => v = .bl true) fun _ _ _ => False)
    (hCX : ∀ H e s', CX [] H s₁ (fun _ _ _ => False) e s' → False) :
    codeAny (model P w) callerA (.call (.ref fa) ⟨[.ref a], []⟩) (fun r s' => r = .ok (.ret (.bool true)) ∧ OldK s₁.heap s'.heap ∧ s'.os = s₁.os ∧ AllBare s'.gens) s₁ := by
  have rv := vals_ints hi
  have lenV := hi.length
  have isT : ∀ b : Addr, b ∈ cs.map (·.2) → s₁.heap.get? b = some { cls := .none, data := .fields #[] } := fun b hb => by
    obtain ⟨p, hp, e⟩ := List.mem_map.mp hb
    rw [← e]
    exact hT p hp
  have aT : a ∉ cs.map (·.2) := fun z => by
    have q := isT a z
    rw [ha] at q
    have z' : Data.seq vs.toArray _ = Data.fields #[] := congrArg Obj.data (Option.some.inj q)
    cases z'
  have memT : ∀ p ∈ cs, p.2 ∈ cs.map (·.2) := fun p hp => List.mem_map.mpr ⟨p, hp, rfl⟩
  -- from an abstract heap in which nothing but the script and the tables may be tracked
  have core : ∀ H : Hp, (∀ p ∈ cs, H p.2 = some (.tbl #[])) → (∀ b, H b = none ∨ b ∈ cs.map (·.2) ∨ ∃ o xs, H b = some (.frz o (.lst xs))) → SqL K H a (ns.map V.int) → HOk P w H s₁.heap → (∀ b, H b ≠ none → b = a ∨ b ∈ cs.map (·.2)) → (H a ≠ none → K.lookup a = none) →
      codeAny (model P w) callerA (.call (.ref fa) ⟨[.ref a], []⟩) (fun r s' => r = .ok (.ret (.bool true)) ∧ OldK s₁.heap s'.heap ∧ s'.os = s₁.os ∧ AllBare s'.gens) s₁ := by
    intro H hH hO hS hok hA hK
    have base_of : ∀ {b : Addr} {o : Obj}, s₁.heap.get? b = some o → H b = none → (hidT s₁.heap H).get? b = some o := fun e n => hidT_get e n
    have noD : ∀ {b : Addr} {o : Obj}, s₁.heap.get? b = some o → (∀ vs n, o.data ≠ .seq vs n) → o.data ≠ .fields #[] → H b = none := fun {b o} e h1 h2 => by
      cases q : H b with
      | none => rfl
      | some u =>
        rcases hA b (by rw [q]; simp) with e' | e'
        · rw [e', ha] at e
          cases e
          exact (h1 _ _ rfl).elim
        · rw [isT b e'] at e
          cases e
          exact (h2 rfl).elim
    have noA : ∀ {b : Addr} {o : Obj} {es : Array DictEntry} {ep : Nat}, s₁.heap.get? b = some o → o.data = .dict es ep → H b = none := fun {b o es ep} e d => by
      refine noD e (fun vs n z => ?_) fun z => ?_
      · rw [d] at z
        cases z
      · rw [d] at z
        cases z
    have nsK : ∀ {b : Addr} {m : Str → Option Value}, s₁.heap.Ns b m → (hidT s₁.heap H).Ns b m := fun {b m} ⟨o, es, ep, e, d, r⟩ => ⟨o, es, ep, base_of e (noA e d), d, r⟩
    have hKb : K.In (hidT s₁.heap H) := fun b o e => base_of (KX b o e) (by
      cases q : H b with
      | none => rfl
      | some u =>
        rcases hA b (by rw [q]; simp) with e' | e'
        · rw [e'] at e q
          rw [hK (by rw [q]; simp)] at e
          cases e
        · obtain ⟨p, hp, ep⟩ := List.mem_map.mp e'
          rw [← ep, nT p hp] at e
          cases e)
    have hM : L2.Mod K mg (hidT s₁.heap H) := ⟨hKb, nsK hns, ⟨mb, nsK hb, hbb⟩, let ⟨mc, h1, h2⟩ := hlim; ⟨mc, nsK h1, h2⟩⟩
    have TB : ∀ p ∈ cs, TabB (hidT s₁.heap H) mg p.1 p.2 := fun p hp => by
      have hTp := hT p hp
      refine ⟨?_, ?_, fun z => ?_⟩
      · obtain ⟨o, us, file, tf, flags, tg, inF, text, tt, e1, r1, r2, r3, r4, r5, r6, r7, r8, hne⟩ := C p hp
        refine ⟨o, us, file, tf, flags, tg, inF, text, tt, base_of e1 (noD e1 (fun vs n z => ?_) fun z => ?_), r1, r2, r3, r4, r5, r6, r7, r8, hne⟩
        · rw [r2] at z
          cases z
        · rw [r2] at z
          cases z
          simp at r3
      · obtain ⟨bm, ob, b1, b2, b3, b4, b5, b6⟩ := hbm
        have nG : bm ≠ mainGlobals := fun q => by
          obtain ⟨o, es, ep, e, hd, _⟩ := hns
          rw [q, e] at b3
          cases b3
          rw [hd] at b6
          cases b6
        have nP : bm ≠ p.2 := fun q => by
          rw [q, hTp] at b3
          cases b3
          cases b6
        refine ⟨bm, ob, b1, b2, nG, nP, base_of b3 (noD b3 (fun vs n z => ?_) fun z => ?_), b4, b5, b6⟩
        · rw [b6] at z
          cases z
        · rw [b6] at z
          cases z
      · obtain ⟨o, es, ep, e, hd, _⟩ := hns
        rw [z, hTp] at e
        cases e
        cases hd
    have e0 : Env0 P w K mg (hidT s₁.heap H) callerA [] s₁ H := ⟨rfl, hM, fun b o e => of_hidT e, Nat.le_of_eq (hidT_size _ _), trivial, fun b hb => absurd (show b ∈ ([] : List Addr) from hb) (by simp), hok, .of_eq hg⟩
    refine codeAny_mono ((F _ hKb (nsK hns) TB).run callerA [] s₁ H ⟨[.ref a], []⟩ [.ref a] [.ref a] _ _ hr rfl e0 (hbind s₁ (.ref a)) (.cons rfl .nil) (hsp H hH hS)) fun r s' h => ?_
    cases r with
    | error e => exact (hCX H e s' h).elim
    | ok fl =>
      cases fl with
      | next => exact False.elim h
      | brk => exact False.elim h
      | cont => exact False.elim h
      | ret u =>
        obtain ⟨v, H', os, bare, un, hok', r', q⟩ := h
        have q' : v = .bl true := q
        subst q'
        obtain rfl : u = Value.bool true := r'
        have key : ∀ b o, b ∉ cs.map (·.2) → s₁.heap.get? b = some o → s'.heap.get? b = some o := fun b o nb e => by
          cases q : H b with
          | none => exact un.keep b o e q (by intro z; exact absurd (show b ∈ ([] : List Addr) from z) (by simp)) (by simp)
          | some u =>
            rcases hO b with z | z | ⟨ob, xs, z⟩
            · rw [q] at z; cases z
            · exact absurd z nb
            · have z2 := un.frzs b ob _ z
              obtain ⟨e1, _⟩ := hok b _ z
              obtain ⟨e2, _⟩ := hok' b _ z2
              rw [e] at e1; cases e1
              exact e2
        have grown : ∀ p ∈ cs, ∃ more : Array Value, s'.heap.get? p.2 = some { cls := .none, data := .fields more } := fun p hp => by
          obtain ⟨more, z⟩ := un.tbls p.2 #[] (hH p hp)
          exact ⟨_, hok' p.2 _ z⟩
        refine ⟨rfl, ⟨fun b o e => ?_, fun b o e => ?_⟩, os, bare⟩
        · by_cases hb : b ∈ cs.map (·.2)
          · obtain ⟨p, hp, ep⟩ := List.mem_map.mp hb
            obtain ⟨more, hm⟩ := grown p hp
            rw [← ep] at e ⊢
            rw [hT p hp] at e
            cases e
            exact .inr (.inl ⟨((C p hp).tab (hT p hp)).isCodeTable, rfl, #[], more, rfl, by rw [Array.empty_append]; exact hm⟩)
          · exact .inl (key b o hb e)
        · by_cases hb : b ∈ cs.map (·.2)
          · obtain ⟨p, hp, ep⟩ := List.mem_map.mp hb
            obtain ⟨more, hm⟩ := grown p hp
            rw [← ep]
            exact ⟨_, hm⟩
          · exact ⟨o, key b o hb e⟩
  cases hk : K.lookup a with
  | some o =>
    have e := KX a o hk
    rw [ha] at e
    cases e
    refine core (fun b => if b ∈ cs.map (·.2) then some (.tbl #[]) else none) (fun p hp => if_pos (memT p hp)) (fun b => ?_) (.inr ⟨_, vs.toArray, _, hk, rfl, rfl, rfl, by rw [List.size_toArray, lenV]; exact hl, by simpa using rv⟩) (fun b u z => ?_) (fun b z => ?_) fun z => absurd (show (if a ∈ cs.map (·.2) then some (HO.tbl #[]) else none) = none from if_neg aT) z
    · by_cases hb : b ∈ cs.map (·.2)
      · exact .inr (.inl hb)
      · exact .inl (if_neg hb)
    · by_cases hb : b ∈ cs.map (·.2)
      · have z' := (if_pos hb).symm.trans z
        cases z'
        exact isT b hb
      · have z' := (if_neg hb).symm.trans z
        cases z'
    · by_cases hb : b ∈ cs.map (·.2)
      · exact .inr hb
      · exact absurd (if_neg hb) z
  | none =>
    refine core (fun b => if b = a then some (.frz { cls := .type "list", data := .seq vs.toArray } (.lst (ns.map V.int))) else if b ∈ cs.map (·.2) then some (.tbl #[]) else none) (fun p hp => (if_neg (show ¬ p.2 = a from fun z => aT (by rw [← z]; exact memT p hp))).trans (if_pos (memT p hp))) (fun b => ?_)
      (.inl (.inr ⟨{ cls := .type "list", data := .seq vs.toArray }, if_pos rfl⟩)) (fun b u z => ?_) (fun b z => ?_) fun _ => hk
    · by_cases hb : b = a
      · exact .inr (.inr ⟨_, _, if_pos hb⟩)
      · by_cases hb2 : b ∈ cs.map (·.2)
        · exact .inr (.inl hb2)
        · exact .inl ((if_neg hb).trans (if_neg hb2))
    · by_cases hb : b = a
      · have z' := (if_pos hb).symm.trans z
        cases z'
        rw [hb]
        exact ⟨ha, by rw [List.length_map]; exact hl, vs, _, rv, ha⟩
      · have z1 := (if_neg hb).symm.trans z
        by_cases hb2 : b ∈ cs.map (·.2)
        · have z' := (if_pos hb2).symm.trans z1
          cases z'
          exact isT b hb2
        · have z' := (if_neg hb2).symm.trans z1
          cases z'
    · by_cases hb : b = a
      · exact .inl hb
      · by_cases hb2 : b ∈ cs.map (·.2)
        · exact .inr hb2
        · exact absurd ((if_neg hb).trans (if_neg hb2)) z
/-- what is known of the law's promise at the head's heap h -/
def LawAtG (l : PySem.W.OpenLaw) (w : World) (K : PySem.W.Frag) (CX : CXT) (k n : Nat) (x : Str) (mg : Str → Option Value) (fa : Addr) (h : Heap) : Prop :=
  ∃ (fd : FuncData) (cs : List (Addr × Addr)) (sp : Sp), (∀ p ∈ cs, h.get? p.2 = some { cls := .none, data := .fields #[] }) ∧ (∀ p ∈ cs, K.lookup p.2 = none) ∧ (∀ p ∈ cs, PySem.W.CodeHd h p.1 p.2) ∧ (∀ (s : Shared) (u : Value), BindsTo s fd ⟨[u], []⟩ [(x, u)]) ∧
    (∀ (H : Hp) (a : Addr) (ns : List Int), ns.length ≤ n → (∀ z ∈ ns, Builtin.Int.intBits z ≤ 1048576) → (∀ p ∈ cs, H p.2 = some (.tbl #[])) → SqL K H a (ns.map V.int) → sp [.ref a] H (fun v _ => v = .bl true) fun _ _ _ => False) ∧
    ∀ base : Heap, K.In base → base.Ns mainGlobals mg → (∀ p ∈ cs, TabB base mg p.1 p.2) → FnG l.prog w K mg base CX k fa fd [x] sp
theorem walk_ofG {l : PySem.W.OpenLaw} {n k : Nat} {q : Program} {loose : List Str} {XP : (Str → Option Value) → Heap → Prop} {YP : World → Heap → Prop} {d : DefRec} {K : Params → PySem.W.Frag} {CX : World → CXT} {x : Str}
    (hn : l.most = some n) (hn2 : n ≤ sizeLine) (hdf : d.params.defaults = []) (hr : Room k callerA) (hY : ∀ (w : World) (h : Heap), YP w h → (K w.params).In h)
    (F : ∀ (w : World) (mg : Str → Option Value) (fa : Addr) (h : Heap), YP w h → (K w.params).In h → h.Ns mainGlobals mg → mg d.name = some (.ref fa) → LawAtG l w (K w.params) (CX w) k n x mg fa h)
    (hCX : ∀ (w : World) (H : Hp) (s : Shared) (e : Value) (s' : Shared), CX w [] H s (fun _ _ _ => False) e s' → False) :
    PySem.W.WalkO q loose XP YP l.row.toRowW d [] (fun f vs => PySem.call f vs) := by
  refine Att.attach_callB hn hdf fun w s₀ s₁ mg mb fa o pm cd doc a vs ns G Y ho hd hcd hmg hobj hints hlen hbits hg => ?_
  have KX := hY w _ Y
  obtain ⟨fd, cs, sp, hT, nT, C, hb, hsp, hF⟩ := F w mg fa _ Y KX G.T.g hmg
  exact law_callG KX G.T.g G.T.b G.T.builtins G.T.nolimit hg hT nT C G.T.bmain hobj hints (Nat.le_trans hlen hn2) hr hF hb (fun H hH hS => hsp H a ns hlen hbits hH hS) fun H e s' => hCX w H s₁ e s'
end Az

/-! An own exception class over ValueError (bases of the program between) whose __init__ says super().__init__(..) and stores its parameters. -/
namespace AzX
open PySem PySem.W PySem.Calls PyProof.Rows
/-- what the written part says of the class at C and its __init__ at fI (parameters ps behind self) -/
structure ExK (P : Program) (K : Frag) (mg : Str → Option Value) (C fI : Addr) (params : Arguments) (body : List Stmt) (scope : Scope) : Prop where
  fn : ∃ (oc : Value) (od : Option Addr) (osl : Array (Option Value)) (qual : Str) (kV doc pm : Value) (an : Option Addr) (cda : Addr) (ct : Value) (cc : Addr) (ccl : Value) (cdd : Option Addr) (vs : Array Value) (ccs : Array (Option Value)) (file : Str) (tf : Tok) (cl : Value) (cld : Option Addr) (csl : Array (Option Value)),
    K.lookup fI = some ⟨oc, od, .func (ksFn "__init__" qual params body scope .none kV doc pm an (.ref cda) ct cc), osl⟩ ∧ codeIn K (.ref cda) qual = true ∧ K.lookup cda = some ⟨ccl, cdd, .fields vs, ccs⟩ ∧ vs[2]? = some (.str file tf) ∧
    ((P.main.file : Str) == file) = true ∧ K.lookup cc = some ⟨cl, cld, .cell (some (.ref C)), csl⟩
  cls : ∃ nm q N bs bm sn sub ab col dd k0 k1 k2 k3 k5, K.lookup C = some (excClassObj nm q C N bs bm true sn sub ab col dd k0 k1 k2 k3 k5 "ValueError.__new__") ∧ PX.refsVE bm = true
  self : mroIn K C (.ref C) = some true
  sup : ks_superIn K C C "__init__" = some (some (.builtin "ValueError.__init__"))
  sub : subIn K (.ref C) (.type "ValueError") = some true
  opq : nsIn K cStatics "thirdparty.any" = some none
  sa : findIn K (.ref C) "__setattr__" = some (some (.builtin "object.__setattr__"))
  mgS : mg "super" = none
  top : (P.main.scope.names.lookup ("super" : Str)).isSome = false
  iC : findIn K (.ref C) "__init__" = some (some (.ref fI))
  tC : typeIn K (.ref fI) = some (.type "function")
  kC : keepIn K (.ref C) = true

abbrev sup1 (p0 p1 p2 p3 p4 : Pos) (args : List PySem.Expr) : Stmt := .Expr (.Call (.Attribute (.Call (.Name "super" p0) [] [] p1) "__init__" p2) args [] p3) p4
section
variable {prog : Program} {w : World} {A : Around} {E : Value → Shared → Prop} {R : Result → Shared → Prop} {s : Shared} {K : Frag} {mg : Str → Option Value} {base : Heap} {C fI : Addr} {params : Arguments} {body : List Stmt} {scope : Scope}
/-- super().__init__(args), run within __init__'s own activation -/
theorem sup_run {fd : FuncData} {qual : Str} {cda cc x t0 L : Addr} {p0 p1 p2 p3 p4 : Pos} {args : List PySem.Expr} {us : List Value} {m : Str → Option Value} {body : List Stmt} {ar : Arg} {of oc : Obj} {vs : Array Value} {file : Str} {tf : Tok} {Q : Flow → Shared → Prop} {pl : Sem Bool}
    (M : L2.Mod K mg base) (kb : ∀ b o, base.get? b = some o → s.heap.get? b = some o) (hx : s.heap.get? x = some (PX.excO C t0))
    (hks : scope.names.lookup ("super" : Str) = some .globalImplicit) (hkc : scope.names.lookup ("__class__" : Str) = some .free) (hka : scope.names.lookup ar.arg = some .local) (hk : scope.kind = .function)
    (hf : s.heap.get? fI = some of) (hfd : of.data = .func fd) (hp : (fd.params.posonlyargs ++ fd.params.args).head? = some ar)
    (hcc : s.heap.get? cda = some oc) (hoc : oc.data = .fields vs) (hvs : vs[2]? = some (.str file tf)) (hfile : ((prog.main.file : Str) == file) = true)
    (hcell : s.heap.IsCell cc (some (.ref C))) (T : ExK prog K mg C fI params body scope)
    (hn : s.heap.Ns L m) (hself : m ar.arg = some (.ref x)) (hz : us.length ≤ sizeLine)
    (hargs : ∀ (s1 : Shared) (Q1 : List Value → Shared → Prop), (∀ b o, s.heap.get? b = some o → s1.heap.get? b = some o) → Q1 us s1 → wpAny (model prog w) A (spliced (backTo p3 (starEach args (ksEnv qual scope L fI (.ref cda) cc)))) Q1 E s1)
    (hpl : (backTo p3 (starEach args (ksEnv qual scope L fI (.ref cda) cc))).any (·.1) = false)
    (hev : ∀ (f : Value) (s1 : Shared) (Q1 : Args → Shared → Prop), wpAny (model prog w) A (spliced (backTo p3 (starEach args (ksEnv qual scope L fI (.ref cda) cc)))) (fun vs s' => Q1 ⟨vs, []⟩ s') E s1 → wpAny (model prog w) A (evalArgs f true (backTo p3 (starEach args (ksEnv qual scope L fI (.ref cda) cc))) []) Q1 E s1)
    (he : eval (.Call (.Attribute (.Call (.Name "super" p0) [] [] p1) "__init__" p2) args [] p3) (ksEnv qual scope L fI (.ref cda) cc) = (do
      let ov ← attributeBase (.Call (.Name "super" p0) [] [] p1) "__init__" (ksEnv qual scope L fI (.ref cda) cc) (eval (.Call (.Name "super" p0) [] [] p1) (ksEnv qual scope L fI (.ref cda) cc))
      standAt p2.atName
      let (f, first) ← holding [ov] (getMethod ov "__init__" pl)
      callWith p3 f first (backTo p3 (starEach args (ksEnv qual scope L fI (.ref cda) cc))) []))
    (hsw : swapsWith (.Call (.Attribute (.Call (.Name "super" p0) [] [] p1) "__init__" p2) args [] p3) none p4.line (ksEnv qual scope L fI (.ref cda) cc) = pure false)
    (hq : ∀ h' t1 tk, (∀ b o, b ≠ x → s.heap.get? b = some o → h'.get? b = some o) → h'.get? x = some (PX.excO C t1) → Q .next { s with heap := h', toks := tk }) :
    _root_.PySem.wpAt (model prog w) A (.func body (ksEnv qual scope L fI (.ref cda) cc)) (exec (sup1 p0 p1 p2 p3 p4 args) (ksEnv qual scope L fI (.ref cda) cc)) Q E s := by
  have X : K.In s.heap := M.kin.keeps kb
  obtain ⟨nm, q, N, bs, bm, sn, sub, ab, col, dd, k0, k1, k2, k3, k5, hC, hbm⟩ := T.cls
  have hC' := X _ _ hC
  have hT := fun X => PX.refsVE_contains X bm hbm
  obtain ⟨mb, hb1, hb2⟩ := M.blt
  obtain ⟨hh, g, d, t, os⟩ := s
  refine ks_wpAt_Expr_any (ks_wpAt_MethodCall (pl := pl) ?_ he) (by unfold interactive; rw [show (ksEnv qual scope L fI (.ref cda) cc).scope.kind = .function from hk]; rfl) hsw
  refine ks_wpAt_super_base (env := ksEnv qual scope L fI (.ref cda) cc) hks hkc (by decide) rfl hf hfd hp rfl hcc hoc hvs hfile T.top ?_
  refine ks_loadName_global hk hks (loadGlobal_builtin (env := ksEnv qual scope L fI (.ref cda) cc) (M.glob.keeps kb) T.mgS (hb1.keeps kb) ((hb2 _ (by decide)).trans (by first | rfl | kernel_rfl)) ⟨rfl, ?_⟩)
  refine wpAny_loadName_free hk hkc rfl hcell ?_
  refine wpAny_loadName_local hk hka hn hself ?_
  refine ks_wpAny_isType_cls hC' rfl ⟨rfl, ?_⟩
  refine ks_wpAny_call_super hC' rfl hx rfl (fun c e => by cases e) (looks_mroIn X T.self) (fun h1 hso k1' => ?_)
  have X1 : K.In h1 := X.keeps k1'
  have hx1 := k1' _ _ hx
  have I1 : InstAt h1 x (PX.excO C t0) C none := ⟨hx1, rfl, rfl, trivial⟩
  have hcl : clsIn K C = some { name := nm, bases := bs, mro := .ref C :: bm, ns := N, qualname := q, hasDict := true, slotNames := sn, subclasses := sub, abstract := ab, collection := col, hasDel := false } := by unfold clsIn; rw [hC] <;> rfl
  have hsup := T.sup
  unfold ks_superIn at hsup
  rw [hcl] at hsup
  refine kxs_getMethod kxs_ValueError hso (looks_opaque X1 T.opq) (l₀ := .ref C :: bm) ?_ rfl X1 hsup (I1.type.andThen (looks_subIn X1 T.sub)) (ks_ne X1 I1 hcl) (by decide) ?_
  · exact fun A Q E s k q => wpAny_bind ((looks_clsIn X1 hcl) A _ E s k (wpAny_pure q))
  have k2' : ∀ b o, h1.get? b = some o → (h1.push (kxs_mw "ValueError.__init__" x)).get? b = some o := fun b o e => Heap.get?_push_of_some _ e
  have hu : (h1.push (kxs_mw "ValueError.__init__" x)).get? h1.objs.size = some (kxs_mw "ValueError.__init__" x) := Heap.get?_push_at rfl rfl
  refine kxs_callWith (i := "ValueError.__init__") (x := x) hpl (hev _ _ _ (hargs _ _ (fun b o e => k2' b o (k1' b o e)) ⟨hu, ?_⟩))
  have hx2 := k2' _ _ hx1
  have hC2 := k2' _ _ (k1' _ _ hC')
  refine wpAny_call (codeAny_of_tree ?_)
  show wpAny _ A.in1 (callAny (.ref h1.objs.size) ⟨us, []⟩) _ _ _
  simp only [callAny]
  refine wpAny_bind (wpAny_load hu ?_)
  simp only [kxs_mw, show (Value.type "method-wrapper" == Value.type "method" || Value.type "method-wrapper" == Value.type "builtin_function_or_method" || Value.type "method-wrapper" == Value.type "method-wrapper") = true by decide, if_true]
  refine KFB.if_so (by decide) ?_
  refine wpAny_bind (check_bound_init F.excBase_ValueError.toExcCallFacts hC2 hx2 rfl ?_)
  refine wpAny_bind (wpAny_pure (wpAny_pure ?_))
  refine ⟨plainId_quiet F.excBase_ValueError.init.plain _, codeAny_builtin F.excBase_ValueError.initEntry ?_⟩
  refine exc_init_tree (cls := .ref C) (t0 := t0) (dv := none) (c2 := .none) (c3 := .none) (b4 := .bool false) hx2 hz fun h3 k3' hx3 _ => ?_
  exact hq h3 _ _ (fun b o hb e => k3' b o hb (k2' b o (k1' b o e))) hx3
end
end AzX

namespace AzX
open PySem PySem.W PySem.Calls PyProof.Rows
def arg1 (x : Str) (p : Pos) : Arg := { arg := x, annotation := none, pos := p }
abbrev iA (l : List Arg) : Arguments := { posonlyargs := [], args := l, vararg := none, kwonlyargs := [], kw_defaults := [], kwarg := none, defaults := [] }
abbrev iS (l : List (Str × NameKind)) : Scope := { kind := .function, names := l, isGenerator := false, isCoroutine := false, more := [] }
abbrev st1 (f : Str) (q1 q2 q3 q4 : Pos) : Stmt := .Assign [.Attribute (.Name "self" q1) f q2] (.Name f q3) q4
/-- what __init__ leaves of a fresh exception at x -/
structure InitEnd (h h' : Heap) (x C dx t1 : Addr) (m : Str → Option Value) : Prop where
  keep : ∀ b o, b ≠ x → h.get? b = some o → h'.get? b = some o
  obj : h'.get? x = some { cls := .ref C, dict := some dx, data := .fields #[.ref t1, .none, .none, .none, .bool false, .none] }
  dbig : h.objs.size ≤ dx
  dne : dx ≠ x
  ns : h'.Ns1 dx m
/-- how the call super().__init__(args) is read where it stands -/
structure SupAt (scope : Scope) (fI : Addr) (p0 p1 p2 p3 p4 : Pos) (args : List PySem.Expr) : Prop where
  ev : ∀ (qual : Str) (L cda cc : Addr), ∃ pl : Sem Bool, eval (.Call (.Attribute (.Call (.Name "super" p0) [] [] p1) "__init__" p2) args [] p3) (ksEnv qual scope L fI (.ref cda) cc) = (do
      let ov ← attributeBase (.Call (.Name "super" p0) [] [] p1) "__init__" (ksEnv qual scope L fI (.ref cda) cc) (eval (.Call (.Name "super" p0) [] [] p1) (ksEnv qual scope L fI (.ref cda) cc))
      standAt p2.atName
      let (f, first) ← holding [ov] (getMethod ov "__init__" pl)
      callWith p3 f first (backTo p3 (starEach args (ksEnv qual scope L fI (.ref cda) cc))) [])
  sw : ∀ (qual : Str) (L cda cc : Addr), swapsWith (.Call (.Attribute (.Call (.Name "super" p0) [] [] p1) "__init__" p2) args [] p3) none p4.line (ksEnv qual scope L fI (.ref cda) cc) = pure false
section
variable {prog : Program} {w : World} {A : Around} {E : Value → Shared → Prop} {R : Result → Shared → Prop} {s : Shared} {K : Frag} {mg : Str → Option Value} {base : Heap} {C fI : Addr}
theorem ld_loc {M : Model} {env : Env} {m : Str → Option Value} {x : Str} {pos : Pos} {v : Value} {Q : Value → Shared → Prop} (hk : env.scope.kind = .function) (hl : env.kindOf x = some .local) (hn : s.heap.Ns env.locals m) (hv : m x = some v) (h : Q v s)
    (hd : (x == ("__debug__" : Str)) = false) : wpAny M A (eval (.Name x pos) env) Q E s := wpAny_Name (wpAny_loadName_local hk hl hn hv h) hd
theorem ns_keep {h h' : Heap} {L x : Addr} {m : Str → Option Value} (hn : h.Ns L m) (ne : L ≠ x) (k : ∀ b o, b ≠ x → h.get? b = some o → h'.get? b = some o) : h'.Ns L m := by
  obtain ⟨o, es, ep, ho, r⟩ := hn
  exact ⟨o, es, ep, k _ _ ne ho, r⟩
theorem clsIn_of {K : Frag} {C : Addr} {nm q : Str} {N : Addr} {bs bm : List Value} {sn : List Str} {sub : List Value} {ab : Bool} {col : Option Bool} {dd : Option Addr} {k0 k1 k2 k3 k5 : Option Value} {newId : String} (hC : K.lookup C = some (excClassObj nm q C N bs bm true sn sub ab col dd k0 k1 k2 k3 k5 newId)) :
    clsIn K C = some { name := nm, bases := bs, mro := .ref C :: bm, ns := N, qualname := q, hasDict := true, slotNames := sn, subclasses := sub, abstract := ab, collection := col, hasDel := false } := by unfold clsIn; rw [hC] <;> rfl
theorem Ex.in_heap {o : Obj} {a : Addr} (M : L2.Mod K mg base) (kb : ∀ b o, base.get? b = some o → s.heap.get? b = some o) (h : K.lookup a = some o) : s.heap.get? a = some o := kb _ _ (M.kin _ _ h)
/-- __init__(self, f): super().__init__(f); self.f = f -/
theorem init1 {f : Str} {pa pb p0 p1 p2 p3 p4 pn q1 q2 q3 q4 : Pos} {x t0 : Addr} {v : Value} {ar : Args}
    (T : ExK prog K mg C fI (iA [arg1 "self" pa, arg1 f pb]) [sup1 p0 p1 p2 p3 p4 [.Name f pn], st1 f q1 q2 q3 q4] (iS [("self", .local), (f, .local), ("__class__", .free), ("super", .globalImplicit)]))
    (hf : (f == ("self" : Str)) = false ∧ ((("self" : Str) == f) = false) ∧ (("__class__" : Str) == f) = false ∧ (("super" : Str) == f) = false ∧ (f == ("__debug__" : Str)) = false) (hno : findIn K (.ref C) f = some none)
    (SA : SupAt (iS [("self", .local), (f, .local), ("__class__", .free), ("super", .globalImplicit)]) fI p0 p1 p2 p3 p4 [.Name f pn]) (SW : ∀ (qual : Str) (L cda cc : Addr), swapsWith (.Name f q3) (some (.Attribute (.Name "self" q1) f q2)) q4.line (ksEnv qual (iS [("self", .local), (f, .local), ("__class__", .free), ("super", .globalImplicit)]) L fI (.ref cda) cc) = pure false)
    (M : L2.Mod K mg base) (kb : ∀ b o, base.get? b = some o → s.heap.get? b = some o) (hlim : s.heap.NoLimit) (hx : s.heap.get? x = some (PX.excO C t0)) (hnx : base.get? x = none) (hroom : A.depth < recursionLimit)
    (hb : ∀ fd : FuncData, (∃ qual kV doc pm an cd ct cc, fd = ksFn "__init__" qual (iA [arg1 "self" pa, arg1 f pb]) [sup1 p0 p1 p2 p3 p4 [.Name f pn], st1 f q1 q2 q3 q4] (iS [("self", .local), (f, .local), ("__class__", .free), ("super", .globalImplicit)]) .none kV doc pm an cd ct cc) → BindsTo s fd ar [("self", .ref x), (f, v)])
    (hq : ∀ h' tk dx t1, InitEnd s.heap h' x C dx t1 (fun y => if y = f then some v else none) → R (.ok (.ret .none)) { s with heap := h', toks := tk }) :
    codeAny (model prog w) A (.call (.ref fI) ar) R s := by
  obtain ⟨oc, od, osl, qual, kV, doc, pm, an, cda, ct, cc, ccl, cdd, vs, ccs, file, tf, cl, cld, csl, ho, hcd, hcda, hvs, hfile, hcell⟩ := T.fn
  obtain ⟨nm, q, N, bs, bm, sn, sub, ab, col, dd, k0, k1, k2, k3, k5, hC, hbm⟩ := T.cls
  have X : K.In s.heap := M.kin.keeps kb
  have lkf : List.lookup f [(("self" : Str), NameKind.local), (f, .local), ("__class__", .free), ("super", .globalImplicit)] = some .local := by
    simp [List.lookup, hf.1]
  have lkc : List.lookup ("__class__" : Str) [(("self" : Str), NameKind.local), (f, .local), ("__class__", .free), ("super", .globalImplicit)] = some .free := by
    have e : (("__class__" : Str) == ("self" : Str)) = false := by decide +kernel
    simp only [List.lookup, hf.2.2.1, e]
    rfl
  have lks : List.lookup ("super" : Str) [(("self" : Str), NameKind.local), (f, .local), ("__class__", .free), ("super", .globalImplicit)] = some .globalImplicit := by
    have e : (("super" : Str) == ("self" : Str)) = false := by decide +kernel
    have e2 : (("super" : Str) == ("__class__" : Str)) = false := by decide +kernel
    simp only [List.lookup, hf.2.2.2.1, e, e2]
    rfl
  refine ks_codeAny_call_defAt (fd := ksFn "__init__" qual _ _ _ .none kV doc pm an (.ref cda) ct cc) (binds := [("self", .ref x), (f, v)]) hroom (X _ _ ho) rfl hlim (codeRec_of X hcd) rfl (hb _ ⟨_, _, _, _, _, _, _, _, rfl⟩) ?_ ?_ (fun h1 hns kp => ?_)
  · intro y hy
    simp at hy
    rcases hy with rfl | rfl | rfl | rfl <;> simp
  · intro y hy
    simp at hy
    rcases hy with rfl | rfl
    · rfl
    · exact lkf
  have kb1 : ∀ b o, base.get? b = some o → h1.get? b = some o := fun b o e => kp b o (kb b o e)
  have X1 : K.In h1 := M.kin.keeps kb1
  have hx1 := kp _ _ hx
  have neL : s.heap.objs.size ≠ x := Nat.ne_of_gt (Heap.lt_size hx)
  have mself : (fun y => List.lookup y [(("self" : Str), Value.ref x), (f, v)].reverse) ("self" : Str) = some (.ref x) := by
    show List.lookup ("self" : Str) [(f, v), (("self" : Str), Value.ref x)] = some (.ref x)
    simp only [List.lookup, hf.2.1]
    rfl
  have mf : (fun y => List.lookup y [(("self" : Str), Value.ref x), (f, v)].reverse) f = some v := by
    show List.lookup f [(f, v), (("self" : Str), Value.ref x)] = some v
    simp [List.lookup]
  refine ks_wpAt_execs_cons ?_
  obtain ⟨pl, he⟩ := SA.ev qual s.heap.objs.size cda cc
  refine sup_run (pl := pl) (s := { s with heap := h1, toks := s.toks + _ }) (t0 := t0) (ar := arg1 "self" pa) (us := [v]) (qual := qual) (cda := cda) (cc := cc) M kb1 hx1 lks lkc rfl rfl (X1 _ _ ho) rfl rfl (X1 _ _ hcda) rfl hvs hfile ⟨_, X1 _ _ hcell, rfl⟩ T hns mself (by rw [sizeLine_eq]; show 1 ≤ _; decide) ?_ rfl ?_ he (SA.sw qual s.heap.objs.size cda cc) ?_
  · intro s1 Q1 k hQ
    have hns1 := hns.keeps k
    exact Calls.spliced_cons (ld_loc rfl lkf hns1 mf (Calls.spliced_nil hQ) hf.2.2.2.2)
  · intro f1 s1 Q1 h
    exact evalArgs_plain h
  · intro h2 t1 tk k2' hx2
    have kb2 : ∀ b o, base.get? b = some o → h2.get? b = some o := fun b o e => k2' b o (fun z => by rw [z, hnx] at e; cases e) (kb1 b o e)
    have X2 : K.In h2 := M.kin.keeps kb2
    have hns2 := ns_keep hns neL k2'
    refine wpAt_of_wpAny ?_
    refine wpAny_execs_cons (plainObj_wpAny_Assign_Attribute ?_ (SW qual s.heap.objs.size cda cc))
    refine ld_loc rfl lkf hns2 mf (ld_loc rfl rfl hns2 mself ?_ (by decide)) hf.2.2.2.2
    refine set_plain X2 (ox := PX.excO C t1) (od := none) ⟨hx2, rfl, rfl, trivial⟩ T.sa ?_
    refine PX.exc_osa X2 hx2 (clsIn_of hC) (show PX.refsVE (.ref C :: bm) = true from hbm) rfl hno (fun h3 tk3 dx k3' dn dne hx3 hn3 => ?_)
    show wpAny _ _ (execs _ _) _ _ _
    refine wpAny_execs_nil (hq h3 tk3 dx t1 ⟨fun b o hb e => k3' b o hb (k2' b o hb (kp b o e)), hx3, ?_, dne, hn3⟩)
    have z1 : s.heap.objs.size < h2.objs.size := hns2.lt
    exact Nat.le_of_lt (Nat.lt_of_lt_of_le z1 dn)
end
end AzX

namespace AzX
open PySem PySem.W PySem.Calls PyProof.Rows
section
variable {prog : Program} {w : World} {A : Around} {E : Value → Shared → Prop} {R : Result → Shared → Prop} {s : Shared} {K : Frag} {mg : Str → Option Value} {base : Heap} {C fI : Addr}
/-- __init__(self, line, word): super().__init__(line, word); self.line = line; self.word = word -/
theorem init_line_word {pa pb pc p0 p1 p2 p3 p4 pn pq q1 q2 q3 q4 r1 r2 r3 r4 : Pos} {x t0 : Addr} {v u : Value} {ar : Args}
    (T : ExK prog K mg C fI (iA [arg1 "self" pa, arg1 "line" pb, arg1 "word" pc]) [sup1 p0 p1 p2 p3 p4 [.Name "line" pn, .Name "word" pq], st1 "line" q1 q2 q3 q4, st1 "word" r1 r2 r3 r4] (iS [(("self" : Str), NameKind.local), (("line" : Str), .local), (("word" : Str), .local), (("__class__" : Str), .free), (("super" : Str), .globalImplicit)]))
    (hno : findIn K (.ref C) "line" = some none) (hno2 : findIn K (.ref C) "word" = some none)
    (SA : SupAt (iS [(("self" : Str), NameKind.local), (("line" : Str), .local), (("word" : Str), .local), (("__class__" : Str), .free), (("super" : Str), .globalImplicit)]) fI p0 p1 p2 p3 p4 [.Name "line" pn, .Name "word" pq])
    (M : L2.Mod K mg base) (kb : ∀ b o, base.get? b = some o → s.heap.get? b = some o) (hlim : s.heap.NoLimit) (hx : s.heap.get? x = some (PX.excO C t0)) (hnx : base.get? x = none) (hroom : A.depth < recursionLimit)
    (hb : ∀ fd : FuncData, (∃ qual kV doc pm an cd ct cc, fd = ksFn "__init__" qual (iA [arg1 "self" pa, arg1 "line" pb, arg1 "word" pc]) [sup1 p0 p1 p2 p3 p4 [.Name "line" pn, .Name "word" pq], st1 "line" q1 q2 q3 q4, st1 "word" r1 r2 r3 r4] (iS [(("self" : Str), NameKind.local), (("line" : Str), .local), (("word" : Str), .local), (("__class__" : Str), .free), (("super" : Str), .globalImplicit)]) .none kV doc pm an cd ct cc) → BindsTo s fd ar [("self", .ref x), ("line", v), ("word", u)])
    (hq : ∀ h' tk dx t1, InitEnd s.heap h' x C dx t1 (fun y => if y = ("word" : Str) then some u else if y = ("line" : Str) then some v else none) → R (.ok (.ret .none)) { s with heap := h', toks := tk }) :
    codeAny (model prog w) A (.call (.ref fI) ar) R s := by
  obtain ⟨oc, od, osl, qual, kV, doc, pm, an, cda, ct, cc, ccl, cdd, vs, ccs, file, tf, cl, cld, csl, ho, hcd, hcda, hvs, hfile, hcell⟩ := T.fn
  obtain ⟨nm, q, N, bs, bm, sn, sub, ab, col, dd, k0, k1, k2, k3, k5, hC, hbm⟩ := T.cls
  have X : K.In s.heap := M.kin.keeps kb
  refine ks_codeAny_call_defAt (fd := ksFn "__init__" qual _ _ _ .none kV doc pm an (.ref cda) ct cc) (binds := [("self", .ref x), ("line", v), ("word", u)]) hroom (X _ _ ho) rfl hlim (codeRec_of X hcd) rfl (hb _ ⟨_, _, _, _, _, _, _, _, rfl⟩) ?_ ?_ (fun h1 hns kp => ?_)
  · show ∀ y ∈ [(("self" : Str), NameKind.local), (("line" : Str), .local), (("word" : Str), .local), (("__class__" : Str), .free), (("super" : Str), .globalImplicit)], y.2 ≠ .cell
    decide
  · intro y hy
    simp at hy
    rcases hy with rfl | rfl | rfl <;> rfl
  have kb1 : ∀ b o, base.get? b = some o → h1.get? b = some o := fun b o e => kp b o (kb b o e)
  have X1 : K.In h1 := M.kin.keeps kb1
  have hx1 := kp _ _ hx
  have neL : s.heap.objs.size ≠ x := Nat.ne_of_gt (Heap.lt_size hx)
  have mself : (fun y => List.lookup y [(("self" : Str), Value.ref x), (("line" : Str), v), (("word" : Str), u)].reverse) ("self" : Str) = some (.ref x) := rfl
  have mf : (fun y => List.lookup y [(("self" : Str), Value.ref x), (("line" : Str), v), (("word" : Str), u)].reverse) ("line" : Str) = some v := rfl
  have mg' : (fun y => List.lookup y [(("self" : Str), Value.ref x), (("line" : Str), v), (("word" : Str), u)].reverse) ("word" : Str) = some u := rfl
  refine ks_wpAt_execs_cons ?_
  obtain ⟨pl, he⟩ := SA.ev qual s.heap.objs.size cda cc
  refine sup_run (pl := pl) (s := { s with heap := h1, toks := s.toks + _ }) (t0 := t0) (ar := arg1 "self" pa) (us := [v, u]) (qual := qual) (cda := cda) (cc := cc) M kb1 hx1 rfl rfl rfl rfl (X1 _ _ ho) rfl rfl (X1 _ _ hcda) rfl hvs hfile ⟨_, X1 _ _ hcell, rfl⟩ T hns mself (by rw [sizeLine_eq]; show 2 ≤ _; decide) ?_ rfl ?_ he (SA.sw qual s.heap.objs.size cda cc) ?_
  · intro s1 Q1 k hQ
    have hns1 := hns.keeps k
    exact Calls.spliced_cons (ld_loc rfl rfl hns1 mf (Calls.spliced_cons (ld_loc rfl rfl hns1 mg' (Calls.spliced_nil hQ) (by decide))) (by decide))
  · intro f1 s1 Q1 h
    exact evalArgs_plain h
  · intro h2 t1 tk k2' hx2
    have kb2 : ∀ b o, base.get? b = some o → h2.get? b = some o := fun b o e => k2' b o (fun z => by rw [z, hnx] at e; cases e) (kb1 b o e)
    have X2 : K.In h2 := M.kin.keeps kb2
    have hns2 := ns_keep hns neL k2'
    refine wpAt_of_wpAny ?_
    refine wpAny_execs_cons (plainObj_wpAny_Assign_Attribute ?_)
    refine ld_loc rfl rfl hns2 mf (ld_loc rfl rfl hns2 mself ?_ (by decide)) (by decide)
    refine set_plain X2 (ox := PX.excO C t1) (od := none) ⟨hx2, rfl, rfl, trivial⟩ T.sa ?_
    refine PX.exc_osa X2 hx2 (clsIn_of hC) (show PX.refsVE (.ref C :: bm) = true from hbm) rfl hno (fun h3 tk3 dx k3' dn dne hx3 hn3 => ?_)
    show wpAny _ _ (execs _ _) _ _ _
    have z1 : s.heap.objs.size < h2.objs.size := hns2.lt
    have kb3 : ∀ b o, base.get? b = some o → h3.get? b = some o := fun b o e => k3' b o (fun z => by rw [z, hnx] at e; cases e) (kb2 b o e)
    have X3 : K.In h3 := M.kin.keeps kb3
    have hns3 := ns_keep hns2 neL k3'
    obtain ⟨oD, hoD⟩ : ∃ oD, h3.get? dx = some oD := by
      obtain ⟨o, _, _, e, _⟩ := hn3
      exact ⟨o, e⟩
    refine wpAny_execs_cons (plainObj_wpAny_Assign_Attribute ?_)
    refine ld_loc rfl rfl hns3 mg' (ld_loc rfl rfl hns3 mself ?_ (by decide)) (by decide)
    refine set_plain X3 (od := some oD) ⟨hx3, rfl, rfl, hoD⟩ T.sa ?_
    refine PX.osa_old X3 hx3 hn3 (Within.cons _ _ Within.nil) (by decide) (clsIn_of hC) (show PX.refsVE (.ref C :: bm) = true from hbm) rfl hno2 (fun h4 tk4 k4' hn4 => ?_)
    show wpAny _ _ (execs _ _) _ _ _
    refine wpAny_execs_nil (hq h4 tk4 dx t1 ⟨fun b o hb e => k4' b o ?_ (k3' b o hb (k2' b o hb (kp b o e))), k4' _ _ (Ne.symm dne) hx3, ?_, dne, hn4⟩)
    · intro z
      have a1 := Heap.lt_size e
      rw [z] at a1
      exact absurd (Nat.lt_of_lt_of_le (Nat.lt_trans a1 z1) dn) (Nat.lt_irrefl _)
    · exact Nat.le_of_lt (Nat.lt_of_lt_of_le z1 dn)
/-- __init__(self, what, most): super().__init__(what, most); self.what = what; self.most = most -/
theorem init_what_most {pa pb pc p0 p1 p2 p3 p4 pn pq q1 q2 q3 q4 r1 r2 r3 r4 : Pos} {x t0 : Addr} {v u : Value} {ar : Args}
    (T : ExK prog K mg C fI (iA [arg1 "self" pa, arg1 "what" pb, arg1 "most" pc]) [sup1 p0 p1 p2 p3 p4 [.Name "what" pn, .Name "most" pq], st1 "what" q1 q2 q3 q4, st1 "most" r1 r2 r3 r4] (iS [(("self" : Str), NameKind.local), (("what" : Str), .local), (("most" : Str), .local), (("__class__" : Str), .free), (("super" : Str), .globalImplicit)]))
    (hno : findIn K (.ref C) "what" = some none) (hno2 : findIn K (.ref C) "most" = some none)
    (SA : SupAt (iS [(("self" : Str), NameKind.local), (("what" : Str), .local), (("most" : Str), .local), (("__class__" : Str), .free), (("super" : Str), .globalImplicit)]) fI p0 p1 p2 p3 p4 [.Name "what" pn, .Name "most" pq])
    (M : L2.Mod K mg base) (kb : ∀ b o, base.get? b = some o → s.heap.get? b = some o) (hlim : s.heap.NoLimit) (hx : s.heap.get? x = some (PX.excO C t0)) (hnx : base.get? x = none) (hroom : A.depth < recursionLimit)
    (hb : ∀ fd : FuncData, (∃ qual kV doc pm an cd ct cc, fd = ksFn "__init__" qual (iA [arg1 "self" pa, arg1 "what" pb, arg1 "most" pc]) [sup1 p0 p1 p2 p3 p4 [.Name "what" pn, .Name "most" pq], st1 "what" q1 q2 q3 q4, st1 "most" r1 r2 r3 r4] (iS [(("self" : Str), NameKind.local), (("what" : Str), .local), (("most" : Str), .local), (("__class__" : Str), .free), (("super" : Str), .globalImplicit)]) .none kV doc pm an cd ct cc) → BindsTo s fd ar [("self", .ref x), ("what", v), ("most", u)])
    (hq : ∀ h' tk dx t1, InitEnd s.heap h' x C dx t1 (fun y => if y = ("most" : Str) then some u else if y = ("what" : Str) then some v else none) → R (.ok (.ret .none)) { s with heap := h', toks := tk }) :
    codeAny (model prog w) A (.call (.ref fI) ar) R s := by
  obtain ⟨oc, od, osl, qual, kV, doc, pm, an, cda, ct, cc, ccl, cdd, vs, ccs, file, tf, cl, cld, csl, ho, hcd, hcda, hvs, hfile, hcell⟩ := T.fn
  obtain ⟨nm, q, N, bs, bm, sn, sub, ab, col, dd, k0, k1, k2, k3, k5, hC, hbm⟩ := T.cls
  have X : K.In s.heap := M.kin.keeps kb
  refine ks_codeAny_call_defAt (fd := ksFn "__init__" qual _ _ _ .none kV doc pm an (.ref cda) ct cc) (binds := [("self", .ref x), ("what", v), ("most", u)]) hroom (X _ _ ho) rfl hlim (codeRec_of X hcd) rfl (hb _ ⟨_, _, _, _, _, _, _, _, rfl⟩) ?_ ?_ (fun h1 hns kp => ?_)
  · show ∀ y ∈ [(("self" : Str), NameKind.local), (("what" : Str), .local), (("most" : Str), .local), (("__class__" : Str), .free), (("super" : Str), .globalImplicit)], y.2 ≠ .cell
    decide
  · intro y hy
    simp at hy
    rcases hy with rfl | rfl | rfl <;> rfl
  have kb1 : ∀ b o, base.get? b = some o → h1.get? b = some o := fun b o e => kp b o (kb b o e)
  have X1 : K.In h1 := M.kin.keeps kb1
  have hx1 := kp _ _ hx
  have neL : s.heap.objs.size ≠ x := Nat.ne_of_gt (Heap.lt_size hx)
  have mself : (fun y => List.lookup y [(("self" : Str), Value.ref x), (("what" : Str), v), (("most" : Str), u)].reverse) ("self" : Str) = some (.ref x) := rfl
  have mf : (fun y => List.lookup y [(("self" : Str), Value.ref x), (("what" : Str), v), (("most" : Str), u)].reverse) ("what" : Str) = some v := rfl
  have mg' : (fun y => List.lookup y [(("self" : Str), Value.ref x), (("what" : Str), v), (("most" : Str), u)].reverse) ("most" : Str) = some u := rfl
  refine ks_wpAt_execs_cons ?_
  obtain ⟨pl, he⟩ := SA.ev qual s.heap.objs.size cda cc
  refine sup_run (pl := pl) (s := { s with heap := h1, toks := s.toks + _ }) (t0 := t0) (ar := arg1 "self" pa) (us := [v, u]) (qual := qual) (cda := cda) (cc := cc) M kb1 hx1 rfl rfl rfl rfl (X1 _ _ ho) rfl rfl (X1 _ _ hcda) rfl hvs hfile ⟨_, X1 _ _ hcell, rfl⟩ T hns mself (by rw [sizeLine_eq]; show 2 ≤ _; decide) ?_ rfl ?_ he (SA.sw qual s.heap.objs.size cda cc) ?_
  · intro s1 Q1 k hQ
    have hns1 := hns.keeps k
    exact Calls.spliced_cons (ld_loc rfl rfl hns1 mf (Calls.spliced_cons (ld_loc rfl rfl hns1 mg' (Calls.spliced_nil hQ) (by decide))) (by decide))
  · intro f1 s1 Q1 h
    exact evalArgs_plain h
  · intro h2 t1 tk k2' hx2
    have kb2 : ∀ b o, base.get? b = some o → h2.get? b = some o := fun b o e => k2' b o (fun z => by rw [z, hnx] at e; cases e) (kb1 b o e)
    have X2 : K.In h2 := M.kin.keeps kb2
    have hns2 := ns_keep hns neL k2'
    refine wpAt_of_wpAny ?_
    refine wpAny_execs_cons (plainObj_wpAny_Assign_Attribute ?_)
    refine ld_loc rfl rfl hns2 mf (ld_loc rfl rfl hns2 mself ?_ (by decide)) (by decide)
    refine set_plain X2 (ox := PX.excO C t1) (od := none) ⟨hx2, rfl, rfl, trivial⟩ T.sa ?_
    refine PX.exc_osa X2 hx2 (clsIn_of hC) (show PX.refsVE (.ref C :: bm) = true from hbm) rfl hno (fun h3 tk3 dx k3' dn dne hx3 hn3 => ?_)
    show wpAny _ _ (execs _ _) _ _ _
    have z1 : s.heap.objs.size < h2.objs.size := hns2.lt
    have kb3 : ∀ b o, base.get? b = some o → h3.get? b = some o := fun b o e => k3' b o (fun z => by rw [z, hnx] at e; cases e) (kb2 b o e)
    have X3 : K.In h3 := M.kin.keeps kb3
    have hns3 := ns_keep hns2 neL k3'
    obtain ⟨oD, hoD⟩ : ∃ oD, h3.get? dx = some oD := by
      obtain ⟨o, _, _, e, _⟩ := hn3
      exact ⟨o, e⟩
    refine wpAny_execs_cons (plainObj_wpAny_Assign_Attribute ?_)
    refine ld_loc rfl rfl hns3 mg' (ld_loc rfl rfl hns3 mself ?_ (by decide)) (by decide)
    refine set_plain X3 (od := some oD) ⟨hx3, rfl, rfl, hoD⟩ T.sa ?_
    refine PX.osa_old X3 hx3 hn3 (Within.cons _ _ Within.nil) (by decide) (clsIn_of hC) (show PX.refsVE (.ref C :: bm) = true from hbm) rfl hno2 (fun h4 tk4 k4' hn4 => ?_)
    show wpAny _ _ (execs _ _) _ _ _
    refine wpAny_execs_nil (hq h4 tk4 dx t1 ⟨fun b o hb e => k4' b o ?_ (k3' b o hb (k2' b o hb (kp b o e))), k4' _ _ (Ne.symm dne) hx3, ?_, dne, hn4⟩)
    · intro z
      have a1 := Heap.lt_size e
      rw [z] at a1
      exact absurd (Nat.lt_of_lt_of_le (Nat.lt_trans a1 z1) dn) (Nat.lt_irrefl _)
    · exact Nat.le_of_lt (Nat.lt_of_lt_of_le z1 dn)
end
end AzX

namespace AzX
open PySem PySem.W PySem.Calls PyProof.Rows PySem.PX
section
variable {prog : Program} {w : World} {M : Model} {A : Around} {E : Value → Shared → Prop} {R : Result → Shared → Prop} {h : Heap} {g : Array GenState} {d : Drawn} {t : Nat} {os : OsState}
variable {nm q : Str} {C N : Addr} {bs bm bmB : List Value} {hdct : Bool} {sn : List Str} {sub : List Value} {ab : Bool} {col : Option Bool} {dd : Option Addr} {k0 k1 k2 k3 k5 : Option Value} {B newId initId : String} {f : Str} {v : Value} {kw : List (Str × Value)}
theorem check_new_kw (F : ExcBaseFacts B newId initId bmB) (hT : ∀ X : String, bm.contains (.type X) = bmB.contains (.type X)) {rest : List Value} {Q : Unit → Shared → Prop}
    (hC : h.get? C = some (excClassObj nm q C N bs bm hdct sn sub ab col dd k0 k1 k2 k3 k5 newId)) (hq : Q () ⟨h, g, d, t, os⟩) : wpAny M A (checkBuiltinCall newId ⟨.ref C :: rest, kw⟩) Q E ⟨h, g, d, t, os⟩ := by
  have hcont : (Value.ref C :: bm).contains (.type B) = true := by rw [List.contains_cons, hT, F.hasB, Bool.or_true]
  have hstar := F.noStar
  simp only [checkBuiltinCall, F.newKind, F.newSplit, F.newRow]
  repeat (first | refine wpAny_loadPart_at hC ?_ | (refine wpAny_isSubtype_exc hC ?_; rw [hcont]) | refine wpAny_staticBase_exc hC ?_ | refine wpAny_madeBy_exc hC ?_ | simp only [bne_self_eq_false, Bool.false_eq_true, if_false] | wp_step)
  exact hq
theorem new_kw (F : ExcBaseFacts B newId initId bmB) (hT : ∀ X : String, bm.contains (.type X) = bmB.contains (.type X)) {rest : List Value}
    (hC : h.get? C = some (excClassObj nm q C N bs bm hdct sn sub ab col dd k0 k1 k2 k3 k5 newId))
    (hq : R (.ok (.ret (.ref (h.objs.size + 1)))) ⟨(h.push { cls := .type "tuple", data := .seq rest.toArray }).push
      { cls := .ref C, data := .fields #[.ref h.objs.size, .none, .none, .none, .bool false, .none] }, g, d, t, os⟩) (hrest : rest.length ≤ sizeLine) :
    codeAny (model prog w) A (.builtin newId ⟨.ref C :: rest, kw⟩) R ⟨h, g, d, t, os⟩ := by
  have hends := F.ends
  have hcB : (Value.ref C :: bm).contains (.type B) = true := by rw [List.contains_cons, hT, F.hasB, Bool.or_true]
  have hcA : (Value.ref C :: bm).contains (.type "AttributeError") = false := by rw [List.contains_cons, hT, F.noAttr]; rfl
  have hcN : (Value.ref C :: bm).contains (.type "NameError") = false := by rw [List.contains_cons, hT, F.noName]; rfl
  refine codeAny_builtinAt F.entry ?_
  unfold Builtin.«BaseException.__new__»
  refine _root_.PySem.wpAt_bind ?_
  show _root_.PySem.wpAt _ _ _ (stack >>= _) _ _ _
  refine _root_.PySem.wpAt_bind (_root_.PySem.wpAt_stack fun p below => _root_.PySem.wpAt_of_wpAny ?_)
  wp_walk
  refine _root_.PySem.wpAt_of_wpAny ?_
  rw [F.owner]
  repeat (first | with_reducible refine wpAny_madeHere_exc F.canon hC ?_ | with_reducible refine wpAny_loadPart_at hC ?_ | (with_reducible refine wpAny_isSubtype_exc hC ?_; first | rw [hcB] | rw [hcA] | rw [hcN]) | wp_step)
  show R _ _
  rw [Heap.size_push]
  exact hq
theorem type_call_kw (F : ExcBaseFacts B newId initId bmB) (hT : ∀ X : String, bm.contains (.type X) = bmB.contains (.type X)) {rest : List Value} {fI : Addr} {Q : Fin → Shared → Prop}
    (hC : h.get? C = some (excClassObj nm q C N bs bm hdct sn sub ab col dd k0 k1 k2 k3 k5 newId))
    (hi : W.Looks (model prog w) h (typeLookup (.ref C) "__init__") (some (.ref fI))) (hb : ∀ self, W.Looks (model prog w) h (bindSpecial (.ref fI) self) (.ref fI, [self])) (hrest : rest.length ≤ sizeLine)
    (hq : codeAny (model prog w) A (.call (.ref fI) ⟨.ref (h.objs.size + 1) :: rest, kw⟩)
      (fun r s' => match r with | .ok (.ret v) => v = .none ∧ Q (.done (.ret (.ref (h.objs.size + 1)))) s' | .ok _ => False | .error e => E e s')
      ⟨(h.push (W.kdv_tup rest)).push (excO C h.objs.size), g, d, t, os⟩) :
    wpAny (model prog w) A (Builtin.«type.__call__» ⟨.ref C :: rest, kw⟩) Q E ⟨h, g, d, t, os⟩ := by
  repeat (first | with_reducible refine wpAny_loadPart_at hC ?_ | with_reducible refine wpAny_madeBy_exc hC ?_ | wp_step)
  refine codeAny_call_builtin_code (Code.quiet_builtin _ F.quiet) (check_new_kw F hT hC ?_)
  refine new_kw F hT hC ?_ hrest
  show wpAny _ _ _ _ _ _
  have k : ∀ b o, h.get? b = some o → ((h.push (W.kdv_tup rest)).push (excO C h.objs.size)).get? b = some o := fun b o e => Heap.get?_push_of_some _ (Heap.get?_push_of_some _ e)
  have hC₁ := k _ _ hC
  have hget : ((h.push (W.kdv_tup rest)).push (excO C h.objs.size)).get? (h.objs.size + 1) = some (excO C h.objs.size) := by heap_get
  have hcC : (Value.ref C :: bm).contains (.ref C) = true := by simp
  have i1 := hi.keeps k
  have b1 := (hb (.ref (h.objs.size + 1))).keeps k
  unfold isInstance
  repeat (first | with_reducible refine wpAny_loadPart_at hget ?_ | (with_reducible refine wpAny_isSubtype_exc hC₁ ?_; rw [hcC]) | wp_step)
  show wpAny _ _ (typeLookup (.ref C) _) _ _ _
  refine i1.at ?_
  refine wpAny_holding (wpAny_bind (b1.at ?_))
  refine wpAny_bind (wpAny_call (codeAny_mono hq fun r s' z => ?_))
  rcases r with e | (v | _ | _ | _) <;> first | exact z | exact z.elim | skip
  obtain ⟨rfl, z⟩ := z
  first
    | exact wpAny_pure (wpAny_pure z)
    | (wp_walk; exact z)
theorem call_kw (F : ExcBaseFacts B newId initId bmB) (hT : ∀ X : String, bm.contains (.type X) = bmB.contains (.type X)) {rest : List Value} {fI : Addr}
    (hC : h.get? C = some (excClassObj nm q C N bs bm hdct sn sub ab col dd k0 k1 k2 k3 k5 newId))
    (hi : W.Looks (model prog w) h (typeLookup (.ref C) "__init__") (some (.ref fI))) (hb : ∀ self, W.Looks (model prog w) h (bindSpecial (.ref fI) self) (.ref fI, [self])) (hrest : rest.length ≤ sizeLine)
    (hq : codeAny (model prog w) (A.under (.builtin "type.__call__" ⟨.ref C :: rest, kw⟩)) (.call (.ref fI) ⟨.ref (h.objs.size + 1) :: rest, kw⟩) (W.InitBack (h.objs.size + 1) R)
      ⟨(h.push (W.kdv_tup rest)).push (excO C h.objs.size), g, d, t, os⟩) :
    codeAny (model prog w) A (.call (.ref C) ⟨rest, kw⟩) R ⟨h, g, d, t, os⟩ := by
  have f1 := tc_lookup
  have f2 := tc_bind (.ref C)
  have hTy : (⟨h, g, d, t, os⟩ : Shared).TypeIs (.ref C) "type" := ⟨_, hC, rfl⟩
  refine codeAny_of_tree ?_
  show wpAny _ _ (callAny (.ref C) _) _ _ _
  repeat (any_goals (first | assumption | with_reducible refine wpAny_loadPart_at hC ?_ | wp_step))
  refine ⟨rfl, ?_⟩
  refine codeAny_call_builtin_at (Code.quiet_builtin _ (by decide +kernel)) entry_typeCall (wpAny_check_type_call_sub hC (type_call_kw F hT hC hi hb hrest ?_))
  refine codeAny_mono hq fun r s' z => ?_
  rcases r with e | (v | _ | _ | _) <;> exact z
end
end AzX

namespace AzX
open PySem PySem.W PySem.Calls PyProof.Rows
/-- what an __init__ that stores nothing leaves -/
structure InitEnd0 (h h' : Heap) (x C t1 : Addr) : Prop where
  keep : ∀ b o, b ≠ x → h.get? b = some o → h'.get? b = some o
  obj : h'.get? x = some (PX.excO C t1)
structure OwnMade0 (h h' : Heap) (e C : Addr) : Prop where
  keep : ∀ b o, h.get? b = some o → h'.get? b = some o
  new : h.objs.size ≤ e
  obj : ∃ t1, h'.get? e = some (PX.excO C t1)
def Makes0 (P : Program) (w : World) (K : Frag) (mg : Str → Option Value) (base : Heap) (C : Addr) (ar : Args) : Prop :=
  ∀ (A : Around) (s : Shared) (R : Result → Shared → Prop), L2.Mod K mg base → (∀ b o, base.get? b = some o → s.heap.get? b = some o) → base.objs.size ≤ s.heap.objs.size → s.heap.NoLimit → A.depth + 1 < recursionLimit →
    (∀ h' tk e, OwnMade0 s.heap h' e C → R (.ok (.ret (.ref e))) { s with heap := h', toks := tk }) → codeAny (model P w) A (.call (.ref C) ar) R s
section
variable {prog : Program} {w : World} {A : Around} {E : Value → Shared → Prop} {R : Result → Shared → Prop} {s : Shared} {K : Frag} {mg : Str → Option Value} {base : Heap} {C fI : Addr}
theorem evalArgs_nilS {M : Model} {f : Value} {Q : Args → Shared → Prop} (h : wpAny M A (spliced []) (fun vs s' => Q ⟨vs, []⟩ s') E s) : wpAny M A (evalArgs f true [] []) Q E s := by
  unfold evalArgs
  show wpAny M A (spliced [] >>= _) Q E s
  refine wpAny_bind (wpAny_mono h (fun vs s' h' => ?_) fun _ _ x => x)
  refine wpAny_bind (wpAny_pure ?_)
  refine wpAny_holding ?_
  exact wpAny_bind (wpAny_pure (wpAny_bind (wpAny_pure (wpAny_pure h'))))
/-- __init__(self): super().__init__() -/
theorem init0 {pa p0 p1 p2 p3 p4 : Pos} {x t0 : Addr} {ar : Args}
    (T : ExK prog K mg C fI (iA [arg1 "self" pa]) [sup1 p0 p1 p2 p3 p4 []] (iS [("self", .local), ("__class__", .free), ("super", .globalImplicit)]))
    (SA : SupAt (iS [("self", .local), ("__class__", .free), ("super", .globalImplicit)]) fI p0 p1 p2 p3 p4 [])
    (M : L2.Mod K mg base) (kb : ∀ b o, base.get? b = some o → s.heap.get? b = some o) (hlim : s.heap.NoLimit) (hx : s.heap.get? x = some (PX.excO C t0)) (hroom : A.depth < recursionLimit)
    (hb : ∀ fd : FuncData, (∃ qual kV doc pm an cd ct cc, fd = ksFn "__init__" qual (iA [arg1 "self" pa]) [sup1 p0 p1 p2 p3 p4 []] (iS [("self", .local), ("__class__", .free), ("super", .globalImplicit)]) .none kV doc pm an cd ct cc) → BindsTo s fd ar [("self", .ref x)])
    (hq : ∀ h' tk t1, InitEnd0 s.heap h' x C t1 → R (.ok (.ret .none)) { s with heap := h', toks := tk }) :
    codeAny (model prog w) A (.call (.ref fI) ar) R s := by
  obtain ⟨oc, od, osl, qual, kV, doc, pm, an, cda, ct, cc, ccl, cdd, vs, ccs, file, tf, cl, cld, csl, ho, hcd, hcda, hvs, hfile, hcell⟩ := T.fn
  have X : K.In s.heap := M.kin.keeps kb
  have lkc : List.lookup ("__class__" : Str) [(("self" : Str), NameKind.local), ("__class__", .free), ("super", .globalImplicit)] = some .free := by decide +kernel
  have lks : List.lookup ("super" : Str) [(("self" : Str), NameKind.local), ("__class__", .free), ("super", .globalImplicit)] = some .globalImplicit := by decide +kernel
  refine ks_codeAny_call_defAt (fd := ksFn "__init__" qual _ _ _ .none kV doc pm an (.ref cda) ct cc) (binds := [("self", .ref x)]) hroom (X _ _ ho) rfl hlim (codeRec_of X hcd) rfl (hb _ ⟨_, _, _, _, _, _, _, _, rfl⟩) ?_ ?_ (fun h1 hns kp => ?_)
  · intro y hy
    simp at hy
    rcases hy with rfl | rfl | rfl <;> simp
  · intro y hy
    simp at hy
    rcases hy with rfl
    rfl
  have kb1 : ∀ b o, base.get? b = some o → h1.get? b = some o := fun b o e => kp b o (kb b o e)
  have X1 : K.In h1 := M.kin.keeps kb1
  have hx1 := kp _ _ hx
  have mself : (fun y => List.lookup y [(("self" : Str), Value.ref x)].reverse) ("self" : Str) = some (.ref x) := by
    show List.lookup ("self" : Str) [(("self" : Str), Value.ref x)] = some (.ref x)
    rfl
  refine ks_wpAt_execs_cons ?_
  obtain ⟨pl, he⟩ := SA.ev qual s.heap.objs.size cda cc
  refine sup_run (pl := pl) (s := { s with heap := h1, toks := s.toks + _ }) (t0 := t0) (ar := arg1 "self" pa) (us := []) (qual := qual) (cda := cda) (cc := cc) M kb1 hx1 lks lkc rfl rfl (X1 _ _ ho) rfl rfl (X1 _ _ hcda) rfl hvs hfile ⟨_, X1 _ _ hcell, rfl⟩ T hns mself (by rw [sizeLine_eq]; show 0 ≤ _; decide) ?_ rfl ?_ he (SA.sw qual s.heap.objs.size cda cc) ?_
  · intro s1 Q1 k hQ
    exact Calls.spliced_nil hQ
  · intro f1 s1 Q1 h
    exact evalArgs_nilS h
  · intro h2 t1 tk k2' hx2
    refine wpAt_of_wpAny ?_
    show wpAny _ _ (execs _ _) _ _ _
    exact wpAny_execs_nil (hq h2 tk t1 ⟨fun b o hb e => k2' b o hb (kp b o e), hx2⟩)
end
section
variable {prog : Program} {w : World} {K : Frag} {mg : Str → Option Value} {base : Heap} {C fI : Addr} {params : Arguments} {body : List Stmt} {scope : Scope}
def Inits0 (P : Program) (w : World) (K : Frag) (mg : Str → Option Value) (base : Heap) (C fI : Addr) (us : List Value) (kw : List (Str × Value)) : Prop :=
  ∀ (A : Around) (s : Shared) (R : Result → Shared → Prop) (x t0 : Addr), L2.Mod K mg base → (∀ b o, base.get? b = some o → s.heap.get? b = some o) → s.heap.NoLimit → s.heap.get? x = some (PX.excO C t0) → base.get? x = none → A.depth < recursionLimit →
    (∀ h' tk t1, InitEnd0 s.heap h' x C t1 → R (.ok (.ret .none)) { s with heap := h', toks := tk }) → codeAny (model P w) A (.call (.ref fI) ⟨.ref x :: us, kw⟩) R s
theorem makes_of0 (T : ExK prog K mg C fI params body scope) {us : List Value} {kw : List (Str × Value)} (hz : us.length ≤ sizeLine) (I : Inits0 prog w K mg base C fI us kw) : Makes0 prog w K mg base C ⟨us, kw⟩ := by
  intro A s R M kb hbs hlim hroom hq
  obtain ⟨nm, q, N, bs, bm, sn, sub, ab, col, dd, k0, k1, k2, k3, k5, hC, hbm⟩ := T.cls
  have X : K.In s.heap := M.kin.keeps kb
  obtain ⟨hp, g, dr, tk, os⟩ := s
  have k : ∀ b o, hp.get? b = some o → ((hp.push (kdv_tup us)).push (PX.excO C hp.objs.size)).get? b = some o := fun b o e => Heap.get?_push_of_some _ (Heap.get?_push_of_some _ e)
  have hget : ((hp.push (kdv_tup us)).push (PX.excO C hp.objs.size)).get? (hp.objs.size + 1) = some (PX.excO C hp.objs.size) := by heap_get
  have hnx : base.get? (hp.objs.size + 1) = none := Heap.get?_none_of_le (Nat.le_trans hbs (Nat.le_succ _))
  refine call_kw F.excBase_ValueError (fun X => PX.refsVE_contains X bm hbm) (X _ _ hC) (looks_findIn X T.iC) (fun self => bind_fn X self T.tC) hz ?_
  refine I _ ⟨(hp.push (kdv_tup us)).push (PX.excO C hp.objs.size), g, dr, tk, os⟩ _ _ _ M (fun b o e => k b o (kb b o e)) (hlim.keeps k) hget hnx ?_ fun h' tk' t1 IE => ?_
  · show A.depth + 1 < recursionLimit
    exact hroom
  · have old : ∀ b o, hp.get? b = some o → h'.get? b = some o := fun b o e => IE.keep b o (Nat.ne_of_lt (Nat.lt_succ_of_lt (Heap.lt_size e))) (k b o e)
    exact ⟨rfl, hq h' tk' (hp.objs.size + 1) ⟨old, Nat.le_succ _, t1, IE.obj⟩⟩
end
end AzX

namespace AzX
open PySem PySem.W PySem.Calls PyProof.Rows
/-- a made exception -/
structure OwnMade (h h' : Heap) (e C d : Addr) (m : Str → Option Value) : Prop where
  keep : ∀ b o, h.get? b = some o → h'.get? b = some o
  new : h.objs.size ≤ e
  obj : ∃ t1, h'.get? e = some { cls := .ref C, dict := some d, data := .fields #[.ref t1, .none, .none, .none, .bool false, .none] }
  dbig : h.objs.size ≤ d
  dne : d ≠ e
  ns : h'.Ns1 d m
/-- C(vs), by place: what comes of it (m: its fields) -/
def Makes (P : Program) (w : World) (K : Frag) (mg : Str → Option Value) (base : Heap) (C : Addr) (ar : Args) (m : Str → Option Value) : Prop :=
  ∀ (A : Around) (s : Shared) (R : Result → Shared → Prop), L2.Mod K mg base → (∀ b o, base.get? b = some o → s.heap.get? b = some o) → base.objs.size ≤ s.heap.objs.size → s.heap.NoLimit → A.depth + 1 < recursionLimit →
    (∀ h' tk e d, OwnMade s.heap h' e C d m → R (.ok (.ret (.ref e))) { s with heap := h', toks := tk }) → codeAny (model P w) A (.call (.ref C) ar) R s
section
variable {prog : Program} {w : World} {K : Frag} {mg : Str → Option Value} {base : Heap} {C fI : Addr} {params : Arguments} {body : List Stmt} {scope : Scope}
/-- what __init__ must do with the new object -/
def Inits (P : Program) (w : World) (K : Frag) (mg : Str → Option Value) (base : Heap) (C fI : Addr) (us : List Value) (kw : List (Str × Value)) (m : Str → Option Value) : Prop :=
  ∀ (A : Around) (s : Shared) (R : Result → Shared → Prop) (x t0 : Addr), L2.Mod K mg base → (∀ b o, base.get? b = some o → s.heap.get? b = some o) → s.heap.NoLimit → s.heap.get? x = some (PX.excO C t0) → base.get? x = none → A.depth < recursionLimit →
    (∀ h' tk dx t1, InitEnd s.heap h' x C dx t1 m → R (.ok (.ret .none)) { s with heap := h', toks := tk }) → codeAny (model P w) A (.call (.ref fI) ⟨.ref x :: us, kw⟩) R s
theorem makes_of (T : ExK prog K mg C fI params body scope) {us : List Value} {kw : List (Str × Value)} {m : Str → Option Value} (hz : us.length ≤ sizeLine) (I : Inits prog w K mg base C fI us kw m) : Makes prog w K mg base C ⟨us, kw⟩ m := by
  intro A s R M kb hbs hlim hroom hq
  obtain ⟨nm, q, N, bs, bm, sn, sub, ab, col, dd, k0, k1, k2, k3, k5, hC, hbm⟩ := T.cls
  have X : K.In s.heap := M.kin.keeps kb
  obtain ⟨hp, g, dr, tk, os⟩ := s
  have k : ∀ b o, hp.get? b = some o → ((hp.push (kdv_tup us)).push (PX.excO C hp.objs.size)).get? b = some o := fun b o e => Heap.get?_push_of_some _ (Heap.get?_push_of_some _ e)
  have hget : ((hp.push (kdv_tup us)).push (PX.excO C hp.objs.size)).get? (hp.objs.size + 1) = some (PX.excO C hp.objs.size) := by heap_get
  have hnx : base.get? (hp.objs.size + 1) = none := Heap.get?_none_of_le (Nat.le_trans hbs (Nat.le_succ _))
  refine call_kw F.excBase_ValueError (fun X => PX.refsVE_contains X bm hbm) (X _ _ hC) (looks_findIn X T.iC) (fun self => bind_fn X self T.tC) hz ?_
  refine I _ ⟨(hp.push (kdv_tup us)).push (PX.excO C hp.objs.size), g, dr, tk, os⟩ _ _ _ M (fun b o e => k b o (kb b o e)) (hlim.keeps k) hget hnx ?_ fun h' tk' dx t1 IE => ?_
  · show A.depth + 1 < recursionLimit
    exact hroom
  · have old : ∀ b o, hp.get? b = some o → h'.get? b = some o := fun b o e => IE.keep b o (Nat.ne_of_lt (Nat.lt_succ_of_lt (Heap.lt_size e))) (k b o e)
    have z : hp.objs.size + 1 + 1 ≤ dx := by
      have dn := IE.dbig
      first
        | (simpa only [Heap.size_push] using dn)
        | exact dn
        | (have q := dn; rw [Heap.size_push, Heap.size_push] at q; exact q)
    exact ⟨rfl, hq h' tk' (hp.objs.size + 1) dx ⟨old, Nat.le_succ _, ⟨t1, IE.obj⟩, Nat.le_trans (Nat.le_trans (Nat.le_succ _) (Nat.le_succ _)) z, IE.dne, IE.ns⟩⟩
end
end AzX

/-! Own exceptions as values: made, their fields read, isinstance of them. -/
namespace Az
open PySem PySem.Spec PyProof.Rows L2 AzX
/-- at e: an exception of the class cls, its own dict d -/
def ExG (cls : Value) (d : Option Addr) (e : Addr) : HO := .ext fun h => ∃ (oe : Obj) (fv : Array Value), h.get? e = some oe ∧ oe.cls = cls ∧ oe.dict = d ∧ oe.data = .fields fv
abbrev ExO (C d e : Addr) : HO := ExG (.ref C) (some d) e
/-- .. that stores nothing -/
abbrev ExN (C e : Addr) : HO := ExG (.ref C) none e
theorem exG_ok {P : Program} {w : World} {H : Hp} {h : Heap} {cls : Value} {d : Option Addr} {e : Addr} {oe : Obj} {fv : Array Value} (he : h.get? e = some oe) (hc : oe.cls = cls) (hd : oe.dict = d) (hf : oe.data = .fields fv) : ObjOk P w H h e (ExG cls d e) :=
  ⟨⟨oe, fv, he, hc, hd, hf⟩, ⟨_, he⟩, fun _ _ ⟨oe, fv, a, b, c, d⟩ st => ⟨oe, fv, st _ a, b, c, d⟩⟩
theorem exG_at {P : Program} {w : World} {H : Hp} {h : Heap} {cls : Value} {d : Option Addr} {e : Addr} (x : HOk P w H h) (he : H e = some (ExG cls d e)) : ∃ (oe : Obj) (fv : Array Value), h.get? e = some oe ∧ oe.cls = cls ∧ oe.dict = d ∧ oe.data = .fields fv := (x e _ he).1
/-- the fields by their values -/
def mOf (fs : List Str) (us : List Value) : Str → Option Value := fun y => (fs.zip us).lookup y
/-- at a: an exception of the class at D -/
inductive IsX (H : Hp) (a D : Addr) : Prop
  | dict {d : Addr} {fs : List (Str × V)} (h : H a = some (ExO D d a)) (hd : H d = some (.xd fs)) : IsX H a D
  | bare (h : H a = some (ExN D a)) : IsX H a D
theorem IsX.mono {H H' : Hp} {a D : Addr} (x : IsX H a D) (s : Same H H') : IsX H' a D := by
  cases x with
  | dict h hd => exact .dict (s _ _ h) (s _ _ hd)
  | bare h => exact .bare (s _ _ h)
theorem IsX.new {H : Hp} {a D p : Addr} {o : HO} (hp : H p = none) (x : IsX H a D) : IsX (upd H p o) a D := x.mono (same_new (Same.refl H) hp)
theorem rel_zip : ∀ {fs : List Str} {xs : List V} {us : List Value}, Vals xs us → ∀ y, RelO ((fs.zip xs).lookup y) ((fs.zip us).lookup y)
  | [], _, _, _, _ => trivial
  | _ :: _, _, _, .nil, _ => trivial
  | f :: fs, x :: xs, u :: us, .cons r t, y => by
    show RelO (List.lookup y ((f, x) :: fs.zip xs)) (List.lookup y ((f, u) :: fs.zip us))
    by_cases e : (y == f) = true
    · simp only [List.lookup, e]
      exact r
    · simp only [List.lookup, Bool.not_eq_true _ ▸ e]
      exact rel_zip t y
/-- a new exception as a value -/
def kEx (C : Addr) (fvs : List (Str × V)) (H : Hp) (Q : VK) : Prop := ∀ e d, H e = none → H d = none → d ≠ e → Q (.ref e) (upd (upd H d (.xd fvs)) e (ExO C d e))
section
variable {X : Cx} {pins : List (Addr × Obj)} {σ : L2.St} {H : Hp} {s : Shared}
theorem run_mk {C : Addr} {fs : List Str} {xs : List V} {us : List Value} {ar : Args} {k : Nat} {Q : VK} (I : Inv X pins σ H s) (hr : Room k X.A) (mk : Makes X.prog X.w X.K X.mg X.base C ar (mOf fs us)) (r : Vals xs us) (h : kEx C (fs.zip xs) H Q) :
    wpAny (model X.prog X.w) X.A (call (.ref C) ar.pos ar.kw) (EP X pins σ Q) X.xe s := by
  have sz : X.base.objs.size ≤ s.heap.objs.size := Nat.le_trans I.ok.bsz I.sz
  have hlim := I.nolimit
  have kb := I.bk
  obtain ⟨hp, g, dr, tk, os⟩ := s
  refine wpAny_call (mk X.A _ _ I.mod kb sz hlim (by have := hr.dp; omega) fun h' tk' e d M => ?_)
  show EP X pins σ Q (.ref e) ⟨h', g, dr, tk', os⟩
  obtain ⟨t1, hoe⟩ := M.obj
  have hns := M.ns
  have nd : H d = none := I.hok.fresh M.dbig
  have ne : H e = none := I.hok.fresh M.new
  -- the dict is laid first, in the heap without e
  obtain ⟨G', g1, g2⟩ := restrict h' fun b => decide (b ≠ e)
  have gk : ∀ b, b ≠ e → G'.get? b = h'.get? b := fun b hb => g1 b (decide_eq_true hb)
  have ge : G'.get? e = none := g2 e (by simp)
  have old : ∀ b o, hp.get? b = some o → G'.get? b = some o := fun b o q => (gk b (Nat.ne_of_lt (Nat.lt_of_lt_of_le (Heap.lt_size q) M.new))).trans (M.keep b o q)
  have ob : ObjOk X.prog X.w (upd H d (.xd (fs.zip xs))) G' d (.xd (fs.zip xs)) := ⟨_, hns.at (fun o q => (gk d M.dne).trans q), fun f => rel_zip r f⟩
  have J : Inv X pins σ (upd H d (.xd (fs.zip xs))) ⟨G', g, dr, tk', os⟩ := I.laid (t' := tk') old M.dbig ob
  have k2 : ∀ b o, G'.get? b = some o → h'.get? b = some o := fun b o q => by
    by_cases hb : b = e
    · rw [hb, ge] at q; cases q
    · exact (gk b hb).symm.trans q
  have J2 := L2.Inv.laidN (o := ExO C d e) (t' := tk') J k2 ge (by rw [upd_ne (Ne.symm M.dne)]; exact ne) (exG_ok hoe rfl rfl rfl)
  exact ⟨.ref e, _, J2, rfl, h e d ne nd M.dne⟩
end
section
variable {X : Cx} {C : Addr} {fs : List Str} {k : Nat} {x : Str} {p pos : Pos} {e : Expr} {es : List Expr} {kws : List Keyword} {t tk : TA}
def rEx (C : Addr) (fs : List Str) : List V → Hp → VK → Prop := fun xs H Q => xs.length = fs.length ∧ kEx C (fs.zip xs) H Q
/-- C(e, ..), an exception as a value -/
theorem pe_ex (mk : ∀ us : List Value, us.length = fs.length → Makes X.prog X.w X.K X.mg X.base C ⟨us, []⟩ (mOf fs us)) (hr : Room k X.A) (hg : Gl X x) (hm : X.mg x = some (.ref C)) (hk : PySem.W.keepIn X.K (.ref C) = true) (ha : PA X (e :: es) t)
    (hdb : (x == ("__debug__" : Str)) = false := by decide) (he : starEach (e :: es) X.env = (false, eval e X.env) :: starEach es X.env := by rfl) (hpl : (backTo pos (starEach es X.env)).any (·.1) = false := by rfl) :
    PE X (.Call (.Name x p) (e :: es) [] pos) (tCB (rEx C fs) t) := by
  refine ⟨fun pins s σ H Q I h => ?_⟩
  refine wpAny_Call_Name_kw (ld_glob I hg hm ?_ hdb)
  refine PySem.W.callWith_K (h₀ := X.base) I.ok.mod.kin hk (thn (ha.run pos pins s σ H _ I h) fun us s1 ⟨vs, H1, I1, r1, hl, q1⟩ => ?_) he hpl
  exact ⟨I1.kIn, run_mk (ar := ⟨us, []⟩) I1 hr (mk us (by rw [← r1.length]; exact hl)) r1 q1⟩
/-- C(), nothing stored -/
def rEx0 (C : Addr) : List V → Hp → VK → Prop := fun _ H Q => ∀ e, H e = none → Q (.ref e) (upd H e (ExN C e))
theorem pe_ex0 (mk : Makes0 X.prog X.w X.K X.mg X.base C ⟨[], []⟩) (hr : Room k X.A) (hg : Gl X x) (hm : X.mg x = some (.ref C)) (hk : PySem.W.keepIn X.K (.ref C) = true)
    (hdb : (x == ("__debug__" : Str)) = false := by decide) : PE X (.Call (.Name x p) [] [] pos) (tCB (rEx0 C) tNil) := by
  refine ⟨fun pins s σ H Q I h => ?_⟩
  refine wpAny_Call_Name_kw (ld_glob I hg hm ?_ hdb)
  refine PySem.W.callWith_K0 I.kIn hk ?_
  have sz : X.base.objs.size ≤ s.heap.objs.size := Nat.le_trans I.ok.bsz I.sz
  have hlim := I.nolimit
  have kb := I.bk
  obtain ⟨hp, g, dr, tk, os⟩ := s
  refine wpAny_call (mk X.A _ _ I.mod kb sz hlim (by have := hr.dp; omega) fun h' tk' e M => ?_)
  show EP X pins σ Q (.ref e) ⟨h', g, dr, tk', os⟩
  obtain ⟨t1, hoe⟩ := M.obj
  have ne : H e = none := I.hok.fresh M.new
  exact ⟨.ref e, _, I.laid (t' := tk') M.keep M.new (exG_ok hoe rfl rfl rfl), rfl, h e ne⟩
/-- C(k = v, ..) -/
theorem pe_exK {ks : List Str} (mk : ∀ us : List Value, us.length = ks.length → Makes X.prog X.w X.K X.mg X.base C ⟨[], ks.zip us⟩ (mOf ks us)) (hr : Room k X.A) (hg : Gl X x) (hm : X.mg x = some (.ref C)) (hk : PySem.W.keepIn X.K (.ref C) = true) (hkw : PK X kws tk)
    (hall : (backToKw pos (keywordEach kws X.env)).all (·.1.isSome) = true := by rfl) (hks : (backToKw pos (keywordEach kws X.env)).filterMap (·.1) = ks := by rfl) (hdb : (x == ("__debug__" : Str)) = false := by decide)
    (hpl : ((backTo pos (starEach [] X.env)).any (·.1) || (backToKw pos (keywordEach kws X.env)).any (·.1.isNone)) = false := by rfl) :
    PE X (.Call (.Name x p) [] kws pos) (tCB (rEx C ks) tk) := by
  refine ⟨fun pins s σ H Q I h => ?_⟩
  refine wpAny_Call_Name_kw (ld_glob I hg hm ?_ hdb)
  refine PySem.W.callWith_KW0 (h₀ := X.base) I.ok.mod.kin hk hall ?_ hpl
  refine thn (hkw.run pos pins s σ H _ I h) fun ws s2 ⟨zs, H2, I2, rz, l1, q2⟩ => ⟨I2.kIn, ?_⟩
  rw [hks]
  exact run_mk (ar := ⟨[], ks.zip ws⟩) I2 hr (mk ws (by rw [← rz.length]; exact l1)) rz q2
/-- e.f of an exception -/
def tXat (K : PySem.W.Frag) (te : TE) (f : Str) : TE := fun σ H Q => te σ H fun x H1 => ∃ (a C d : Addr) (fs : List (Str × V)) (v : V), x = .ref a ∧ H1 a = some (ExO C d a) ∧ XfC K C ∧ PySem.W.findIn K (.ref C) f = some none ∧ H1 d = some (.xd fs) ∧ fs.lookup f = some v ∧ Q v H1
theorem pe_xat {f : Str} {te : TE} (he : PE X e te) (hb : attributeBase e f X.env (eval e X.env) = eval e X.env := by rfl) : PE X (.Attribute e f pos) (tXat X.K te f) := by
  refine ⟨fun pins s σ H Q I h => ?_⟩
  refine attr_of hb (thn (he.run pins s σ H _ I h) fun u s1 hh => ?_)
  obtain ⟨x, H1, I1, rx, a, C, d, fs, v, ex, ha, T, hno, hd, l, q⟩ := hh
  subst ex
  obtain rfl : u = Value.ref a := rx
  obtain ⟨oe, fv, hae, hcl, hdi, hda⟩ := exG_at I1.hok ha
  obtain ⟨mA, hns, hr⟩ := (show ObjOk X.prog X.w H1 s1.heap d (.xd fs) from I1.hok d _ hd)
  obtain ⟨od, ho, hl⟩ := lookIn_ns hns
  obtain ⟨u, hu, ru⟩ := RelO.some_of (v := v) (o := mA f) (by rw [← l]; exact hr f)
  have J : PySem.W.InstAt s1.heap a oe C (some od) := ⟨hae, hcl, by unfold PySem.W.notCls; rw [hda] <;> rfl, by rw [hdi]; exact ho⟩
  exact HandSPX.exc_get I1.kIn J T.ga T.gg T.exC (PySem.W.findObj_own T.hdC hno rfl (by rw [hl, hu])) (handed_of ru) ⟨v, H1, I1.tok _, ru, q⟩
end
end Az
namespace AzX
open PySem PySem.W PySem.Spec PySem.Calls PyProof.Rows
section
variable {prog : Program} {w : World} {A : Around} {E : Value → Shared → Prop} {s : Shared} {K : Frag} {x D : Addr} {ox : Obj} {od : Option Obj}
theorem kin_classX {Q : Option Value → Shared → Prop} (hga : findIn K (.ref D) "__getattribute__" = some (some (.builtin "BaseException.__getattribute__"))) (hgt : findIn K (.ref D) "__getattr__" = some none) (hsub : subIn K (.ref D) (.type "BaseException") = some true)
    (hdct : hasDictIn K D = true) (ha : findIn K (.ref D) "__class__" = some (some (.builtin "object.__class__")))
    (hn : specialIn K (.builtin "object.__class__") "__get__" = some (some (.builtin "getset_descriptor.__get__"))) (htk : takesIn K (.builtin "object.__class__") = some true) (hm : mroIn K D (.type "object") = some true)
    (X : K.In s.heap) (I : InstAt s.heap x ox D od) (h : Q (some (.ref D)) { s with toks := s.toks + 1 }) : wpAny (model prog w) A (getAttr? (.ref x) "__class__") Q E s := by
  have hf : findObj K D od "__class__" = some (.bind (.builtin "getset_descriptor.__get__") (.builtin "object.__class__")) := by
    cases od with
    | none => exact findObj_dataN (by obtain ⟨cd, hc, _⟩ := any_some hdct; rw [hc]; rfl) ha hn htk
    | some od => exact findObj_data (by obtain ⟨cd, hc, _⟩ := any_some hdct; rw [hc]; rfl) ha hn htk
  obtain ⟨hp, g, d, t, os⟩ := s
  have L0 := I.type (M := model prog w)
  have L1 := looks_findIn (M := model prog w) X hga
  have L2 := looks_findIn (M := model prog w) X hgt
  have L3 := looks_find (M := model prog w) X I hf
  have sub : Looks (model prog w) hp (isInstance (.ref x) (.type "BaseException")) true := L0.andThen (looks_subIn X hsub)
  have hx0 : (false && onTheHeap (Value.builtin "BaseException.__getattribute__")) = false := rfl
  have hx2 : (Value.builtin "BaseException.__getattribute__" == Value.builtin "object.__getattribute__") = false := by decide +kernel
  have hx1 : (onTheHeap (Value.ref D) && Value.builtin "BaseException.__getattribute__" == Value.builtin "object.__getattribute__") = false := by rw [hx2]; rfl
  unfold getAttr? getAttrBy? getAttrBy
  refine wpAny_bind (wpAny_mkText (wpAny_bind (wpAny_attempt (wpAny_holding (wpAny_bind (L0.at (wpAny_bind (L1.at ?_))))))))
  show wpAny _ _ (if (onTheHeap (Value.ref D) && Value.builtin "BaseException.__getattribute__" == Value.builtin "object.__getattribute__") = true then _ else _) _ _ _
  rw [hx1, if_neg Bool.false_ne_true]
  unfold getAttrByItsOwn hookBefore
  refine wpAny_bind ?_
  rw [if_pos (show onTheHeap (Value.ref D) = true from rfl)]
  refine L2.at ?_
  refine wpAny_bind (wpAny_attempt (wpAny_holding ?_))
  unfold callGetattribute
  rw [hx0, if_neg Bool.false_ne_true]
  unfold boundAndCalled
  rw [PySem.F.excAttr_ValueError.ga.bind (.ref x)]
  refine wpAny_bind (wpAny_pure ?_)
  show wpAny _ _ (call (.builtin "BaseException.__getattribute__") [.ref x, .str "__class__" t]) _ _ _
  refine wpAny_call (codeAny_call_builtin PySem.F.excAttr_ValueError.ga.plain PySem.F.entry_bexc_ga ?_)
  refine @check_slot (model prog w) _ _ ⟨hp, g, d, t + 1, os⟩ "BaseException.__getattribute__" "BaseException" "__getattribute__" (.ref x) [.str "__class__" t] [] _ (by decide +kernel) (by decide +kernel) sub (PySem.F.args_bexc_ga (.ref x) (.str "__class__" t)) ?_
  unfold Builtin.«object.__getattribute__»
  refine wpAny_bind (wpAny_of_eq (a := ((Value.ref x : Value), [Value.str "__class__" t])) (by first | rfl | (simp only [slotArgs]; rfl)) ?_)
  refine wpAny_bind (wpAny_pure (wpAny_bind (L0.at (wpAny_bind (L3.at ?_)))))
  show wpAny _ _ (holding [Value.builtin "object.__class__"] (call (.builtin "getset_descriptor.__get__") [.builtin "object.__class__", .ref x, .ref D]) >>= ret) _ _ _
  refine wpAny_bind (wpAny_holding (wpAny_call (class_get (s := ⟨hp, g, d, t + 1, os⟩) (ox := ox) (od := od) X I hm ?_)))
  refine wpAny_pure ?_
  show wpAny _ _ (handedOut (.ref D)) _ _ _
  rw [handedOut_of (v := .ref D) rfl]
  first
    | exact wpAny_pure (wpAny_pure h)
    | exact wpAny_pure h
    | exact wpAny_pure (wpAny_bind (wpAny_pure (wpAny_pure h)))
theorem kitx_excD (hga : findIn K (.ref D) "__getattribute__" = some (some (.builtin "BaseException.__getattribute__"))) (hgt : findIn K (.ref D) "__getattr__" = some none) (hsub : subIn K (.ref D) (.type "BaseException") = some true) (hdct : hasDictIn K D = true) (ha : findIn K (.ref D) "__class__" = some (some (.builtin "object.__class__")))
    (hn : specialIn K (.builtin "object.__class__") "__get__" = some (some (.builtin "getset_descriptor.__get__"))) (htk : takesIn K (.builtin "object.__class__") = some true) (hm : mroIn K D (.type "object") = some true) :
    KitX K (.ref x) (.ref D) (fun h => InstAt h x ox D od) where
  ty := fun _ _ _ I => I.type
  it := fun _ _ X _ => by
    obtain ⟨cdD, hcD, _⟩ := any_some hdct
    unfold clsIn at hcD
    split at hcD
    · rename_i c' d' cd' sl' ho
      intro A' Q' E' s' k q
      unfold isType loadHead
      exact wpAny_bind (wpAny_loadPart (k _ _ (X _ _ ho)) (wpAny_pure q))
    · cases hcD
  ne := fun h tp dd its n sl X htp => by
    obtain ⟨cdD, hcD, _⟩ := any_some hdct
    refine Bool.eq_false_iff.mpr fun q => ?_
    have e : D = tp := Value.ref.inj (beq_iff_eq.mp q)
    subst e
    unfold clsIn at hcD
    split at hcD
    · rename_i c' d' cd' sl' ho
      have z := (X _ _ ho).symm.trans htp
      cases z
    · cases hcD
  ca := fun X I k => kin_classX hga hgt hsub hdct ha hn htk hm X I k
end
end AzX
namespace Az
open PySem PySem.Spec PyProof.Rows L2 AzX
/-- isinstance(e, c) of an exception -/
def rIsX (K : PySem.W.Frag) : List V → Hp → VK → Prop := fun xs H Q => ∃ (a D : Addr) (c : V) (cv : Value) (b : Bool), xs = [.ref a, c] ∧ IsX H a D ∧ ExcC K D ∧ ClsV c cv ∧ PySem.W.kitOne K (.ref D) cv = some b ∧ Q (.bl b) H
def rIsXT (K : PySem.W.Frag) : List V → Hp → VK → Prop := fun xs H Q => ∃ (a D tp : Addr) (cs : List V) (us : List Value) (b : Bool), xs = [.ref a, .ref tp] ∧ IsX H a D ∧ ExcC K D ∧ H tp = some (.tup cs) ∧ Paired ClsV cs us ∧ PySem.W.kitAny K (.ref D) us = some b ∧ Q (.bl b) H
section
variable {X : Cx} {pins : List (Addr × Obj)} {σ : L2.St} {H : Hp} {s : Shared}
theorem inst_ex {a D : Addr} (I : Inv X pins σ H s) (x : IsX H a D) : ∃ ox od, PySem.W.InstAt s.heap a ox D od := by
  cases x with
  | @dict d fs ha hd =>
    obtain ⟨oe, fv, hae, hcl, hdi, hda⟩ := exG_at I.hok ha
    obtain ⟨mA, hns, hr⟩ := (show ObjOk X.prog X.w H s.heap d (.xd fs) from I.hok d _ hd)
    obtain ⟨od, ho, hl⟩ := lookIn_ns hns
    exact ⟨_, some od, hae, hcl, by unfold PySem.W.notCls; rw [hda] <;> rfl, by rw [hdi]; exact ho⟩
  | bare ha =>
    obtain ⟨oe, fv, hae, hcl, hdi, hda⟩ := exG_at I.hok ha
    exact ⟨_, none, hae, hcl, by unfold PySem.W.notCls; rw [hda] <;> rfl, by rw [hdi]; trivial⟩
theorem call_isX : CallR X (.builtin "isinstance") (rIsX X.K) := by
  intro pins s σ H xs us Q I r h
  obtain ⟨a, D, c, cv, b, rfl, ha, T, k, e, q⟩ := h
  obtain ⟨u1, u2, rfl, r1, r2⟩ := vals2 r
  have e2 := k.eq r2
  subst e2
  cases (show u1 = Value.ref a from r1)
  obtain ⟨ox, od, J⟩ := inst_ex I ha
  exact PySem.W.kia_one (kitx_excD T.hg T.hk T.hs T.hd T.ha T.hn T.ht T.hm) I.kIn J e (fun z => nomatch z) fun tk => ⟨.bl b, H, I.tok tk, rfl, q⟩
theorem call_isXT : CallR X (.builtin "isinstance") (rIsXT X.K) := by
  intro pins s σ H xs us Q I r h
  obtain ⟨a, D, tp, cs, ws, b, rfl, ha, T, hT, k, e, q⟩ := h
  obtain ⟨u1, u2, rfl, r1, r2⟩ := vals2 r
  cases (show u1 = Value.ref a from r1)
  cases (show u2 = Value.ref tp from r2)
  obtain ⟨ox, od, J⟩ := inst_ex I ha
  obtain ⟨_, its, rv, o, h1, h2, n, h3⟩ := (show ObjOk X.prog X.w H s.heap tp (.tup cs) from I.hok tp _ hT)
  have e3 := ClsV.all k rv
  subst e3
  obtain ⟨oc, od', dt, sl⟩ := o
  simp only at h2 h3
  subst h2 h3
  exact PySem.W.kia_tup (kitx_excD T.hg T.hk T.hs T.hd T.ha T.hn T.ht T.hm) I.kIn J h1 e (fun z => nomatch z) fun tk => ⟨.bl b, H, I.tok tk, rfl, q⟩
end
end Az

/-! raise C(e, ..) of an own error. -/
namespace Az
open PySem PySem.Spec PyProof.Rows L2 AzX
section
variable {X : Cx} {C : Addr} {fs : List Str} {k : Nat} {x : Str} {p pos pos2 : Pos} {e : Expr} {es : List Expr} {t : TA} {W : WX}
/-- C(e, ..), to be raised -/
def tMkEx (C : Addr) (fs : List Str) (t : TA) : L2.St → Hp → XK → Prop := fun σ H Q => t σ H fun vs H1 => vs.length = fs.length ∧ ∀ d, H1 d = none → Q (.ref C) (some d) (upd H1 d (.xd (fs.zip vs)))
theorem pmk_ex (mk : ∀ us : List Value, us.length = fs.length → Makes X.prog X.w X.K X.mg X.base C ⟨us, []⟩ (mOf fs us)) (rs : Raises X (.ref C)) (hr : Room k X.A) (hg : Gl X x) (hm : X.mg x = some (.ref C)) (hk : PySem.W.keepIn X.K (.ref C) = true) (ha : PA X (e :: es) t)
    (hdb : (x == ("__debug__" : Str)) = false := by decide) (he : starEach (e :: es) X.env = (false, eval e X.env) :: starEach es X.env := by rfl) (hpl : (backTo pos (starEach es X.env)).any (·.1) = false := by rfl) :
    PMk X (.Call (.Name x p) (e :: es) [] pos) (tMkEx C fs t) := by
  intro pins s σ H Q I h
  refine wpAny_Call_Name_kw (ld_glob I hg hm ?_ hdb)
  refine PySem.W.callWith_K (h₀ := X.base) I.ok.mod.kin hk (thn (ha.run pos pins s σ H _ I h) fun us s1 ⟨vs, H1, I1, r1, hl, q1⟩ => ?_) he hpl
  refine ⟨I1.kIn, ?_⟩
  have sz : X.base.objs.size ≤ s1.heap.objs.size := Nat.le_trans I1.ok.bsz I1.sz
  have hlim := I1.nolimit
  have kb := I1.bk
  obtain ⟨hp, g, dr, tk, os⟩ := s1
  refine wpAny_call (mk us (by rw [← r1.length]; exact hl) X.A _ _ I1.mod kb sz hlim (by have := hr.dp; omega) fun h' tk' e d M => ?_)
  show MkP X pins σ Q (.ref e) ⟨h', g, dr, tk', os⟩
  obtain ⟨t1, hoe⟩ := M.obj
  have hns := M.ns
  obtain ⟨G', g1, g2⟩ := restrict h' fun b => decide (b ≠ e)
  have gk : ∀ b, b ≠ e → G'.get? b = h'.get? b := fun b hb => g1 b (decide_eq_true hb)
  have ge : G'.get? e = none := g2 e (by simp)
  have old : ∀ b o, hp.get? b = some o → G'.get? b = some o := fun b o q => (gk b (Nat.ne_of_lt (Nat.lt_of_lt_of_le (Heap.lt_size q) M.new))).trans (M.keep b o q)
  have ob : ObjOk X.prog X.w (upd H1 d (.xd (fs.zip vs))) G' d (.xd (fs.zip vs)) := ⟨_, hns.at (fun o q => (gk d M.dne).trans q), fun f => rel_zip r1 f⟩
  have J : Inv X pins σ (upd H1 d (.xd (fs.zip vs))) ⟨G', g, dr, tk', os⟩ := I1.laid (t' := tk') old M.dbig ob
  refine ⟨e, _, _, ⟨G', g, dr, tk', os⟩, _, .ref C, some d, rfl, J, fun b o q => ?_, ge, hoe, ⟨rfl, rfl⟩, rfl, rfl, ?_, rfl, I1.bare, rs, q1 d (I1.hok.fresh M.dbig)⟩
  · by_cases hb : b = e
    · have q' : G'.get? b = some o := q
      rw [hb, ge] at q'; cases q'
    · exact (gk b hb).symm.trans q
  · rw [upd_ne (Ne.symm M.dne)]
    exact I1.hok.fresh M.new
def tRaiseEx (C : Addr) (fs : List Str) (W : WX) (t : TA) : TS := fun _ σ H => tMkEx C fs t σ H fun cls d H' => W cls d σ H'
theorem ps_raiseEx (hc : X.calm = true) (tk : Takes X W) (mk : ∀ us : List Value, us.length = fs.length → Makes X.prog X.w X.K X.mg X.base C ⟨us, []⟩ (mOf fs us)) (rs : Raises X (.ref C)) (hr : Room k X.A) (hg : Gl X x) (hm : X.mg x = some (.ref C)) (hk : PySem.W.keepIn X.K (.ref C) = true) (ha : PA X (e :: es) t)
    (hdb : (x == ("__debug__" : Str)) = false := by decide) (he : starEach (e :: es) X.env = (false, eval e X.env) :: starEach es X.env := by rfl) (hpl : (backTo pos (starEach es X.env)).any (·.1) = false := by rfl) :
    PS X (.Raise (some (.Call (.Name x p) (e :: es) [] pos)) none pos2) (tRaiseEx C fs W t) := ps_raise hc tk (pmk_ex mk rs hr hg hm hk ha hdb he hpl)
end
end Az

/-! try: .. except X as n: suite, where the caught exception lives on as a value. -/
namespace Az
open PySem PySem.Spec PyProof.Rows L2 AzX
abbrev kSuite (X : Cx) (a : Addr) (pn : List (Addr × Obj)) : Cx := { X with A := X.A.mark (some (.ref a)), calm := false, pn := pn, xe := fun _ _ => False }
/-- what the clause wishes of an exception of the body: slot i is n's; it stands at a from now on -/
def wKeep (K : PySem.W.Frag) (c : Value) (i : Nat) (ts : Addr → TS) (Wout : WX) (D : Ends) : WX := fun cls d σ H =>
  ∃ b, PySem.W.exmOne K cls c = some b ∧ (b = true → ∀ a, H a = none → ts a { nx := fun σ' H' => D.nx (σ'.set i none) H', rt := D.rt, bk := fun σ' H' => D.bk (σ'.set i none) H', ct := fun σ' H' => D.ct (σ'.set i none) H' } (σ.set i (some (.ref a))) (upd H a (ExG cls d a))) ∧
    (b = false → Wout cls d σ H)
section
variable {X : Cx} {pins : List (Addr × Obj)} {σ : L2.St} {H : Hp} {s : Shared}
theorem suite0 (I : Inv X pins σ H s) (a : Addr) : Inv (kSuite X a (X.pn ++ pins)) [] σ H s :=
  ⟨I.ok.suite _ _, I.os, I.bare, I.base, I.loc, I.cell, I.free, I.freeC, fun p hp => I.pin p (by rw [List.append_nil] at hp; exact hp), I.hok, I.len⟩
theorem unsuite0 {a : Addr} {pn' : List (Addr × Obj)} (I : Inv (kSuite X a (X.pn ++ pins)) pn' σ H s) (ok : X.Ok) : Inv X pins σ H s :=
  ⟨ok, I.os, I.bare, I.base, I.loc, I.cell, I.free, I.freeC, fun p hp => I.pin p (List.mem_append_left _ hp), I.hok, I.len⟩
end
section
variable {X : Cx} {x n : Str} {c : Value} {i : Nat} {body suite : List Stmt} {b₀ : Stmt} {np pos pos' : Pos} {tb : WX → TS} {ts : Addr → TS} {Wout : WX}
theorem ps_try_keep (hs : X.stack = X.env :: X.outer) (hf : X.env.frame = some X.env.locals) (hN : X.N.Nodup) (hi : X.N[i]? = some n) (hln : X.env.kindOf n = some .local) (hc : Names X x c) (tk : Takes X Wout)
    (hb : ∀ (W : WX) (pn : List (Addr × Obj)) (xe : Value → Shared → Prop), Takes (X.tr pn xe) W → PassesOwn (model X.prog X.w) X.A X.env xe → PSs (X.tr pn xe) body (tb W))
    (hsu : ∀ (a : Addr) (pn : List (Addr × Obj)), PSs (kSuite X a pn) (b₀ :: suite) (ts a)) :
    PS X (.Try body [.ExceptHandler (some (.Name x np)) (some n) (b₀ :: suite) pos'] [] [] pos) (fun D σ H => tb (wKeep X.K c i ts Wout D) D σ H) := by
  refine ⟨fun pins s σ H D I h => ?_⟩
  have ok := I.ok
  have hfr : X.A.frames = some (X.env :: X.outer) := by rw [ok.frames, hs]
  have hloc : Loc X.env.scope n := .inl hln
  refine wpAny_Try_except ?_
  refine wpAny_mono ((hb (wKeep X.K c i ts Wout D) (X.pn ++ pins) (fun e s₁ => wpAny (model X.prog X.w) X.A (noteFrame e X.env) (fun _ s₂ => wpAny (model X.prog X.w) X.A (setFlight e none) (fun _ s₃ =>
    wpAny (model X.prog X.w) X.A (handleBy e X.env [.ExceptHandler (some (.Name x np)) (some n) (b₀ :: suite) pos']) (SP X pins D) X.xe s₃) X.xe s₂) X.xe s₁) (fun u s' xx => ?_) PassesOwn.looking).run [] s σ H D (I.toTry _) h) (fun f s1 hsp => ?_) (fun e s1 he => he)
  · obtain ⟨a, B, sI, pins', σ', H', cls, d, rfl, J', nb, up, sky, na, os, ag, b, hb1, hyes, hno⟩ := xx
    have J : Inv X pins σ' H' sI := J'.ofTry ok
    have sky' : Sky B (X.env :: X.outer) a (Zc cls d) X.env.locals s'.heap := by rw [← hs]; exact sky
    show wpAny (model X.prog X.w) X.A (noteFrame (.ref a) X.env) _ _ _
    refine Sky.land Zc.steady hfr hf sky' fun h3 fl3 up3 => ?_
    have J3 : Inv X pins σ' H' { s' with heap := h3 } := J.landed nb fl3.1 (up.trans up3) os ag
    obtain ⟨oe3, vs3, he3, hz3, hd3⟩ := fl3.there
    have notFr : ∀ {h : Heap} {o : Obj} {vs : Array Value}, h.FunFrames B (X.env :: X.outer) → h.get? a = some o → o.data = .fields vs → a ∉ frs (X.env :: X.outer) := fun {h o vs} ff e dd hm => by
      obtain ⟨_, o', e', hnf⟩ := ff.mem hm
      rw [e] at e'; cases e'
      exact hnf _ dd
    have nfr := notFr fl3.2.2.1 he3 hd3
    have nL : a ≠ X.env.locals := fun z => nfr (List.mem_filterMap.mpr ⟨X.env, List.mem_cons_self, by rw [hf, z]⟩)
    have nF : a ∉ X.fs := fun hm => by
      obtain ⟨e, he, q⟩ := List.mem_filterMap.mp hm
      exact nfr (List.mem_filterMap.mpr ⟨e, List.mem_cons_of_mem _ he, q⟩)
    have S3 := J3.suite he3 hd3 na nL nF
    refine wpAny_handleBy_cons (codeAny_handlers_test ?_) (by intro q; cases q)
    have LT : PySem.W.Looks (model X.prog X.w) h3 (typeOf (.ref a)) cls := fun A Q E s k q => wpAny_typeOf_ref (k _ _ he3) (by rw [hz3.1]; exact q)
    have LM := PySem.W.exm_one (M := model X.prog X.w) (J3.kIn) LT hb1
    have test : ∀ {Q : Value → Shared → Prop} {E : Value → Shared → Prop}, Q c { s' with heap := h3 } → wpAny (model X.prog X.w) (X.A.mark (some (.ref a))) (eval (.Name x np) X.env) Q E { s' with heap := h3 } := fun {Q E} q => by
      obtain ⟨hg, hdbg, hm | ⟨hm, hv, hnn⟩⟩ := hc
      · exact ld_glob (X := X.suite a ((a, oe3) :: (X.pn ++ pins))) S3 hg hm q hdbg
      · exact ld_blt (X := X.suite a ((a, oe3) :: (X.pn ++ pins))) S3 hg hm hv q hnn hdbg
    refine test (LM.here ?_)
    cases b with
    | true =>
      refine codeAny_handlers_suite_as ?_
      refine HandSPX.lands_againZ fl3 fun h4 fl4 up4 => ?_
      obtain ⟨oe4, vs4, he4, hz4, hd4⟩ := fl4.there
      have hBa : B.get? a = none := fl4.2.1
      have hIa : sI.heap.get? a = none := by
        cases q : sI.heap.get? a with
        | none => rfl
        | some o =>
          have z := nb a o q (by rw [hs]; exact nfr)
          rw [hBa] at z; cases z
      -- the heap without it
      obtain ⟨G', g1, g2⟩ := restrict h4 fun b => decide (b ≠ a)
      have gk : ∀ b, b ≠ a → G'.get? b = h4.get? b := fun b hb => g1 b (decide_eq_true hb)
      have ge : G'.get? a = none := g2 a (by simp)
      have st : B.StaysIn G' := fun b o q => by
        have hb : b ≠ a := fun z => by rw [z, hBa] at q; cases q
        rw [gk b hb]
        exact fl4.1 b o q
      have upG : sI.heap.UpToSlots G' := fun b o q hd => by
        have hb : b ≠ a := fun z => by rw [z, hIa] at q; cases q
        obtain ⟨sl, z⟩ := ((up.trans up3).trans up4) b o q hd
        exact ⟨sl, by rw [gk b hb]; exact z⟩
      have JG : Inv X pins σ' H' { s' with heap := G' } := J.landed nb st upG os ag
      have k2 : ∀ b o, G'.get? b = some o → h4.get? b = some o := fun b o q => by
        by_cases hb : b = a
        · rw [hb, ge] at q; cases q
        · exact (gk b hb).symm.trans q
      have J4 : Inv X pins σ' (upd H' a (ExG cls d a)) { s' with heap := h4 } := L2.Inv.laidN (s := { s' with heap := G' }) (h' := h4) (o := ExG cls d a) (t' := s'.toks) JG k2 ge na (exG_ok he4 hz4.1 hz4.2 hd4)
      have S4 := suite0 J4 a
      refine store_ok (X := kSuite X a (X.pn ++ pins)) (v := .ref a) S4 hN hi hloc rfl (fun s5 S5 => ?_) (.inr hln)
      refine wpAny_mono ((hsu a (X.pn ++ pins)).run [] s5 _ _ _ S5 (hyes rfl a na)) (fun f s6 hsp => ?_) (fun _ _ z => False.elim z)
      have end_ : ∀ {σ6 : L2.St} {H6 : Hp} {Q : Shared → Prop}, Inv (kSuite X a (X.pn ++ pins)) [] σ6 H6 s6 → (∀ s7, Inv X pins (σ6.set i none) H6 s7 → Q s7) →
          wpAny (model X.prog X.w) X.A (do bindName X.env n .none; unbindBehindTheSuite X.env n pos') (fun _ s7 => Q s7) X.xe s6 := fun {σ6 H6 Q} S6 hq => gone_ok (unsuite0 S6 ok) hN hi hln hq
      cases f with
      | next =>
        obtain ⟨σ6, H6, S6, q6⟩ := hsp
        exact end_ S6 fun s7 J7 => ⟨_, _, J7, q6⟩
      | brk =>
        obtain ⟨σ6, H6, S6, q6⟩ := hsp
        exact end_ S6 fun s7 J7 => ⟨_, _, J7, q6⟩
      | cont =>
        obtain ⟨σ6, H6, S6, q6⟩ := hsp
        exact end_ S6 fun s7 J7 => ⟨_, _, J7, q6⟩
      | ret u =>
        obtain ⟨v6, σ6, H6, S6, r6, q6⟩ := hsp
        exact end_ S6 fun s7 J7 => ⟨_, _, _, J7, r6, q6⟩
    | false =>
      show wpAny _ X.A (handleBy (.ref a) X.env []) _ _ _
      refine wpAny_handleBy_nil ?_
      obtain ⟨k1, k2, k3, oe, vs, T, oT, ts', he, hz, hd, h1, hr⟩ := id fl3
      unfold PySem.passOn
      refine wpAny_bind (wpAny_field he hd h1 ?_)
      rw [if_neg (show ¬ ((Value.ref T == Value.none) = true) from by simp)]
      have fin : wpAny (model X.prog X.w) X.A (setFlight (.ref a) X.env.frame) (fun _ s4 => wpAny (model X.prog X.w) X.A (throw (.ref a) : Sem Flow) (SP X pins D) X.xe s4) X.xe { s' with heap := h3 } := by
        rw [hf]
        refine HandSPX.setFlight_upZ fl3 fun h4 hh4 up4 => wpAny_throw (tk _ _ ?_)
        exact ⟨a, B, sI, pins, σ', H', cls, d, rfl, J, nb, (up.trans up3).trans up4, .inr (.inr (by rw [hs]; exact hh4)), na, os, ag, hno rfl⟩
      first
        | exact wpAny_bind (wpAny_pure (wpAny_bind fin))
        | exact wpAny_bind fin
  · cases f with
    | next =>
      obtain ⟨σ', H', J', q⟩ := hsp
      exact wpAny_execs_nil ⟨σ', H', J'.ofTry ok, q⟩
    | brk =>
      obtain ⟨σ', H', J', q⟩ := hsp
      exact ⟨σ', H', J'.ofTry ok, q⟩
    | cont =>
      obtain ⟨σ', H', J', q⟩ := hsp
      exact ⟨σ', H', J'.ofTry ok, q⟩
    | ret u =>
      obtain ⟨v, σ', H', J', r, q⟩ := hsp
      exact ⟨v, σ', H', J'.ofTry ok, r, q⟩
end
end Az

/-! repr of data: None, bools, ints, texts, lists and tuples of such, dicts of plain values. -/
namespace Az
open PySem PySem.Spec PyProof.Rows L2
/-- a plain value as data -/
def atomD : V → Option PyData
  | .non => some .none
  | .bl b => some (.bool b)
  | .int i => some (.int i)
  | .str x => some (.str x)
  | _ => none
def keyD : Key → PyData
  | .inl i => .int i
  | .inr x => .str x
/-- data that repr shows -/
inductive Dt (K : PySem.W.Frag) (H : Hp) : V → PyData → Prop
  | of {v : V} {d : PyData} (h : Dp K H v d) (n : d.hasDict = false) : Dt K H v d
  | dct {a : Addr} {kvs : List (Key × V)} {ds : List PyData} (h : H a = some (.dK kvs)) (e : kvs.map (fun kv => atomD kv.2) = ds.map some) : Dt K H (.ref a) (.dict ((kvs.map fun kv => keyD kv.1).zip ds))
theorem atom_reads {h : Heap} {v : V} {u : Value} {d : PyData} (r : RelV v u) (e : atomD v = some d) : Reads h u d [] := by
  cases v with
  | non => cases e; cases r; exact .none
  | bl b => cases e; cases r; exact .bool b
  | int i => cases e; obtain ⟨t, rfl⟩ := r; exact .int i t
  | str x => cases e; obtain ⟨t, rfl⟩ := r; exact .str x t
  | byt b => cases e
  | flt b => cases e
  | ref a => cases e
  | ty n => cases e
theorem key_reads {h : Heap} {k : Key} {u : Value} (e : keyIs k u = true) : Reads h u (keyD k) [] := by
  rcases keyIs_shape e with ⟨i, t, rfl, rfl⟩ | ⟨x, t, rfl, rfl⟩
  · exact .int i t
  · exact .str x t
theorem pairs_reads {P : Program} {w : World} {h : Heap} : ∀ {es : List DictEntry} {vs : List (Key × Value)} {kvs : List (Key × V)} {ds : List PyData}, Pairs (mixKind P w) es vs → KV kvs vs → kvs.map (fun kv => atomD kv.2) = ds.map some →
    ReadsAll h (es.map (·.key)) (((kvs.map fun kv => keyD kv.1).zip ds).map (·.1)) [] ∧ ReadsAll h (es.map (·.val)) (((kvs.map fun kv => keyD kv.1).zip ds).map (·.2)) []
  | _, _, _, [], .nil, .nil, _ => ⟨.nil, .nil⟩
  | _, _, _, _ :: _, .nil, .nil, e => by cases e
  | _, _, _ :: _, [], .cons _ _ _, .cons _ _, e => by cases e
  | e0 :: es, kv :: vs, kv' :: kvs, d :: ds, .cons h1 h2 h3, .cons r rr, e => by
    have e1 : atomD kv'.2 = some d := (List.cons.inj e).1
    have e2 : kvs.map (fun kv => atomD kv.2) = ds.map some := (List.cons.inj e).2
    obtain ⟨a, b⟩ := pairs_reads (h := h) h3 rr e2
    have r1 : Reads h e0.key (keyD kv'.1) [] := key_reads (by rw [r.1]; exact h1)
    have r2 : Reads h e0.val d [] := atom_reads (v := kv'.2) (by rw [h2]; exact r.2) e1
    exact ⟨.cons r1 a, .cons r2 b⟩
section
variable {X : Cx} {pins : List (Addr × Obj)} {σ : L2.St} {H : Hp} {s : Shared}
theorem dt_reads (I : Inv X pins σ H s) {v : V} {u : Value} {d : PyData} (h : Dt X.K H v d) (r : RelV v u) : ∃ as, Reads s.heap u d as ∧ (d.hasDict = true → sysModules ∉ as) := by
  cases h with
  | of h n =>
    obtain ⟨as, q⟩ := Dp.reads I d v u h r
    exact ⟨as, q, PyData.noDict_hsm n⟩
  | @dct a kvs ds h e =>
    cases (show u = Value.ref a from r)
    obtain ⟨_, ns, vs, rv, o, es, ep, ho, hx, hd, _, hp, _⟩ := (show ObjOk X.prog X.w H s.heap a (.dK kvs) from I.hok a _ h)
    obtain ⟨q1, q2⟩ := pairs_reads (h := s.heap) hp rv e
    refine ⟨_, .dict ho hx.1 hd q1 q2, fun _ z => ?_⟩
    simp at z
    rw [z] at ns
    simp at ns
/-- repr(x) -/
def rRep (K : PySem.W.Frag) : List V → Hp → VK → Prop := fun xs H Q => ∃ (x : V) (d : PyData), xs = [x] ∧ Dt K H x d ∧ d.showable = true ∧ d.depth ≤ 20 ∧ d.shown.length ≤ sizeLine ∧ Q (.str d.shown) H
theorem c_rep {k : Nat} (hr : Room k X.A) (hg : X.A.guards = some []) : CallR X (.builtin "repr") (rRep X.K) := by
  intro pins s σ H xs us Q I r h
  obtain ⟨x, d, rfl, hd, hs, hdp, hz, q⟩ := h
  obtain ⟨u, rfl, ru⟩ := vals1 r
  obtain ⟨as, hR, hsm⟩ := dt_reads I hd ru
  have fin : ∀ (tk : Nat) (t : Tok), EP X pins σ Q (.str d.shown t) { s with toks := tk } := fun tk t => ⟨.str d.shown, H, I.tok tk, ⟨t, rfl⟩, q⟩
  cases x with
  | ref a =>
    cases (show u = Value.ref a from ru)
    have hu := hr.units
    refine repr_of_reads' hR hs hsm hg (by omega) (fun _ _ e => e) (fun h' u tk hk => ?_) hz
    exact ⟨.str d.shown, H, I.kept (t' := tk) hk, ⟨u, rfl⟩, q⟩
  | non =>
    cases ru
    cases hd with
    | of h n => cases h; exact PySem.P.repr_of_none (fin _ _)
  | bl b =>
    cases ru
    cases hd with
    | of h n => cases h; exact PySem.P.repr_of_bool (fin _ _)
  | int i =>
    obtain ⟨t, rfl⟩ := ru
    cases hd with
    | of h n => cases h; exact PySem.P.repr_of_int (of_decide_eq_true hs) (fin _ _)
  | str z =>
    obtain ⟨t, rfl⟩ := ru
    cases hd with
    | of h n => cases h; exact PySem.P.repr_of_str (fin _ _) hz
  | byt b => cases hd with | of h n => cases h
  | flt b => cases hd with | of h n => cases h
  | ty n => cases hd with | of h n => cases h
end
end Az

/-! Ratios in lowest terms, in plain Lean. -/
namespace Az
/-- what over and under are divided by -/
def shd (o u : Int) : Int := if 0 < u then (Int.gcd o u : Int) else -(Int.gcd o u : Int)
def rO (o u : Int) : Int := o.fdiv (shd o u)
def rU (o u : Int) : Int := u.fdiv (shd o u)
theorem gcd_pos_of {o u : Int} (hu : u ≠ 0) : 0 < Int.gcd o u := by
  rcases Nat.eq_zero_or_pos (Int.gcd o u) with h | h
  · have := Int.gcd_eq_zero_iff.mp h
    exact absurd this.2 hu
  · exact h
theorem shd_ne {o u : Int} (hu : u ≠ 0) : shd o u ≠ 0 := by
  have h := gcd_pos_of (o := o) hu
  unfold shd
  split <;> omega
theorem shd_dvd_o (o u : Int) : shd o u ∣ o := by
  unfold shd
  split
  · exact Int.gcd_dvd_left ..
  · exact Int.neg_dvd.mpr (Int.gcd_dvd_left ..)
theorem shd_dvd_u (o u : Int) : shd o u ∣ u := by
  unfold shd
  split
  · exact Int.gcd_dvd_right ..
  · exact Int.neg_dvd.mpr (Int.gcd_dvd_right ..)
theorem rO_mul {o u : Int} (hu : u ≠ 0) : rO o u * shd o u = o := by
  obtain ⟨c, h⟩ := shd_dvd_o o u
  have e : rO o u = c := by
    unfold rO
    conv => lhs; arg 1; rw [h]
    rw [Int.mul_comm]
    exact Int.mul_fdiv_cancel _ (shd_ne hu)
  rw [e, Int.mul_comm]
  exact h.symm
theorem rU_mul {o u : Int} (hu : u ≠ 0) : rU o u * shd o u = u := by
  obtain ⟨c, h⟩ := shd_dvd_u o u
  have e : rU o u = c := by
    unfold rU
    conv => lhs; arg 1; rw [h]
    rw [Int.mul_comm]
    exact Int.mul_fdiv_cancel _ (shd_ne hu)
  rw [e, Int.mul_comm]
  exact h.symm
theorem rU_pos {o u : Int} (hu : u ≠ 0) : 0 < rU o u := by
  have h := rU_mul (o := o) hu
  have g := gcd_pos_of (o := o) hu
  by_cases hp : 0 < u
  · have e : shd o u = (Int.gcd o u : Int) := by unfold shd; rw [if_pos hp]
    rw [e] at h
    rcases Int.lt_trichotomy (rU o u) 0 with z | z | z
    · have := Int.mul_neg_of_neg_of_pos z (show (0 : Int) < Int.gcd o u by omega)
      omega
    · rw [z, Int.zero_mul] at h; omega
    · exact z
  · have e : shd o u = -(Int.gcd o u : Int) := by unfold shd; rw [if_neg hp]
    rw [e] at h
    rcases Int.lt_trichotomy (rU o u) 0 with z | z | z
    · have := Int.mul_pos_of_neg_of_neg z (show -(Int.gcd o u : Int) < 0 by omega)
      omega
    · rw [z, Int.zero_mul] at h; omega
    · exact z
theorem r_cross {o u : Int} (hu : u ≠ 0) : rO o u * u = o * rU o u := by
  have h1 := rO_mul (o := o) hu
  have h2 := rU_mul (o := o) hu
  calc rO o u * u = rO o u * (rU o u * shd o u) := by rw [h2]
    _ = (rO o u * shd o u) * rU o u := by rw [Int.mul_comm (rU o u), Int.mul_assoc]
    _ = o * rU o u := by rw [h1]
theorem natAbs_le_of_mul {a b c : Int} (hb : b ≠ 0) (h : a * b = c) : a.natAbs ≤ c.natAbs := by
  rw [← h, Int.natAbs_mul]
  exact Nat.le_mul_of_pos_right _ (Int.natAbs_pos.mpr hb)
theorem rO_le {o u : Int} (hu : u ≠ 0) : (rO o u).natAbs ≤ o.natAbs := natAbs_le_of_mul (shd_ne hu) (rO_mul hu)
theorem rU_le {o u : Int} (hu : u ≠ 0) : (rU o u).natAbs ≤ u.natAbs := natAbs_le_of_mul (shd_ne hu) (rU_mul hu)
theorem r_cop {o u : Int} (hu : u ≠ 0) : Int.gcd (rO o u) (rU o u) = 1 := by
  have h1 := rO_mul (o := o) hu
  have h2 := rU_mul (o := o) hu
  have g := gcd_pos_of (o := o) hu
  have e : Int.gcd (rO o u * shd o u) (rU o u * shd o u) = Int.gcd (rO o u) (rU o u) * (shd o u).natAbs := Int.gcd_mul_right ..
  rw [h1, h2] at e
  have s : (shd o u).natAbs = Int.gcd o u := by unfold shd; split <;> simp
  rw [s] at e
  have : Int.gcd (rO o u) (rU o u) * Int.gcd o u = 1 * Int.gcd o u := by rw [← e, Nat.one_mul]
  exact Nat.eq_of_mul_eq_mul_right g this
theorem dvd_cop {a b c : Int} (h : Int.gcd b a = 1) (d : a ∣ b * c) : a ∣ c := by
  have d' : a.natAbs ∣ b.natAbs * c.natAbs := by rw [← Int.natAbs_mul]; exact Int.natAbs_dvd_natAbs.mpr d
  have k : Nat.Coprime a.natAbs b.natAbs := by
    show Nat.gcd a.natAbs b.natAbs = 1
    rw [Nat.gcd_comm]
    exact h
  exact Int.natAbs_dvd_natAbs.mp (Nat.Coprime.dvd_of_dvd_mul_left k d')
/-- lowest terms are one -/
theorem low_one {p q p' q' : Int} (hq : 0 < q) (hq' : 0 < q') (h : Int.gcd p q = 1) (h' : Int.gcd p' q' = 1) (e : p * q' = p' * q) : p = p' ∧ q = q' := by
  have d1 : q ∣ q' := by
    have z : q ∣ p * q' := ⟨p', by rw [e, Int.mul_comm]⟩
    exact dvd_cop h z
  have d2 : q' ∣ q := by
    have z : q' ∣ p' * q := ⟨p, by rw [← e, Int.mul_comm]⟩
    exact dvd_cop h' z
  have eq : q = q' := Int.dvd_antisymm (Int.le_of_lt hq) (Int.le_of_lt hq') d1 d2
  subst eq
  exact ⟨Int.eq_of_mul_eq_mul_right (by omega) e, rfl⟩
end Az

/-! x != y by an own __eq__; truth, bool, str of an own instance by its own methods; an own instance called. -/
namespace AzX
open PySem PySem.W PySem.Spec PySem.Calls PyProof.Rows
section
variable {M : Model} {prog : Program} {w : World} {A : Around} {E : Value → Shared → Prop} {s : Shared} {K : Frag} {x C f : Addr} {ox : Obj} {od : Option Obj} {b : Value}
theorem ifBound_objNe {args : List Value} {Q : Option Value → Shared → Prop} (X : K.In s.heap) (I : InstAt s.heap x ox C od) (hs : findIn K (.ref C) "__ne__" = some (some (.builtin "object.__ne__")))
    (h : wpAny M A (call (.builtin "object.__ne__") (.ref x :: args)) (fun v => Q (some v)) E s) : wpAny M A (callSpecialIfBound? (.ref x) "__ne__" args) Q E s := by
  simp only [callSpecialIfBound?, bindSpecialIfBound?]
  refine wpAny_holding (wpAny_bind (wpAny_bind (wpAny_bind (I.type.here ((looks_findIn X hs).here ?_)))))
  refine wpAny_bind (wpAny_askSetting (wpAny_ite ?_))
  have fin : wpAny M A (call (.builtin "object.__ne__") ([.ref x] ++ args) >>= fun v => pure (some v)) Q E s := wpAny_bind (wpAny_mono h (fun v s' h' => wpAny_pure h') fun _ _ h' => h')
  split
  · exact wpAny_bind (wpAny_of_eq (PySem.F.cmp_object.ne.bind _) (wpAny_pure (by exact fin)))
  · exact wpAny_tryCatch (wpAny_bind (wpAny_of_eq (PySem.F.cmp_object.ne.bind _) (wpAny_pure (by exact fin))))
/-- what an own __eq__ hands back, turned -/
def NeB2 (Q : Value → Shared → Prop) (v : Value) (s : Shared) : Prop := ∃ c, v = .bool c ∧ Q (.bool (!c)) s
theorem entry_ne {Q : Fin → Shared → Prop} (hu : A.units < cLine) (X : K.In s.heap) (I : InstAt s.heap x ox C od) (hs : findIn K (.ref C) "__eq__" = some (some (.ref f))) (hf : isFn K (.ref f) = true)
    (h : wpAny M A (call (.ref f) [.ref x, b]) (NeB2 fun v s' => Q (.done (.ret v)) s') E s) : wpAny M A (Builtin.«object.__ne__» ⟨[.ref x, b], []⟩) Q E s := by
  unfold Builtin.«object.__ne__»
  refine wpAny_bind (wpAny_of_eq (a := ((Value.ref x : Value), [b])) (by first | rfl | (simp only [slotArgs]; rfl)) ?_)
  refine wpAny_bind (wpAny_cRoomFor hu ?_)
  refine wpAny_bind (ifBound_K X I hs hf (wpAny_mono h (fun v s' hv => ?_) fun _ _ e => e))
  obtain ⟨c, rfl, hq⟩ := hv
  refine wpAny_bind (wpAny_truthy_bool ?_)
  exact wpAny_pure hq
theorem call_objNe {Q : Value → Shared → Prop} (hu : A.units + 1 < cLine) (X : K.In s.heap) (I : InstAt s.heap x ox C od) (hm : mroIn K C (.type "object") = some true) (hs : findIn K (.ref C) "__eq__" = some (some (.ref f))) (hf : isFn K (.ref f) = true)
    (h : wpAny (model prog w) A.in1 (call (.ref f) [.ref x, b]) (NeB2 Q) E s) : wpAny (model prog w) A (call (.builtin "object.__ne__") [.ref x, b]) Q E s :=
  wpAny_call (codeAny_call_builtin PySem.F.cmp_object.ne.plain PySem.F.cmpEntry_ne (check_slot PySem.F.cmpKind_ne PySem.F.cmpSplit_ne (I.type.andThen (looks_mroIn X hm)) (PySem.F.cmpArgs_ne _ _)
    (entry_ne (A := A.in1) hu X I hs hf (wpAny_mono h (fun v s' hv => hv) fun _ _ e => e))))
/-- a != b by a's own __eq__ -/
theorem ne_own {Q : Value → Shared → Prop} {tb : Value} (hu : A.units + 1 < cLine) (X : K.In s.heap) (I : InstAt s.heap x ox C od) (hb : Looks (model prog w) s.heap (typeOf b) tb) (hn : notFirst K C tb = true)
    (hm : mroIn K C (.type "object") = some true) (hne : findIn K (.ref C) "__ne__" = some (some (.builtin "object.__ne__"))) (hs : findIn K (.ref C) "__eq__" = some (some (.ref f))) (hf : isFn K (.ref f) = true)
    (h : wpAny (model prog w) A.in1 (call (.ref f) [.ref x, b]) (NeB2 Q) E s) : wpAny (model prog w) A (richCompare .NotEq (.ref x) b) Q E s := by
  have one : wpAny (model prog w) A (tryCompare (.ref x) "__ne__" b) (fun r s' => ∃ v, r = some v ∧ Q v s') E s := by
    unfold tryCompare
    refine wpAny_bind (ifBound_objNe X I hne (call_objNe hu X I hm hs hf (wpAny_mono h (fun v s' hv => ?_) fun _ _ e => e)))
    obtain ⟨c, rfl, hq⟩ := hv
    exact ⟨c, rfl, wpAny_pure ⟨_, rfl, hq⟩⟩
  unfold richCompare
  simp only [oneThing_ref, cmpInfo_NotEq]
  refine wpAny_holding (wpAny_bind (wpAny_cRoomFor (by omega) ?_))
  refine wpAny_bind (I.type.here (wpAny_bind (hb.here ?_)))
  split
  · rename_i q
    have e : subIn K tb (.ref C) = some false := by
      rcases Bool.or_eq_true_iff.mp hn with e | e
      · rw [beq_iff_eq.mp e] at q; simp at q
      · exact beq_iff_eq.mp e
    refine wpAny_bind ((looks_subIn X e).here ?_)
    simp only [Bool.false_eq_true, if_false]
    refine wpAny_bind (wpAny_mono one (fun r s' z => ?_) fun _ _ e => e)
    obtain ⟨v, rfl, hq⟩ := z
    exact wpAny_pure hq
  · refine wpAny_bind (wpAny_pure ?_)
    simp only [Bool.false_eq_true, if_false]
    refine wpAny_bind (wpAny_mono one (fun r s' z => ?_) fun _ _ e => e)
    obtain ⟨v, rfl, hq⟩ := z
    exact wpAny_pure hq
/-- i != a by a's own __eq__, i a whole number -/
theorem ne_refl {Q : Value → Shared → Prop} {i : Int} {t : Tok} {id : String} {name : String} {g : Int → Int → Sem Fin} (hu : A.units + 1 < cLine) (X : K.In s.heap) (I : InstAt s.heap x ox C od) (hd : ∀ p, ox.data ≠ .prim p)
    (hsl : Slot "int" "__ne__" id) (hen : entryFor table id = some (Builtin.Int.intBinary name g false)) (har : argsOk id ⟨[.int i t, .ref x], []⟩)
    (hm : mroIn K C (.type "object") = some true) (hne : findIn K (.ref C) "__ne__" = some (some (.builtin "object.__ne__"))) (hs : findIn K (.ref C) "__eq__" = some (some (.ref f))) (hf : isFn K (.ref f) = true) (hsub : subIn K (.ref C) (.type "int") = some false)
    (h : wpAny (model prog w) A.in1 (call (.ref f) [.ref x, .int i t]) (NeB2 Q) E s) : wpAny (model prog w) A (richCompare .NotEq (.int i t) (.ref x)) Q E s := by
  have one : wpAny (model prog w) A (tryCompare (.ref x) "__ne__" (.int i t)) (fun r s' => ∃ v, r = some v ∧ Q v s') E s := by
    unfold tryCompare
    refine wpAny_bind (ifBound_objNe X I hne (call_objNe hu X I hm hs hf (wpAny_mono h (fun v s' hv => ?_) fun _ _ e => e)))
    obtain ⟨c, rfl, hq⟩ := hv
    exact ⟨c, rfl, wpAny_pure ⟨_, rfl, hq⟩⟩
  have hx := I.at_
  have two : ∀ {R : Option Value → Shared → Prop}, R none s → wpAny (model prog w) A (tryCompare (.int i t) "__ne__" (.ref x)) R E s := fun {R} hR =>
    wpAny_tryCompare_declines (typeIs_int s i t) hsl (wpAny_call_entry hsl (typeIs_int s i t) hen (int_declines hx hd ⟨_, rfl, rfl, hR⟩) har)
  have L1 : Looks (model prog w) s.heap (typeOf (.ref x)) (.ref C) := I.type
  have L2 : Looks (model prog w) s.heap (typeOf (.int i t)) (.type "int") := Looks.of_pure rfl
  have hne' : (Value.type "int" != Value.ref C) = true := rfl
  have ho : oneThing? .NotEq (.int i t) (.ref x) = none := rfl
  unfold richCompare
  simp only [ho, cmpInfo_NotEq]
  refine wpAny_holding (wpAny_bind (wpAny_cRoomFor (by omega) ?_))
  refine wpAny_bind (L2.here (wpAny_bind (L1.here ?_)))
  simp only [hne', if_true]
  refine wpAny_bind ((looks_subIn X hsub).here ?_)
  simp only [Bool.false_eq_true, if_false]
  refine wpAny_bind (two ?_)
  simp only [Bool.not_false, if_true]
  refine wpAny_bind (wpAny_mono one (fun r s' z => ?_) fun _ _ e => e)
  obtain ⟨v, rfl, hq⟩ := z
  exact wpAny_pure hq
theorem truthy_own {Q : Bool → Shared → Prop} (X : K.In s.heap) (I : InstAt s.heap x ox C od) (hs : findIn K (.ref C) "__bool__" = some (some (.ref f))) (hf : isFn K (.ref f) = true)
    (h : wpAny M A (call (.ref f) [.ref x]) (PySem.W.BoolBack Q) E s) : wpAny M A (truthy (.ref x)) Q E s := by
  unfold truthy
  refine wpAny_bind (m := callSpecial? (.ref x) (Str.ofString "__bool__")) (special_fn X I hs (beq_iff_eq.mp hf) (wpAny_mono h (fun r s' hr => ?_) fun _ _ y => y))
  cases r <;> first | exact hr.elim | skip
  exact wpAny_pure hr
/-- bool(x) by x's own __bool__ -/
theorem bool_own {Q : Value → Shared → Prop} (X : K.In s.heap) (I : InstAt s.heap x ox C od) (hs : findIn K (.ref C) "__bool__" = some (some (.ref f))) (hf : isFn K (.ref f) = true)
    (h : wpAny (model prog w) A.in1.in1 (call (.ref f) [.ref x]) (PySem.W.BoolBack fun c s' => Q (.bool c) s') E s) : wpAny (model prog w) A (call (.type "bool") [.ref x]) Q E s := by
  refine callType_codes (T := "bool") (Bi := Builtin.«object.__init__») (Q₁ := fun r s₁ => ∃ c, r = .bool c ∧ Q r s₁) PySem.F.called_bool (PySem.F.typeCall_bool_1 _) PySem.F.entry_object_init ?_ ?_
  · refine codeAny_of_tree ?_
    show wpAny _ A.in1.in1 (do checkBuiltinCall "bool.__new__" ⟨[.type "bool", .ref x], []⟩; again (.builtin "bool.__new__" ⟨[.type "bool", .ref x], []⟩)) _ _ s
    refine wpAny_bind (wpAny_of_eq (PySem.F.newCall_bool_1 _) (wpAny_pure ⟨plainId_quiet (by decide +kernel) _, codeAny_builtin PySem.F.entry_bool_new ?_⟩))
    rw [Around.under_plainId (by decide +kernel) _]
    have t1 : wpAny (model prog w) A.in1.in1 (truthy (.ref x)) (fun c s' => Q (.bool c) s') E s := truthy_own X I hs hf h
    have f1 := PySem.F.conv_sub_bool
    repeat (any_goals (first | assumption | (with_reducible refine wpAny_mono t1 (fun c s' hq => ?_) (fun _ _ e => e)) | wp_step))
    all_goals first | exact ⟨_, rfl, hq⟩ | skip
  · rintro obj s₁ ⟨c, rfl, hq⟩
    exact ⟨rfl, PySem.F.args_object_init_2 _ _, object_init_meets PySem.F.called_bool.init.lookup PySem.F.called_bool.made (by decide) prog w A.in1 _ s₁ ⟨rfl, rfl, hq⟩⟩
end
end AzX
namespace Az
open PySem PySem.Spec PyProof.Rows L2 AzX
section
variable {X : Cx} {pins : List (Addr × Obj)} {σ : L2.St} {H : Hp} {s : Shared} {C f g : Addr} {k : Nat} {fd : FuncData} {ps : List Str} {sp : Sp} {E : XK} {CX : CXT} {dvs : List V} {ds : List Value}
/-- a def run by a built-in, n built-ins deep -/
theorem run_in {Q : VK} {A : Around} {us : List Value} {vs : List V} (F : FnOk X.prog X.w X.K X.mg X.base CX k f fd ps sp) (hr : Room k A) (hfr : A.frames = X.A.frames) (hb : Binds X.K fd ps []) (hx : Passes CX X E)
    (I : Inv X pins σ H s) (r : Vals vs us) (h : sp vs H Q E) : wpAny (model X.prog X.w) A (call (.ref f) us) (EP X pins σ Q) X.xe s := by
  have hl : us.length = ps.length := by rw [← r.length]; exact F.len _ _ _ _ h
  have e0 := I.env0
  have e1 : Env0 X.prog X.w X.K X.mg X.base A X.stack s H := ⟨hfr.trans e0.frames, e0.mod, e0.bs, e0.bsz, e0.funs, e0.frf, e0.hok, e0.bare⟩
  have hb' := hb s us I.kIn (by rw [List.append_nil]; exact hl)
  rw [List.append_nil] at hb'
  refine wpAny_call (codeAny_mono (F.run A X.stack s H ⟨us, []⟩ us vs Q E hr e1 hb' r h) fun r s' hq => ?_)
  cases r with
  | error e => exact hx pins σ H s e s' I hq
  | ok fl =>
    cases fl with
    | ret u => exact I.after hq
    | next => exact False.elim hq
    | brk => exact False.elim hq
    | cont => exact False.elim hq
def kNot (Q : VK) : VK := fun v H => ∃ c, v = .bl c ∧ Q (.bl (!c)) H
def rNeO (K : PySem.W.Frag) (C : Addr) (sp : Sp) (E : XK) : R2 := fun x y H Q => ∃ a dx fs, x = .ref a ∧ H a = some (.ins C dx fs) ∧ CmpY K C H y ∧ sp [x, y] H (kNot Q) E
theorem ne_back {Q : VK} {v : Value} {s' : Shared} (h : EP X pins σ (kNot Q) v s') : NeB2 (EP X pins σ Q) v s' := by
  obtain ⟨x, H', J, r, c, rfl, q⟩ := h
  cases r
  exact ⟨c, rfl, .bl (!c), H', J, rfl, q⟩
/-- the facts of != by an own __eq__ -/
structure NeC (K : PySem.W.Frag) (C f : Addr) : Prop where
  ob : PySem.W.mroIn K C (.type "object") = some true
  ne : PySem.W.findIn K (.ref C) "__ne__" = some (some (.builtin "object.__ne__"))
  eq : PySem.W.findIn K (.ref C) "__eq__" = some (some (.ref f))
  fn : PySem.W.isFn K (.ref f) = true
  int : PySem.W.subIn K (.ref C) (.type "int") = some false
/-- x != y, x of the class -/
theorem ne_ownV (N : NeC X.K C f) (F : FnOk X.prog X.w X.K X.mg X.base CX k f fd ps sp) (hr : Room (k + 1) X.A) (hb : Binds X.K fd ps []) (hx : Passes CX X E) : OpR X (compareOp .NotEq) (rNeO X.K C sp E) := by
  intro pins s σ H x y v u Q I rx ry h
  obtain ⟨a, dx, fs, rfl, ha, hy, q⟩ := h
  cases (show v = Value.ref a from rx)
  obtain ⟨od, J⟩ := inst_of I ha
  have hu : X.A.units + 1 < cLine := by have := hr.units; omega
  have one : wpAny (model X.prog X.w) X.A.in1 (call (.ref f) [.ref a, u]) (NeB2 (EP X pins σ Q)) X.xe s :=
    wpAny_mono (run_in (A := X.A.in1) (us := [.ref a, u]) (vs := [.ref a, y]) F hr.in1 rfl hb hx I (.cons rfl (.cons ry .nil)) q) (fun _ _ z => ne_back z) fun _ _ z => z
  show wpAny _ _ (richCompare .NotEq (.ref a) u) _ _ _
  rcases hy with ⟨b, dy, gs, rfl, hB⟩ | ⟨T, hT, h3⟩
  · cases (show u = Value.ref b from ry)
    obtain ⟨od2, J2⟩ := inst_of I hB
    exact AzX.ne_own hu I.kIn J J2.type (by unfold PySem.W.notFirst; simp) N.ob N.ne N.eq N.fn one
  · exact AzX.ne_own hu I.kIn J (ty_looks I ry hT) (by unfold PySem.W.notFirst; simp [h3]) N.ob N.ne N.eq N.fn one
def rNeR (C : Addr) (sp : Sp) (E : XK) : R2 := fun x y H Q => ∃ i a dx fs, x = .int i ∧ y = .ref a ∧ H a = some (.ins C dx fs) ∧ sp [y, x] H (kNot Q) E
/-- i != y -/
theorem ne_ownR (N : NeC X.K C f) (F : FnOk X.prog X.w X.K X.mg X.base CX k f fd ps sp) (hr : Room (k + 1) X.A) (hb : Binds X.K fd ps []) (hx : Passes CX X E) : OpR X (compareOp .NotEq) (rNeR C sp E) := by
  intro pins s σ H x y v u Q I rx ry h
  obtain ⟨i, a, dx, fs, rfl, rfl, ha, q⟩ := h
  obtain ⟨t, rfl⟩ := rx
  cases (show u = Value.ref a from ry)
  obtain ⟨od, J⟩ := inst_of I ha
  have hu : X.A.units + 1 < cLine := by have := hr.units; omega
  have one : wpAny (model X.prog X.w) X.A.in1 (call (.ref f) [.ref a, .int i t]) (NeB2 (EP X pins σ Q)) X.xe s :=
    wpAny_mono (run_in (A := X.A.in1) (us := [.ref a, .int i t]) (vs := [.ref a, .int i]) F hr.in1 rfl hb hx I (.cons rfl (.cons ⟨t, rfl⟩ .nil)) q) (fun _ _ z => ne_back z) fun _ _ z => z
  show wpAny _ _ (richCompare .NotEq (.int i t) (.ref a)) _ _ _
  exact AzX.ne_refl hu I.kIn J (fun p z => nomatch z) PySem.F.slot_int_ne PySem.F.entry_int_ne (PySem.F.args_int_ne_2 _ _) N.ob N.ne N.eq N.fn N.int one
def kBl (Q : Bool → Hp → Prop) : VK := fun v H => ∃ c, v = .bl c ∧ Q c H
/-- truth of x by its own __bool__ -/
theorem tru_own (hm : PySem.W.findIn X.K (.ref C) "__bool__" = some (some (.ref f))) (hf : PySem.W.isFn X.K (.ref f) = true) (F : FnOk X.prog X.w X.K X.mg X.base CX k f fd ps sp) (hr : Room k X.A) (hb : Binds X.K fd ps []) (hx : Passes CX X E) :
    TruR X (fun x H Q => ∃ a dx fs, x = .ref a ∧ H a = some (.ins C dx fs) ∧ sp [x] H (kBl Q) E) := by
  intro pins s σ H x v Q I rx h
  obtain ⟨a, dx, fs, rfl, ha, q⟩ := h
  cases (show v = Value.ref a from rx)
  obtain ⟨od, J⟩ := inst_of I ha
  refine AzX.truthy_own I.kIn J hm hf (wpAny_mono (run_in (us := [.ref a]) (vs := [.ref a]) F hr rfl hb hx I (.cons rfl .nil) q) (fun u s' z => ?_) fun _ _ z => z)
  obtain ⟨x, H', J, r, c, rfl, q⟩ := z
  cases r
  exact ⟨H', J, q⟩
def rBoolO (C : Addr) (sp : Sp) (E : XK) : List V → Hp → VK → Prop := fun xs H Q => ∃ a dx fs, xs = [.ref a] ∧ H a = some (.ins C dx fs) ∧ sp [.ref a] H (kBl fun c H' => Q (.bl c) H') E
/-- bool(x) by its own __bool__ -/
theorem call_boolO (hm : PySem.W.findIn X.K (.ref C) "__bool__" = some (some (.ref f))) (hf : PySem.W.isFn X.K (.ref f) = true) (F : FnOk X.prog X.w X.K X.mg X.base CX k f fd ps sp) (hr : Room (k + 2) X.A) (hb : Binds X.K fd ps []) (hx : Passes CX X E) : CallR X (.type "bool") (rBoolO C sp E) := by
  intro pins s σ H xs us Q I r h
  obtain ⟨a, dx, fs, rfl, ha, q⟩ := h
  obtain ⟨u, rfl, ru⟩ := vals1 r
  cases (show u = Value.ref a from ru)
  obtain ⟨od, J⟩ := inst_of I ha
  refine AzX.bool_own I.kIn J hm hf (wpAny_mono (run_in (A := X.A.in1.in1) (us := [.ref a]) (vs := [.ref a]) F hr.in1.in1 rfl hb hx I (.cons rfl .nil) q) (fun u s' z => ?_) fun _ _ z => z)
  obtain ⟨x, H', J, r, c, rfl, q⟩ := z
  cases r
  exact ⟨.bl c, H', J, rfl, q⟩
def kStr (Q : Str → Hp → Prop) : VK := fun v H => ∃ c, v = .str c ∧ Q c H
def rStrO (C : Addr) (sp : Sp) (E : XK) : List V → Hp → VK → Prop := fun xs H Q => ∃ a dx fs, xs = [.ref a] ∧ H a = some (.ins C dx fs) ∧ sp [.ref a] H (kStr fun c H' => Q (.str c) H') E
/-- str(x) by its own __str__ -/
theorem call_strO (hm : PySem.W.findIn X.K (.ref C) "__str__" = some (some (.ref f))) (hf : PySem.W.isFn X.K (.ref f) = true) (F : FnOk X.prog X.w X.K X.mg X.base CX k f fd ps sp) (hr : Room (k + 2) X.A) (hb : Binds X.K fd ps []) (hx : Passes CX X E) : CallR X (.type "str") (rStrO C sp E) := by
  intro pins s σ H xs us Q I r h
  obtain ⟨a, dx, fs, rfl, ha, q⟩ := h
  obtain ⟨u, rfl, ru⟩ := vals1 r
  cases (show u = Value.ref a from ru)
  obtain ⟨od, J⟩ := inst_of I ha
  have hu : X.A.in1.in1.units < cLine := by have := hr.un; show X.A.units + 1 + 1 < _; omega
  refine PySem.W.kso_call hu I.kIn J hm hf (wpAny_mono (run_in (A := X.A.in1.in1) (us := [.ref a]) (vs := [.ref a]) F hr.in1.in1 rfl hb hx I (.cons rfl .nil) q) (fun u s' z => ?_) fun _ _ z => z)
  obtain ⟨x, H', J, r, c, rfl, q⟩ := z
  obtain ⟨t, rfl⟩ := r
  exact ⟨.str c, H', J, ⟨t, rfl⟩, q⟩
end
end Az

/-! The head by facts: defs anywhere (static ones, class ones, those with __class__), own errors, any further Bool. -/
namespace Hz
open PySem PySem.Spec PyProof.Rows L2 He
/-- the def of a static or class method, of a property, whose record stands in the class -/
def sAd (K : PySem.W.Frag) (C m : Str) : Addr := match K.lookup (ma K (ga K C) m) with
  | some ⟨_, _, .fields vs, _⟩ => (match vs.toList with
    | .ref a :: _ => a
    | _ => 0)
  | _ => 0
/-- where a def stands: a global's, a class's method, a method behind a record -/
inductive At where
  | g (x : Str)
  | m (C x : Str)
  | s (C x : Str)
def At.ad (K : PySem.W.Frag) : At → Addr
  | .g x => ga K x
  | .m C x => ma K (ga K C) x
  | .s C x => sAd K C x
abbrev FnZ : Type := Option (Str × Str × Arguments × FuncBody × Scope × Addr × List Str × Addr)
def fnZ (K : PySem.W.Frag) (a : Addr) : FnZ := match K.lookup a with
  | some ⟨_, _, .func fd, _⟩ => some (fd.name, fd.qualname, fd.params, fd.body, fd.scope, fd.globals, fd.closure.map fun q => q.1, fd.builtins)
  | _ => none
structure DefZ where
  at_ : At
  name : Str
  qual : Str
  st : Stmt
  dfl : List Dv := []
  clo : Bool := false
def DefZ.val (d : DefZ) : FnZ := some (d.name, d.qual, defArgs d.st, FuncBody.stmts (defBody d.st), defScope d.st, mainGlobals, if d.clo then [("__class__" : Str)] else [], builtinsNs)
def DefZ.dvs (K : PySem.W.Frag) (d : DefZ) : List V := d.dfl.map (Dv.v K)
def DefZ.ok (K : PySem.W.Frag) (d : DefZ) : Bool := PySem.W.keepIn K (.ref (d.at_.ad K)) && (match K.lookup (d.at_.ad K) with
  | some ⟨_, _, .func fd, _⟩ => PySem.W.codeIn K fd.code d.qual && dflB K fd.defaults (d.dvs K)
  | _ => false)
abbrev FnP (K : PySem.W.Frag) (d : DefZ) (fd : FuncData) : Prop := FunD K d.name d.qual (defArgs d.st) (defBody d.st) (defScope d.st) (d.dvs K) [] (d.at_.ad K) fd
theorem DefZ.funD {K : PySem.W.Frag} {d : DefZ} (hc : d.clo = false) (e : fnZ K (d.at_.ad K) = d.val) (c : d.ok K = true) : ∃ fd, FnP K d fd := by
  obtain ⟨kp, c2⟩ := ba c
  unfold fnZ at e
  cases q : K.lookup (d.at_.ad K) with
  | none =>
    rw [q] at c2
    cases c2
  | some o =>
    obtain ⟨oc, od, dt, osl⟩ := o
    rw [q] at c2 e
    cases dt with
    | func fd =>
      obtain ⟨n1, n2, n3, n4, n5, n6, n7, n8, n9, n10, n11, n12, n13, n14, n15⟩ := fd
      have e2 : (some (n1, n2, n3, n4, n5, n6, n7.map fun q => q.1, n15) : FnZ) = some (d.name, d.qual, defArgs d.st, FuncBody.stmts (defBody d.st), defScope d.st, mainGlobals, if d.clo then [("__class__" : Str)] else [], builtinsNs) := e
      rw [hc] at e2
      simp only [Option.some.injEq, Prod.mk.injEq] at e2
      obtain ⟨h1, h2, h3, h4, h5, h6, h7, h8⟩ := e2
      have h7' : n7 = [] := by
        cases n7 with
        | nil => rfl
        | cons a r => cases h7
      subst h1 h2 h3 h4 h5 h6 h7' h8
      have c3 : (PySem.W.codeIn K n13 d.qual && dflB K n8 (d.dvs K)) = true := c2
      obtain ⟨k1, k2⟩ := ba c3
      exact ⟨_, ⟨oc, od, n8, n9, n10, n11, n12, n13, n14, osl, rfl, q, k1, dflB_ok k2, .inl rfl⟩, kp⟩
    | _ => cases c2
/-! ### own errors -/
def excB (K : PySem.W.Frag) (C : Addr) : Bool := match K.lookup C with
  | some ⟨.type "type", _, .cls cd, sl⟩ => (match cd.mro, sl.toList with
    | .ref C' :: bm, [_, _, _, _, some (.builtin n), _] => C' == C && (n == "ValueError.__new__" && (!cd.hasDel && (cd.hasDict && PySem.PX.refsVE bm)))
    | _, _ => false)
  | _ => false
theorem excB_ok {K : PySem.W.Frag} {C : Addr} (q : excB K C = true) : ∃ nm q N bs bm sn sub ab col dd k0 k1 k2 k3 k5, K.lookup C = some (excClassObj nm q C N bs bm true sn sub ab col dd k0 k1 k2 k3 k5 "ValueError.__new__") ∧ PySem.PX.refsVE bm = true := by
  unfold excB at q
  split at q
  · rename_i dd cd sl ho
    split at q
    · rename_i C' bm k0 k1 k2 k3 n k5 hm hs
      simp only [Bool.and_eq_true, beq_iff_eq, Bool.not_eq_true'] at q
      obtain ⟨rfl, rfl, hdel, hdd, hv⟩ := q
      obtain ⟨nm, bs, mro, ns, qn, hd, sn, sub, ab, col, del⟩ := cd
      dsimp only at hm hdel hdd
      subst hm hdel hdd
      have hsl : sl = #[k0, k1, k2, k3, some (.builtin "ValueError.__new__"), k5] := by
        obtain ⟨l⟩ := sl
        simp only at hs
        rw [hs]
      subst hsl
      exact ⟨nm, qn, ns, bs, bm, sn, sub, ab, col, dd, k0, k1, k2, k3, k5, ho, hv⟩
    · cases q
  · cases q
/-- the code object's file, the class in the cell -/
def cellB (K : PySem.W.Frag) (cc C : Addr) : Bool := match K.lookup cc with
  | some ⟨_, _, .cell (some (.ref C')), _⟩ => C' == C
  | _ => false
theorem cellB_ok {K : PySem.W.Frag} {cc C : Addr} (h : cellB K cc C = true) : ∃ cl cld csl, K.lookup cc = some ⟨cl, cld, .cell (some (.ref C)), csl⟩ := by
  unfold cellB at h
  split at h
  · rename_i a b c d e
    rw [beq_iff_eq.mp h] at e
    exact ⟨_, _, _, e⟩
  · cases h
def strB (file : Str) : Option Value → Bool
  | some (.str z _) => file == z
  | _ => false
theorem strB_ok {file : Str} {o : Option Value} (h : strB file o = true) : ∃ z t, o = some (.str z t) ∧ (file == z) = true := by
  unfold strB at h
  split at h
  · exact ⟨_, _, rfl, h⟩
  · cases h
def fileB (file : Str) (K : PySem.W.Frag) (cda : Addr) : Bool := match K.lookup cda with
  | some ⟨_, _, .fields vs, _⟩ => strB file vs[2]?
  | _ => false
theorem fileB_ok {file : Str} {K : PySem.W.Frag} {cda : Addr} (h : fileB file K cda = true) : ∃ ccl cdd vs ccs z tf, K.lookup cda = some ⟨ccl, cdd, .fields vs, ccs⟩ ∧ vs[2]? = some (.str z tf) ∧ (file == z) = true := by
  unfold fileB at h
  split at h
  · rename_i a b c d e
    obtain ⟨z, t, h1, h2⟩ := strB_ok h
    exact ⟨_, _, _, _, z, t, e, h1, h2⟩
  · cases h
def nonB : Value → Bool
  | .none => true
  | _ => false
theorem nonB_ok {v : Value} (h : nonB v = true) : v = .none := by
  cases v <;> first | rfl | cases h
def cdOf : Value → Addr
  | .ref a => a
  | _ => 0
def clB (K : PySem.W.Frag) (C : Addr) : List (Str × Addr) → Bool
  | [q] => cellB K q.2 C
  | _ => false
theorem clB_ok {K : PySem.W.Frag} {C : Addr} {l : List (Str × Addr)} (h : clB K C l = true) : ∃ y cc, l = [(y, cc)] ∧ cellB K cc C = true := by
  unfold clB at h
  split at h
  · rename_i q
    exact ⟨q.1, q.2, rfl, h⟩
  · cases h
def iniB (file : Str) (K : PySem.W.Frag) (C f : Addr) : Bool := match K.lookup f with
  | some ⟨_, _, .func fd, _⟩ => nonB fd.defaults && (fileB file K (cdOf fd.code) && clB K C fd.closure)
  | _ => false
/-- what is asked of an own error's class of the fields fs -/
def errB (file : Str) (K : PySem.W.Frag) (x : Str) (fs : List Str) : Bool :=
  excB K (ga K x) && (iniB file K (ga K x) (ma K (ga K x) "__init__") && (decide (PySem.W.mroIn K (ga K x) (.ref (ga K x)) = some true) && (decide (PySem.W.ks_superIn K (ga K x) (ga K x) "__init__" = some (some (.builtin "ValueError.__init__"))) &&
  (decide (PySem.W.subIn K (.ref (ga K x)) (.type "ValueError") = some true) && (decide (PySem.W.findIn K (.ref (ga K x)) "__setattr__" = some (some (.builtin "object.__setattr__"))) && (decide (PySem.W.findIn K (.ref (ga K x)) "__init__" = some (some (.ref (ma K (ga K x) "__init__")))) &&
  (decide (PySem.W.typeIn K (.ref (ma K (ga K x) "__init__")) = some (.type "function")) && (PySem.W.keepIn K (.ref (ga K x)) && (decide (PySem.W.nsIn K cStatics "thirdparty.any" = some none) && fs.all fun f => decide (PySem.W.findIn K (.ref (ga K x)) f = some none))))))))))
/-- ExK of it: by the def's datum d (its closure told) and errB -/
theorem exk_of {P : Program} {K : PySem.W.Frag} {mg : Str → Option Value} {x : Str} {fs : List Str} {d : DefZ} (hat : d.at_ = .m x "__init__") (hn : d.name = "__init__") (hc : d.clo = true) (e : fnZ K (d.at_.ad K) = d.val) (c : d.ok K = true)
    (b : errB (P.main.file : Str) K x fs = true) (mgS : mg "super" = none) (top : (P.main.scope.names.lookup ("super" : Str)).isSome = false) :
    AzX.ExK P K mg (ga K x) (ma K (ga K x) "__init__") (defArgs d.st) (defBody d.st) (defScope d.st) ∧ ∀ f ∈ fs, PySem.W.findIn K (.ref (ga K x)) f = some none := by
  obtain ⟨b1, b⟩ := ba b
  obtain ⟨b2, b⟩ := ba b
  obtain ⟨b3, b⟩ := ba b
  obtain ⟨b4, b⟩ := ba b
  obtain ⟨b5, b⟩ := ba b
  obtain ⟨b6, b⟩ := ba b
  obtain ⟨b7, b⟩ := ba b
  obtain ⟨b8, b⟩ := ba b
  obtain ⟨b9, b⟩ := ba b
  obtain ⟨b10, b11⟩ := ba b
  refine ⟨⟨?_, excB_ok b1, of_decide_eq_true b3, of_decide_eq_true b4, of_decide_eq_true b5, of_decide_eq_true b10, of_decide_eq_true b6, mgS, top, of_decide_eq_true b7, of_decide_eq_true b8, b9⟩, fun f hf => of_decide_eq_true (List.all_eq_true.mp b11 f hf)⟩
  have e : fnZ K ((At.m x "__init__").ad K) = d.val := by rw [← hat]; exact e
  obtain ⟨kp, c2⟩ := ba c
  have c2 : (match K.lookup (ma K (ga K x) "__init__") with
    | some ⟨_, _, .func fd, _⟩ => PySem.W.codeIn K fd.code d.qual && dflB K fd.defaults (d.dvs K)
    | _ => false) = true := by rw [hat] at c2; exact c2
  have e : fnZ K (ma K (ga K x) "__init__") = d.val := e
  unfold fnZ at e
  unfold iniB at b2
  cases q : K.lookup (ma K (ga K x) "__init__") with
  | none =>
    rw [q] at c2
    cases c2
  | some o =>
    obtain ⟨oc, od, dt, osl⟩ := o
    rw [q] at c2 e b2
    cases dt with
    | func fd =>
      obtain ⟨n1, n2, n3, n4, n5, n6, n7, n8, n9, n10, n11, n12, n13, n14, n15⟩ := fd
      have e2 : (some (n1, n2, n3, n4, n5, n6, n7.map fun q => q.1, n15) : FnZ) = some (d.name, d.qual, defArgs d.st, FuncBody.stmts (defBody d.st), defScope d.st, mainGlobals, if d.clo then [("__class__" : Str)] else [], builtinsNs) := e
      rw [hc] at e2
      simp only [Option.some.injEq, Prod.mk.injEq] at e2
      obtain ⟨h1, h2, h3, h4, h5, h6, h7, h8⟩ := e2
      have c3 : (PySem.W.codeIn K n13 d.qual && dflB K n8 (d.dvs K)) = true := c2
      obtain ⟨k1, k2⟩ := ba c3
      have b3 : (nonB n8 && (fileB (P.main.file : Str) K (cdOf n13) && clB K (ga K x) n7)) = true := b2
      obtain ⟨z1, z2⟩ := ba b3
      obtain ⟨z2, z3⟩ := ba z2
      obtain ⟨cda, ec⟩ := codeIn_ref k1
      rw [ec] at z2 k1
      obtain ⟨ccl, cdd, vs, ccs, z, tf, l2, hz, hf⟩ := fileB_ok z2
      obtain ⟨y, cc, e7, z3⟩ := clB_ok z3
      obtain ⟨cl, cld, csl, l3⟩ := cellB_ok z3
      have e8 := nonB_ok z1
      rw [e7] at h7
      have ey : y = "__class__" := by
        have h9 : [y] = [("__class__" : Str)] := h7
        injection h9
      rw [ey] at e7
      rw [hn] at h1
      subst h1 h2 h3 h4 h5 h6 h8 e7 e8 ec
      exact ⟨oc, od, osl, d.qual, n9, n10, n11, n12, cda, n14, cc, ccl, cdd, vs, ccs, z, tf, cl, cld, csl, rfl, k1, l2, hz, hf, l3⟩
    | _ => cases c2
/-! ### the Hook -/
/-- what the names reach in n steps, and the interpreter's own statics -/
def asZ (g : Addr → Option Obj) (n : Nat) : List Addr := cStatics :: asD g n
/-- what is told -/
structure Says (fz : List DefZ) (tf : List Defn) (ex : PySem.W.Frag → List Bool) (h : Heap) (K : PySem.W.Frag) : Prop where
  val : fz.map (fun d => fnZ K (d.at_.ad K)) = fz.map DefZ.val
  ok : ∀ d ∈ fz, d.ok K = true
  more : ∀ b ∈ ex K, b = true
  hd : ∀ p ∈ tf, PySem.W.codeHdIn K (cT K p).1 (cT K p).2 = true
  out : ∀ p ∈ tf, K.lookup (cT K p).2 = none
  empty : ∀ p ∈ tf, h.get? (cT K p).2 = some { cls := .none, data := .fields #[] }
abbrev AlZ : Type := List FnZ × Bool
def obsK (g : Addr → Option Obj) (fz : List DefZ) (tf : List Defn) (ex : PySem.W.Frag → List Bool) (K : PySem.W.Frag) : AlZ := (fz.map fun d => fnZ K (d.at_.ad K), (fz.all fun d => d.ok K) && ((ex K).all id && tabsB g tf K))
def obsZ (n : Nat) (fz : List DefZ) (tf : List Defn) (ex : PySem.W.Frag → List Bool) (g : Addr → Option Obj) : AlZ := obsK g fz tf ex (frT g (asZ g n))
def valZ (fz : List DefZ) : AlZ := (fz.map DefZ.val, true)
theorem says_of {n : Nat} {fz : List DefZ} {tf : List Defn} {ex : PySem.W.Frag → List Bool} {h : Heap} (e : obsZ n fz tf ex h.get? = valZ fz) : Says fz tf ex h (frT h.get? (asZ h.get? n)) := by
  have e1 : fz.map (fun d => fnZ (frT h.get? (asZ h.get? n)) (d.at_.ad (frT h.get? (asZ h.get? n)))) = fz.map DefZ.val := congrArg (fun z : AlZ => z.1) e
  have e2 : ((fz.all fun d => d.ok (frT h.get? (asZ h.get? n))) && ((ex (frT h.get? (asZ h.get? n))).all id && tabsB h.get? tf (frT h.get? (asZ h.get? n)))) = true := congrArg (fun z : AlZ => z.2) e
  obtain ⟨h1, h2⟩ := ba e2
  obtain ⟨h2, h5⟩ := ba h2
  have key : ∀ p ∈ tf, PySem.W.codeHdIn (frT h.get? (asZ h.get? n)) (cT (frT h.get? (asZ h.get? n)) p).1 (cT (frT h.get? (asZ h.get? n)) p).2 = true ∧ ∃ o, h.get? (cT (frT h.get? (asZ h.get? n)) p).2 = some o ∧ emptyTab o = true := fun p hp => by
    obtain ⟨h3, h4⟩ := ba (List.all_eq_true.mp h5 p hp)
    refine ⟨h3, ?_⟩
    cases q : h.get? (cT (frT h.get? (asZ h.get? n)) p).2 with
    | none =>
      rw [q] at h4
      cases h4
    | some o =>
      rw [q] at h4
      exact ⟨o, rfl, h4⟩
  exact ⟨e1, fun d hd => List.all_eq_true.mp h1 d hd, fun b hb => List.all_eq_true.mp h2 b hb, fun p hp => (key p hp).1, fun p hp => by
    obtain ⟨_, o, q, z⟩ := key p hp
    exact frT_none q z, fun p hp => by
    obtain ⟨_, o, q, z⟩ := key p hp
    rw [q, emptyTab_eq z]⟩
def hookZ (n : Nat) (fz : List DefZ) (tf : List Defn) (ex : PySem.W.Frag → List Bool) : PySem.W.Hook where
  α := AlZ
  obs := fun s => obsZ n fz tf ex s.heap.get?
  val := fun _ => valZ fz
  says := fun _ h => ∃ K : PySem.W.Frag, K.In h ∧ Says fz tf ex h K
  of := fun _ _ e => ⟨_, frT_in, says_of e⟩
  keeps := fun _ _ _ ⟨K, hK, c⟩ k => ⟨K, PySem.W.Frag.In.keeps hK k, ⟨c.val, c.ok, c.more, c.hd, c.out, fun p hp => k _ _ (c.empty p hp)⟩⟩
theorem obsZ_eq {n : Nat} {fz : List DefZ} {tf : List Defn} {ex : PySem.W.Frag → List Bool} {g : Addr → Option Obj} {s : Shared} (h : ∀ a, g a = s.heap.get? a) : obsZ n fz tf ex g = (hookZ n fz tf ex).obs s := by
  have e : g = s.heap.get? := funext h
  rw [e] <;> rfl
section
variable {fz : List DefZ} {tf : List Defn} {ex : PySem.W.Frag → List Bool} {h : Heap} {K : PySem.W.Frag}
theorem Says.at (c : Says fz tf ex h K) (i : Nat) {d : DefZ} (e : fz[i]? = some d := by rfl) : fnZ K (d.at_.ad K) = d.val ∧ d.ok K = true := by
  have e2 : (fz.map fun d => fnZ K (d.at_.ad K))[i]? = (fz.map DefZ.val)[i]? := by rw [c.val]
  rw [List.getElem?_map, List.getElem?_map, e] at e2
  exact ⟨Option.some.inj e2, c.ok d (List.mem_of_getElem? e)⟩
theorem Says.def_ (c : Says fz tf ex h K) (i : Nat) {d : DefZ} (e : fz[i]? = some d := by rfl) (hc : d.clo = false := by rfl) : ∃ fd, FnP K d fd := DefZ.funD hc (c.at i e).1 (c.at i e).2
theorem Says.fact (c : Says fz tf ex h K) (i : Nat) {b : Bool} (e : (ex K)[i]? = some b) : b = true := c.more b (List.mem_of_getElem? e)
end
end Hz

/-! A def's promise with its bindings, and the rules over it. -/
namespace Az
open PySem PySem.Spec PyProof.Rows L2 AzX ClX Hz He
/-- the def at f keeps the promise sp; dvs: its defaults -/
structure Dn (P : Program) (w : World) (K : PySem.W.Frag) (mg : Str → Option Value) (base : Heap) (CX : CXT) (k : Nat) (f : Addr) (ps : List Str) (dvs : List V) (sp : Sp) : Prop where
  kp : PySem.W.keepIn K (.ref f) = true
  ex : ∃ fd, FnOk P w K mg base CX k f fd ps sp ∧ ∀ j, j ≤ dvs.length → ∃ ds, Vals (dvs.drop j) ds ∧ Binds K fd ps ds
structure DnG (P : Program) (w : World) (K : PySem.W.Frag) (mg : Str → Option Value) (base : Heap) (CX : CXT) (k : Nat) (f : Addr) (ps : List Str) (dvs : List V) (sp : Sp) : Prop where
  kp : PySem.W.keepIn K (.ref f) = true
  ex : ∃ fd, FnG P w K mg base CX k f fd ps sp ∧ ∀ j, j ≤ dvs.length → ∃ ds, Vals (dvs.drop j) ds ∧ Binds K fd ps ds
section
variable {P : Program} {w : World} {K : PySem.W.Frag} {mg : Str → Option Value} {base : Heap} {CX : CXT} {k : Nat} {f : Addr} {ps : List Str} {dvs : List V} {sp : Sp}
theorem Dn.b0 (D : Dn P w K mg base CX k f ps [] sp) : ∃ fd, FnOk P w K mg base CX k f fd ps sp ∧ Binds K fd ps [] := by
  obtain ⟨fd, G, b⟩ := D.ex
  obtain ⟨ds, v, b⟩ := b 0 (Nat.zero_le _)
  cases v
  exact ⟨fd, G, b⟩
theorem DnG.b0 (D : DnG P w K mg base CX k f ps [] sp) : ∃ fd, FnG P w K mg base CX k f fd ps sp ∧ Binds K fd ps [] := by
  obtain ⟨fd, G, b⟩ := D.ex
  obtain ⟨ds, v, b⟩ := b 0 (Nat.zero_le _)
  cases v
  exact ⟨fd, G, b⟩
theorem Dn.g (D : Dn P w K mg base CX k f ps dvs sp) : DnG P w K mg base CX k f ps dvs sp := by
  obtain ⟨fd, G, b⟩ := D.ex
  exact ⟨D.kp, fd, FnG.of G, b⟩
end
/-- a def without defaults, as Fun -/
theorem fun_of {K : PySem.W.Frag} {d : DefZ} {fd : FuncData} (F : FnP K d fd) (hd : d.dfl = []) : Fun K d.name d.qual d.st (d.at_.ad K) fd := by
  obtain ⟨⟨oc, od, dV, kV, doc, pm, an, cdv, ct, osl, e, lk, hcd, hD, _⟩, kp⟩ := F
  have hz : d.dvs K = [] := by unfold DefZ.dvs; rw [hd]; rfl
  rcases hD with ⟨_, e2⟩ | ⟨e2, _⟩
  · subst e2
    exact ⟨⟨oc, od, kV, doc, pm, an, cdv, ct, osl, e, lk, hcd⟩, kp⟩
  · exact absurd hz e2
section
variable {P : Program} {w : World} {K : PySem.W.Frag} {mg : Str → Option Value} {base : Heap} {CX : CXT} {k : Nat} {ps : List Str} {sp : Sp} {d : DefZ}
theorem dn_mk {fd : FuncData} (F : FnP K d fd) (hd : d.dfl = []) (h : ∀ (kV doc pm : Value) (an : Option Addr) (cdv ct : Value) (us : List Value), us.length = ps.length → bindArgs (PySem.W.fnOf d.name d.qual (defArgs d.st) (defBody d.st) (defScope d.st) .none kV doc pm an cdv ct) ⟨us, []⟩ = pure (ps.zip us))
    (G : FnOk P w K mg base CX k (d.at_.ad K) fd ps sp) : Dn P w K mg base CX k (d.at_.ad K) ps [] sp := by
  have hz : d.dvs K = [] := by unfold DefZ.dvs; rw [hd]; rfl
  have F' : FunD K d.name d.qual (defArgs d.st) (defBody d.st) (defScope d.st) [] [] (d.at_.ad K) fd := by rw [← hz]; exact F
  exact ⟨F.kp, fd, G, fun j _ => ⟨[], by simp [List.drop_nil]; exact .nil, F'.bindsN h⟩⟩
theorem dn_mkG {fd : FuncData} (F : FnP K d fd) (hd : d.dfl = []) (h : ∀ (kV doc pm : Value) (an : Option Addr) (cdv ct : Value) (us : List Value), us.length = ps.length → bindArgs (PySem.W.fnOf d.name d.qual (defArgs d.st) (defBody d.st) (defScope d.st) .none kV doc pm an cdv ct) ⟨us, []⟩ = pure (ps.zip us))
    (G : FnG P w K mg base CX k (d.at_.ad K) fd ps sp) : DnG P w K mg base CX k (d.at_.ad K) ps [] sp := by
  have hz : d.dvs K = [] := by unfold DefZ.dvs; rw [hd]; rfl
  have F' : FunD K d.name d.qual (defArgs d.st) (defBody d.st) (defScope d.st) [] [] (d.at_.ad K) fd := by rw [← hz]; exact F
  exact ⟨F.kp, fd, G, fun j _ => ⟨[], by simp [List.drop_nil]; exact .nil, F'.bindsN h⟩⟩
/-- one default -/
theorem dn_mk1 {fd : FuncData} {v : Dv} {n : Nat} (F : FnP K d fd) (hd : d.dfl = [v]) (hn : ps.length = n + 1)
    (h0 : ∀ (T : Addr) (kV doc pm : Value) (an : Option Addr) (cdv ct : Value) (us its : List Value), us.length = n → its.length = 1 → ∃ k, bindArgs (PySem.W.fnOf d.name d.qual (defArgs d.st) (defBody d.st) (defScope d.st) (.ref T) kV doc pm an cdv ct) ⟨us, []⟩ = seqItems? (.ref T) >>= k ∧ k (some its.toArray) = pure (ps.zip (us ++ its.drop 0)))
    (h1 : ∀ (T : Addr) (kV doc pm : Value) (an : Option Addr) (cdv ct : Value) (us its : List Value), us.length = n + 1 → its.length = 1 → ∃ k, bindArgs (PySem.W.fnOf d.name d.qual (defArgs d.st) (defBody d.st) (defScope d.st) (.ref T) kV doc pm an cdv ct) ⟨us, []⟩ = seqItems? (.ref T) >>= k ∧ k (some its.toArray) = pure (ps.zip (us ++ its.drop 1)))
    (G : FnOk P w K mg base CX k (d.at_.ad K) fd ps sp) : Dn P w K mg base CX k (d.at_.ad K) ps [v.v K] sp := by
  have hz : d.dvs K = [v.v K] := by unfold DefZ.dvs; rw [hd]; rfl
  have F' : FunD K d.name d.qual (defArgs d.st) (defBody d.st) (defScope d.st) [v.v K] [] (d.at_.ad K) fd := by rw [← hz]; exact F
  refine ⟨F.kp, fd, G, fun j hj => ?_⟩
  match j, hj with
  | 0, _ => exact F'.binds1 n 0 (by simp) (by simp; omega) h0
  | 1, _ => exact F'.binds1 (n + 1) 1 (by simp) (by simp; omega) h1
end
section
variable {X : Cx} {CX : CXT} {k : Nat} {f C : Addr} {ps : List Str} {sp : Sp} {dvs dv : List V} {E : XK} {x m : Str} {p pos apos : Pos} {o e : Expr} {es : List Expr} {t : TA} {ta : TE}
theorem pe_callD (D : Dn X.prog X.w X.K X.mg X.base CX k f ps [] sp) (hr : Room k X.A) (hg : Gl X x) (hm : X.mg x = some (.ref f)) (hx : Passes CX X E)
    (ha : PA X (e :: es) t) (hdb : (x == ("__debug__" : Str)) = false := by decide) (he : starEach (e :: es) X.env = (false, eval e X.env) :: starEach es X.env := by rfl) (hpl : (backTo pos (starEach es X.env)).any (·.1) = false := by rfl) :
    PE X (.Call (.Name x p) (e :: es) [] pos) (tCall sp [] E t) := by
  obtain ⟨fd, G, b⟩ := D.b0
  exact pe_call G hr hg hm D.kp b .nil hx ha hdb he hpl
theorem pe_callGD (D : DnG X.prog X.w X.K X.mg X.base CX k f ps [] sp) (hr : Room k X.A) (hgd : X.A.guards = some []) (hg : Gl X x) (hm : X.mg x = some (.ref f)) (hx : Passes CX X E)
    (ha : PA X (e :: es) t) (hdb : (x == ("__debug__" : Str)) = false := by decide) (he : starEach (e :: es) X.env = (false, eval e X.env) :: starEach es X.env := by rfl) (hpl : (backTo pos (starEach es X.env)).any (·.1) = false := by rfl) :
    PE X (.Call (.Name x p) (e :: es) [] pos) (tCall sp [] E t) := by
  obtain ⟨fd, G, b⟩ := D.b0
  exact pe_callG G hr hgd hg hm D.kp b .nil hx ha hdb he hpl
/-- some defaults fill up -/
theorem pe_callDd (D : Dn X.prog X.w X.K X.mg X.base CX k f ps dvs sp) (j : Nat) (hr : Room k X.A) (hg : Gl X x) (hm : X.mg x = some (.ref f)) (hx : Passes CX X E)
    (ha : PA X (e :: es) t) (hj : j ≤ dvs.length := by decide) (hv : dvs.drop j = dv := by rfl) (hdb : (x == ("__debug__" : Str)) = false := by decide) (he : starEach (e :: es) X.env = (false, eval e X.env) :: starEach es X.env := by rfl) (hpl : (backTo pos (starEach es X.env)).any (·.1) = false := by rfl) :
    PE X (.Call (.Name x p) (e :: es) [] pos) (tCall sp dv E t) := by
  obtain ⟨fd, G, b⟩ := D.ex
  obtain ⟨ds, v, b⟩ := b j hj
  rw [hv] at v
  exact pe_call G hr hg hm D.kp b v hx ha hdb he hpl
theorem pe_makeD (M : Mk X.K C f) (D : Dn X.prog X.w X.K X.mg X.base CX k f ps dvs sp) (j : Nat) (hr : Room (k + 1) X.A) (hg : Gl X x) (hm : X.mg x = some (.ref C)) (hx : Passes CX X E)
    (ha : PA X (e :: es) t) (hj : j ≤ dvs.length := by decide) (hv : dvs.drop j = dv := by rfl) (hdb : (x == ("__debug__" : Str)) = false := by decide) (he : starEach (e :: es) X.env = (false, eval e X.env) :: starEach es X.env := by rfl) (hpl : (backTo pos (starEach es X.env)).any (·.1) = false := by rfl) :
    PE X (.Call (.Name x p) (e :: es) [] pos) (tMake C sp dv E t) := by
  obtain ⟨fd, G, b⟩ := D.ex
  obtain ⟨ds, v, b⟩ := b j hj
  rw [hv] at v
  exact pe_make M G hr hg hm b v hx ha hdb he hpl
theorem pe_smethD {q : Addr} {mc : Value} {pl : Sem Bool} (he : PE X o ta) (r : CRead X.K C mc) (c : SMet X.K C mc m q f) (D : Dn X.prog X.w X.K X.mg X.base CX k f ps [] sp) (hr : Room k X.A) (hx : Passes CX X E) (ha : PA X (e :: es) t)
    (hst : starEach (e :: es) X.env = (false, eval e X.env) :: starEach es X.env := by rfl) (hpl : (backTo pos (starEach es X.env)).any (·.1) = false := by rfl)
    (ht : eval (.Call (.Attribute o m apos) (e :: es) [] pos) X.env = (do
      let ov ← eval o X.env
      standAt apos.atName
      let (f, first) ← holding [ov] (getMethod ov m pl)
      callWith pos f first (backTo pos (starEach (e :: es) X.env)) (backToKw pos (keywordEach [] X.env))) := by rfl) :
    PE X (.Call (.Attribute o m apos) (e :: es) [] pos) (tSMeth C sp [] E ta t) := by
  obtain ⟨fd, G, b⟩ := D.b0
  exact pe_smeth he r c G hr b .nil hx ha hst hpl ht
theorem pe_methD {pl : Sem Bool} (he : PE X o ta) (c : Cls X.K C) (hm : Meth X.K C m f) (D : Dn X.prog X.w X.K X.mg X.base CX k f ps [] sp) (hr : Room k X.A) (hx : Passes CX X E) (ha : PA X (e :: es) t)
    (hst : starEach (e :: es) X.env = (false, eval e X.env) :: starEach es X.env := by rfl) (hpl : (backTo pos (starEach es X.env)).any (·.1) = false := by rfl)
    (ht : eval (.Call (.Attribute o m apos) (e :: es) [] pos) X.env = (do
      let ov ← eval o X.env
      standAt apos.atName
      let (f, first) ← holding [ov] (getMethod ov m pl)
      callWith pos f first (backTo pos (starEach (e :: es) X.env)) (backToKw pos (keywordEach [] X.env))) := by rfl) :
    PE X (.Call (.Attribute o m apos) (e :: es) [] pos) (tMeth C m sp [] E ta t) := by
  obtain ⟨fd, G, b⟩ := D.b0
  exact pe_meth he c hm G hr b .nil hx ha hst hpl ht
theorem pe_methD0 {pl : Sem Bool} (he : PE X o ta) (c : Cls X.K C) (hm : Meth X.K C m f) (D : Dn X.prog X.w X.K X.mg X.base CX k f ps [] sp) (hr : Room k X.A) (hx : Passes CX X E)
    (ht : eval (.Call (.Attribute o m apos) [] [] pos) X.env = (do
      let ov ← eval o X.env
      standAt apos.atName
      let (f, first) ← holding [ov] (getMethod ov m pl)
      callWith pos f first (backTo pos (starEach [] X.env)) (backToKw pos (keywordEach [] X.env))) := by rfl) :
    PE X (.Call (.Attribute o m apos) [] [] pos) (tMeth C m sp [] E ta tNil) := by
  obtain ⟨fd, G, b⟩ := D.b0
  exact pe_meth0 he c hm G hr b .nil hx ht
end
section
variable {X : Cx} {CX : CXT} {k : Nat} {f g C : Addr} {ps : List Str} {sp : Sp} {E : XK} {op : Operator} {cop : CmpOp}
theorem op_ownD (oc : OpC X.K C op.info.2 f g) (D : Dn X.prog X.w X.K X.mg X.base CX k f ps [] sp) (hr : Room k X.A) (hx : Passes CX X E) : OpR X (binaryOp op) (rOwn X.K C op.info.2 sp E) := by
  obtain ⟨fd, G, b⟩ := D.b0
  exact op_own oc G hr b hx
/-- the methods of an own class for a comparison -/
structure CmC (K : PySem.W.Frag) (C : Addr) (name : Str) (f : Addr) : Prop where
  m : PySem.W.findIn K (.ref C) name = some (some (.ref f))
  fn : PySem.W.isFn K (.ref f) = true
theorem cmp_ownD (hop : compareOp cop = richCompare cop) (c : CmC X.K C (cmpInfo cop).2.1 f) (D : Dn X.prog X.w X.K X.mg X.base CX k f ps [] sp) (hr : Room k X.A) (hx : Passes CX X E) : OpR X (compareOp cop) (rCmp X.K C sp E) := by
  obtain ⟨fd, G, b⟩ := D.b0
  exact cmpR_own hop c.m c.fn G hr b hx
theorem lt_ownD (c : CmC X.K C "__lt__" f) (D : Dn X.prog X.w X.K X.mg X.base CX k f ps [] sp) (hr : Room k X.A) (hx : Passes CX X E) : OpR X (compareOp .Lt) (rCmp X.K C sp E) := cmp_ownD (cop := .Lt) rfl c D hr hx
theorem le_ownD (c : CmC X.K C "__le__" f) (D : Dn X.prog X.w X.K X.mg X.base CX k f ps [] sp) (hr : Room k X.A) (hx : Passes CX X E) : OpR X (compareOp .LtE) (rCmp X.K C sp E) := cmp_ownD (cop := .LtE) rfl c D hr hx
theorem gt_ownD (c : CmC X.K C "__gt__" f) (D : Dn X.prog X.w X.K X.mg X.base CX k f ps [] sp) (hr : Room k X.A) (hx : Passes CX X E) : OpR X (compareOp .Gt) (rCmp X.K C sp E) := cmp_ownD (cop := .Gt) rfl c D hr hx
theorem ge_ownD (c : CmC X.K C "__ge__" f) (D : Dn X.prog X.w X.K X.mg X.base CX k f ps [] sp) (hr : Room k X.A) (hx : Passes CX X E) : OpR X (compareOp .GtE) (rCmp X.K C sp E) := cmp_ownD (cop := .GtE) rfl c D hr hx
theorem eq_ownD (c : CmC X.K C "__eq__" f) (D : Dn X.prog X.w X.K X.mg X.base CX k f ps [] sp) (hr : Room k X.A) (hx : Passes CX X E) : OpR X (compareOp .Eq) (rCmp X.K C sp E) := cmp_ownD (cop := .Eq) rfl c D hr hx
/-- i < y by y's __gt__ and the like -/
theorem lt_ownRD (c : CmC X.K C "__gt__" f) (hs : PySem.W.subIn X.K (.ref C) (.type "int") = some false) (D : Dn X.prog X.w X.K X.mg X.base CX k f ps [] sp) (hr : Room k X.A) (hx : Passes CX X E) : OpR X (compareOp .Lt) (rOwnR C sp E) := by
  obtain ⟨fd, G, b⟩ := D.b0
  exact cmpR_ownR (op := .Lt) rfl PySem.F.slot_int_lt PySem.F.entry_int_lt (fun _ _ => PySem.F.args_int_lt_2 _ _) c.m c.fn hs G hr b hx
theorem le_ownRD (c : CmC X.K C "__ge__" f) (hs : PySem.W.subIn X.K (.ref C) (.type "int") = some false) (D : Dn X.prog X.w X.K X.mg X.base CX k f ps [] sp) (hr : Room k X.A) (hx : Passes CX X E) : OpR X (compareOp .LtE) (rOwnR C sp E) := by
  obtain ⟨fd, G, b⟩ := D.b0
  exact cmpR_ownR (op := .LtE) rfl PySem.F.slot_int_le PySem.F.entry_int_le (fun _ _ => PySem.F.args_int_le_2 _ _) c.m c.fn hs G hr b hx
theorem gt_ownRD (c : CmC X.K C "__lt__" f) (hs : PySem.W.subIn X.K (.ref C) (.type "int") = some false) (D : Dn X.prog X.w X.K X.mg X.base CX k f ps [] sp) (hr : Room k X.A) (hx : Passes CX X E) : OpR X (compareOp .Gt) (rOwnR C sp E) := by
  obtain ⟨fd, G, b⟩ := D.b0
  exact cmpR_ownR (op := .Gt) rfl PySem.F.slot_int_gt PySem.F.entry_int_gt (fun _ _ => PySem.F.args_int_gt_2 _ _) c.m c.fn hs G hr b hx
theorem ge_ownRD (c : CmC X.K C "__le__" f) (hs : PySem.W.subIn X.K (.ref C) (.type "int") = some false) (D : Dn X.prog X.w X.K X.mg X.base CX k f ps [] sp) (hr : Room k X.A) (hx : Passes CX X E) : OpR X (compareOp .GtE) (rOwnR C sp E) := by
  obtain ⟨fd, G, b⟩ := D.b0
  exact cmpR_ownR (op := .GtE) rfl PySem.F.slot_int_ge PySem.F.entry_int_ge (fun _ _ => PySem.F.args_int_ge_2 _ _) c.m c.fn hs G hr b hx
theorem eq_ownRD (c : CmC X.K C "__eq__" f) (hs : PySem.W.subIn X.K (.ref C) (.type "int") = some false) (D : Dn X.prog X.w X.K X.mg X.base CX k f ps [] sp) (hr : Room k X.A) (hx : Passes CX X E) : OpR X (compareOp .Eq) (rOwnR C sp E) := by
  obtain ⟨fd, G, b⟩ := D.b0
  exact cmpR_ownR (op := .Eq) rfl PySem.F.slot_int_eq PySem.F.entry_int_eq (fun _ _ => PySem.F.args_int_eq_2 _ _) c.m c.fn hs G hr b hx
theorem ne_ownD (N : NeC X.K C f) (D : Dn X.prog X.w X.K X.mg X.base CX k f ps [] sp) (hr : Room (k + 1) X.A) (hx : Passes CX X E) : OpR X (compareOp .NotEq) (rNeO X.K C sp E) := by
  obtain ⟨fd, G, b⟩ := D.b0
  exact ne_ownV N G hr b hx
theorem ne_ownRD (N : NeC X.K C f) (D : Dn X.prog X.w X.K X.mg X.base CX k f ps [] sp) (hr : Room (k + 1) X.A) (hx : Passes CX X E) : OpR X (compareOp .NotEq) (rNeR C sp E) := by
  obtain ⟨fd, G, b⟩ := D.b0
  exact ne_ownR N G hr b hx
theorem un_negD (c : CmC X.K C "__neg__" f) (D : Dn X.prog X.w X.K X.mg X.base CX k f ps [] sp) (hr : Room k X.A) (hx : Passes CX X E) : UnR X (unaryOp .USub) (rOwnU C sp E) := by
  obtain ⟨fd, G, b⟩ := D.b0
  exact un_negO c.m c.fn G hr b hx
theorem call_boolD (c : CmC X.K C "__bool__" f) (D : Dn X.prog X.w X.K X.mg X.base CX k f ps [] sp) (hr : Room (k + 2) X.A) (hx : Passes CX X E) : CallR X (.type "bool") (rBoolO C sp E) := by
  obtain ⟨fd, G, b⟩ := D.b0
  exact call_boolO c.m c.fn G hr b hx
theorem call_strD (c : CmC X.K C "__str__" f) (D : Dn X.prog X.w X.K X.mg X.base CX k f ps [] sp) (hr : Room (k + 2) X.A) (hx : Passes CX X E) : CallR X (.type "str") (rStrO C sp E) := by
  obtain ⟨fd, G, b⟩ := D.b0
  exact call_strO c.m c.fn G hr b hx
def rTruO (C : Addr) (sp : Sp) (E : XK) : V → Hp → (Bool → Hp → Prop) → Prop := fun x H Q => ∃ a dx fs, x = .ref a ∧ H a = some (.ins C dx fs) ∧ sp [x] H (kBl Q) E
theorem tru_ownD (c : CmC X.K C "__bool__" f) (D : Dn X.prog X.w X.K X.mg X.base CX k f ps [] sp) (hr : Room k X.A) (hx : Passes CX X E) : TruR X (rTruO C sp E) := by
  obtain ⟨fd, G, b⟩ := D.b0
  exact tru_own c.m c.fn G hr b hx
/-- a test by truth -/
theorem pt_tru {a : Expr} {ta : TE} {r : V → Hp → (Bool → Hp → Prop) → Prop} (tr : TruR X r) (ha : PE X a ta) (he : ∀ whole, isTrue a X.env whole = (do let v ← whole; standAt a.pos; holding [v] (truthy v))) : PT X a (fun σ H Q => ta σ H fun x H' => r x H' Q) :=
  ⟨fun pins s σ H Q I h => isTrue_plain (thn (ha.run pins s σ H _ I h) fun v s1 ⟨x, H1, I1, r1, q1⟩ => tr pins s1 σ H1 x v Q I1 r1 q1) (he _)⟩
end
end Az

/-! The promises of the functions of ratios. -/
namespace Az
open PySem PySem.Spec PyProof.Rows L2 AzX
/-- at a: the ratio p / q in lowest terms -/
structure RatAt (R : Addr) (H : Hp) (a : Addr) (p q : Int) : Prop where
  at_ : ∃ dx, H a = some (.ins R dx [("over", .int p), ("under", .int q)])
  pos : 0 < q
  cop : Int.gcd p q = 1
theorem RatAt.mono {R : Addr} {H H' : Hp} {a : Addr} {p q : Int} (x : RatAt R H a p q) (s : Same H H') : RatAt R H' a p q := by
  obtain ⟨⟨dx, h⟩, b, c⟩ := x
  exact ⟨⟨dx, s _ _ h⟩, b, c⟩
theorem same_at {H H1 : Hp} {p : Addr} {o : HO} (s : Same H H1) (h : H p = none) : Same H (upd H1 p o) := fun b o' e => get_put (ne_of_none e h) (s b o' e)
def oddTys : List String := ["bool", "NoneType", "str", "tuple", "list", "dict"]
/-- what the functions of ratios meet: a whole number, a ratio, or something odd -/
inductive NV (R : Addr) (H : Hp) : V → Option (Int × Int) → Prop
  | int (i : Int) : NV R H (.int i) (some (i, 1))
  | rat {a : Addr} {p q : Int} (h : RatAt R H a p q) : NV R H (.ref a) (some (p, q))
  | odd {v : V} {t : String} (h : tyV H v = some t) (m : t ∈ oddTys) : NV R H v none
theorem tyV_same {H H' : Hp} (s : Same H H') {v : V} {t : String} (h : tyV H v = some t) : tyV H' v = some t := by
  cases v with
  | ref a =>
    cases e : H a with
    | none => simp [tyV, e] at h
    | some o =>
      have e' := s _ _ e
      simp only [tyV, e] at h
      simp only [tyV, e']
      exact h
  | _ => exact h
theorem NV.mono {R : Addr} {H H' : Hp} {v : V} {n : Option (Int × Int)} (x : NV R H v n) (s : Same H H') : NV R H' v n := by
  cases x with
  | int i => exact .int i
  | rat h => exact .rat (h.mono s)
  | odd h m => exact .odd (tyV_same s h) m
/-- what the top says of ratios -/
structure RT (K : PySem.W.Frag) (R : Addr) : Prop where
  cls : Cls K R
  noO : NoAttr K R "over"
  noU : NoAttr K R "under"
  ha : PySem.W.findIn K (.ref R) "__class__" = some (some (.builtin "object.__class__"))
  hn : PySem.W.specialIn K (.builtin "object.__class__") "__get__" = some (some (.builtin "getset_descriptor.__get__"))
  ht : PySem.W.takesIn K (.builtin "object.__class__") = some true
  hm : PySem.W.mroIn K R (.type "object") = some true
  kRR : PySem.W.kitOne K (.ref R) (.ref R) = some true
  kRI : PySem.W.kitOne K (.ref R) (.type "int") = some false
  kTR : ∀ t, t ∈ "int" :: oddTys → PySem.W.kitOne K (.type t) (.ref R) = some false
  sub : ∀ t, t ∈ "int" :: oddTys → PySem.W.subIn K (.type t) (.ref R) = some false
  noInt : PySem.W.subIn K (.ref R) (.type "int") = some false
/-- what the top says of an own error -/
structure ErrT (P : Program) (w : World) (K : PySem.W.Frag) (mg : Str → Option Value) (C : Addr) (fs : List Str) : Prop where
  mks : ∀ (base : Heap) (us : List Value), us.length = fs.length → Makes P w K mg base C ⟨us, []⟩ (mOf fs us)
  r1 : PySem.W.subIn K (.ref C) (.type "BaseException") = some true
  r2 : PySem.W.typeIn K (.ref C) = some (.type "type")
  kp : PySem.W.keepIn K (.ref C) = true
section
variable {P : Program} {w : World} {K : PySem.W.Frag} {mg : Str → Option Value} {R CB : Addr} {H : Hp} {Q : VK} {v : V}
theorem tyX_of {t : String} (h : tyV H v = some t) : TyX K H v (.type t) := by
  cases v with
  | non => cases h; exact .base .non
  | bl b => cases h; exact .base (.bl b)
  | int i => cases h; exact .base (.int i)
  | str x => cases h; exact .base (.str x)
  | byt b => cases h
  | flt b => cases h
  | ty n => cases h
  | ref a =>
    cases e : H a with
    | none => simp [tyV, e] at h
    | some o =>
      cases o <;> simp [tyV, e] at h
      · subst h; exact .base (.lst e)
      · subst h; exact .base (.tup e)
      · subst h; exact .base (.dK e)
theorem RT.ty (T : RT K R) {a : Addr} {p q : Int} (x : RatAt R H a p q) : TyX K H (.ref a) (.ref R) := by
  obtain ⟨⟨dx, h⟩, _, _⟩ := x
  exact .base (.ins h T.cls T.ha T.hn T.ht T.hm)
/-- isinstance(v, Ratio) -/
theorem i_isR {n : Option (Int × Int)} (T : RT K R) (x : NV R H v n) (b : Bool) (hb : (∃ a p q, v = .ref a ∧ n = some (p, q) ∧ RatAt R H a p q) ∧ b = true ∨ (∀ a p q, v = .ref a → ¬ RatAt R H a p q) ∧ b = false) (k : Q (.bl b) H) : rIsi K [v, .ref R] H Q := by
  cases x with
  | int i =>
    rcases hb with ⟨⟨a, p, q, z, _⟩, _⟩ | ⟨_, rfl⟩
    · cases z
    · exact ⟨_, _, .type "int", .ref R, _, rfl, .own _, .base (.int i), T.kTR "int" (by simp), k⟩
  | rat h =>
    rcases hb with ⟨_, rfl⟩ | ⟨z, _⟩
    · exact ⟨_, _, .ref R, .ref R, _, rfl, .own _, T.ty h, T.kRR, k⟩
    · exact (z _ _ _ rfl h).elim
  | odd h m =>
    rcases hb with ⟨⟨a, p, q, rfl, e, _⟩, _⟩ | ⟨_, rfl⟩
    · cases e
    · exact ⟨_, _, _, .ref R, _, rfl, .own _, tyX_of h, T.kTR _ (List.mem_cons_of_mem _ m), k⟩
end
/-- // of whole numbers of any sign, the divisor not too great -/
theorem op_fdivNW {X : Cx} : OpR X (binaryOp .FloorDiv) (rI (fun _ j => j ≠ 0 ∧ j.natAbs.log2 < 9000) fun i j => .int (i.fdiv j)) := opI fun i j _ _ _ _ _ hc q => floordiv_int hc.1 q (.inl (PyProof.noPylong_of_log2 hc.2))
/-- is_integer(v) -/
def isI : V → Bool
  | .int _ => true
  | _ => false
theorem odd_notI {H : Hp} {v : V} {t : String} (h : tyV H v = some t) (m : t ∈ oddTys) : isI v = false := by
  cases v with
  | int i => cases h; exact absurd m (by decide)
  | _ => rfl
def spIsI (R : Addr) : Sp := fun vs H Q _ => ∃ v n, vs = [v] ∧ NV R H v n ∧ Q (.bl (isI v)) H
def spNum (R : Addr) : Sp := fun vs H Q _ => ∃ v n, vs = [v] ∧ NV R H v n ∧ Q (.bl n.isSome) H
/-- the value that Ratio(v, u) refuses -/
def Bad (v u b : V) : Prop := (isI v = false ∧ b = v) ∨ (isI v = true ∧ isI u = false ∧ b = u) ∨ (isI v = true ∧ u = .int 0 ∧ b = u)
/-- what is told of a refused value -/
def Told (CB : Addr) (H : Hp) (E : XK) (b : V) : Prop := ∀ (d : Addr) (H' : Hp), Same H H' → H' d = some (.xd [("value", b)]) → E (.ref CB) (some d) H'
theorem i_raise1 {CB : Addr} {σ : L2.St} {H : Hp} {E : XK} {D : Ends} {v : V} {n : Nat} (hv : σ[n]? = some (some v)) (k : Told CB H E v) : tRaiseEx CB ["value"] (fun cls d _ H => E cls d H) (tCons (tVar n) tNil) D σ H :=
  ⟨v, hv, rfl, fun d hd => k d _ (same_new (Same.refl _) hd) upd_same⟩
theorem log_lt {d : Int} (h : d.natAbs < 2 ^ 8000) : d.natAbs.log2 < 9000 := Nat.lt_of_lt_of_le (PySem.Flt.log2_lt_of (by decide) h) (by decide)
theorem shd_small {o d : Int} (hd : d ≠ 0) (h : d.natAbs < 2 ^ 8000) : (shd o d).natAbs < 2 ^ 8000 := by
  have z : (shd o d).natAbs ∣ d.natAbs := Int.natAbs_dvd_natAbs.mpr (shd_dvd_u o d)
  exact Nat.lt_of_le_of_lt (Nat.le_of_dvd (Int.natAbs_pos.mpr hd) z) h
/-- Ratio.__init__ -/
def spIni (R CB : Addr) : Sp := fun vs H Q E => ∃ (x dx : Addr) (v u : V) (n n2 : Option (Int × Int)), vs = [.ref x, v, u] ∧ H x = some (.ins R dx []) ∧ NV R H v n ∧ NV R H u n2 ∧
  ((∃ o d : Int, v = .int o ∧ u = .int d ∧ d ≠ 0 ∧ d.natAbs < 2 ^ 8000 ∧ Q .non (upd H x (.ins R dx [("over", .int (rO o d)), ("under", .int (rU o d))]))) ∨ ∃ b, Bad v u b ∧ Told CB H E b)
def spDivi : Sp := fun vs H Q _ => ∃ a b : Int, vs = [.int a, .int b] ∧ Q (.int (Int.gcd a b)) H
theorem rO_one (i : Int) : rO i 1 = i := by
  have h := rO_mul (o := i) (u := 1) (by decide)
  have s : shd i 1 = 1 := by unfold shd; simp
  rw [s, Int.mul_one] at h
  exact h
theorem rU_one (i : Int) : rU i 1 = 1 := by
  have h := rU_mul (o := i) (u := 1) (by decide)
  have s : shd i 1 = 1 := by unfold shd; simp
  rw [s, Int.mul_one] at h
  exact h
/-- a new ratio -/
theorem new_rat {R CB : Addr} {H : Hp} {E : XK} {Q : VK} {o d : Int} (hd : d ≠ 0) (hb : d.natAbs < 2 ^ 8000) (k : ∀ a H', Same H H' → RatAt R H' a (rO o d) (rU o d) → Q (.ref a) H') : ∀ x dx, H x = none → H dx = none → dx ≠ x →
    spIni R CB [.ref x, .int o, .int d] (upd (upd H dx (.own x)) x (.ins R dx [])) (fun v H2 => v = .non ∧ Q (.ref x) H2) E := fun x dx h1 h2 h3 =>
  ⟨x, dx, _, _, _, _, rfl, upd_same, .int o, .int d, .inl ⟨o, d, rfl, rfl, hd, hb, rfl, k x _ (same_at (same_at (same_new (Same.refl H) h2) h1) h1) ⟨⟨dx, upd_same⟩, rU_pos hd, r_cop hd⟩⟩⟩
/-- Ratio.of -/
def spOf (R CB : Addr) : Sp := fun vs H Q E => ∃ (v : V) (n : Option (Int × Int)), vs = [v] ∧ NV R H v n ∧ match n with
  | none => Told CB H E v
  | some (p, q) => ∀ a H', Same H H' → RatAt R H' a p q → Q (.ref a) H'
def Smal (x : Int) : Prop := x.natAbs < 2 ^ 3900
theorem Smal.mul {i j : Int} (h1 : Smal i) (h2 : Smal j) : CMulW i j := wide_mul (a := 3900) (b := 3900) h1 h2 (by decide) (by decide) (by decide)
theorem Smal.lt {i j : Int} (h1 : Smal i) (h2 : Smal j) : (i * j).natAbs < 2 ^ 8000 := Nat.lt_of_lt_of_le (wide_lt h1 h2) (Nat.pow_le_pow_right (by decide) (by decide))
section
variable {P : Program} {w : World} {K : PySem.W.Frag} {mg : Str → Option Value} {R CB : Addr} {H : Hp} {Q : VK} {σ : L2.St} {n : Nat} {a : Addr} {p q : Int}
theorem i_over (T : RT K R) (x : RatAt R H a p q) (hs : σ[n]? = some (some (.ref a))) (k : Q (.int p) H) : tFld K (tVar n) "over" σ H Q := by
  obtain ⟨dx, h⟩ := x.at_
  exact ⟨_, hs, a, R, dx, _, _, rfl, h, T.cls, T.noO, rfl, k⟩
theorem i_under (T : RT K R) (x : RatAt R H a p q) (hs : σ[n]? = some (some (.ref a))) (k : Q (.int q) H) : tFld K (tVar n) "under" σ H Q := by
  obtain ⟨dx, h⟩ := x.at_
  exact ⟨_, hs, a, R, dx, _, _, rfl, h, T.cls, T.noU, rfl, k⟩
end
/-- a method of two that makes g1 / g2 -/
def spBin (R CB : Addr) (g1 g2 : Int → Int → Int → Int → Int) : Sp := fun vs H Q E => ∃ (a : Addr) (p q : Int) (v : V) (n : Option (Int × Int)), vs = [.ref a, v] ∧ RatAt R H a p q ∧ NV R H v n ∧ match n with
  | none => Told CB H E v
  | some (p', q') => Smal p ∧ Smal q ∧ Smal p' ∧ Smal q' ∧ ∀ r H', Same H H' → RatAt R H' r (rO (g1 p q p' q') (g2 p q p' q')) (rU (g1 p q p' q') (g2 p q p' q')) → Q (.ref r) H'
theorem NV.posd {R : Addr} {H : Hp} {v : V} {p q : Int} (x : NV R H v (some (p, q))) : 0 < q := by
  cases x with
  | int i => decide
  | rat h => exact h.pos
theorem i_mk {C : Addr} {sp : Sp} {dvs : List V} {E : XK} {t : TA} {σ : L2.St} {H : Hp} {Q : VK} (k : t σ H fun vs H1 => ∀ x dx, H1 x = none → H1 dx = none → dx ≠ x → sp (.ref x :: (vs ++ dvs)) (upd (upd H1 dx (.own x)) x (.ins C dx [])) (fun v H2 => v = .non ∧ Q (.ref x) H2) E) : tMake C sp dvs E t σ H Q := k
theorem i_mul {H : Hp} {Q : VK} {i j : Int} (h1 : Smal i) (h2 : Smal j) (k : Q (.int (i * j)) H) : rI CMulW (fun i j => V.int (i * j)) (.int i) (.int j) H Q := i_I (h1.mul h2) k
/-- -x -/
def spNeg (R : Addr) : Sp := fun vs H Q _ => ∃ (a : Addr) (p q : Int), vs = [.ref a] ∧ RatAt R H a p q ∧ Smal q ∧ ∀ r H', Same H H' → RatAt R H' r (-p) q → Q (.ref r) H'
/-- lowest terms stay as they are -/
theorem r_low {p q : Int} (hq : 0 < q) (h : Int.gcd p q = 1) : rO p q = p ∧ rU p q = q := by
  have hn : q ≠ 0 := Int.ne_of_gt hq
  exact low_one (rU_pos hn) hq (r_cop hn) h (r_cross hn)
theorem gcd_neg1 {p q : Int} (h : Int.gcd p q = 1) : Int.gcd (-p) q = 1 := by
  rw [Int.neg_gcd]
  exact h
/-- x.divided(y) -/
def spDvd (R CB : Addr) : Sp := fun vs H Q E => ∃ (a : Addr) (p q : Int) (v : V) (n : Option (Int × Int)), vs = [.ref a, v] ∧ RatAt R H a p q ∧ NV R H v n ∧ match n with
  | none => Told CB H E v
  | some (p', q') => if p' = 0 then Told CB H E v else Smal p ∧ Smal q ∧ Smal p' ∧ Smal q' ∧ ∀ r H', Same H H' → RatAt R H' r (rO (p * q') (q * p')) (rU (p * q') (q * p')) → Q (.ref r) H'
theorem Told.mono {CB : Addr} {H H' : Hp} {E : XK} {b : V} (t : Told CB H E b) (s : Same H H') : Told CB H' E b := fun d H2 s2 h => t d H2 (s.trans s2) h
/-- the other types, met by an operator -/
def OpTs (K : PySem.W.Frag) (R : Addr) (nm : String) : Prop := ∀ t, t ∈ "int" :: oddTys → OpT K R nm t
theorem opY_of {K : PySem.W.Frag} {R : Addr} {nm : String} {H : Hp} {v : V} {n : Option (Int × Int)} (O : OpTs K R nm) (x : NV R H v n) : OpY K R nm H v := by
  cases x with
  | int i => exact .inr ⟨"int", rfl, O _ (by simp)⟩
  | rat h =>
    obtain ⟨dx, hx⟩ := h.at_
    exact .inl ⟨_, dx, _, rfl, hx⟩
  | odd h m => exact .inr ⟨_, h, O _ (List.mem_cons_of_mem _ m)⟩
/-- x op y, x a ratio -/
theorem i_own {K : PySem.W.Frag} {R : Addr} {nm : String} {H : Hp} {v : V} {n : Option (Int × Int)} {sp : Sp} {E : XK} {Q : VK} {a : Addr} {p q : Int} (O : OpTs K R nm) (ra : RatAt R H a p q) (x : NV R H v n) (k : sp [.ref a, v] H Q E) : rOwn K R nm sp E (.ref a) v H Q := by
  obtain ⟨dx, h⟩ := ra.at_
  exact ⟨a, dx, _, rfl, h, opY_of O x, k⟩
end Az
namespace Az
open PySem PySem.Spec PyProof.Rows L2 AzX
/-- a comparison of two numbers -/
def spCmp (R CB : Addr) (g : Int → Int → Int → Int → Bool) : Sp := fun vs H Q E => ∃ (a : Addr) (p q : Int) (v : V) (n : Option (Int × Int)), vs = [.ref a, v] ∧ RatAt R H a p q ∧ NV R H v n ∧ match n with
  | none => Told CB H E v
  | some (p', q') => Smal p ∧ Smal q ∧ Smal p' ∧ Smal q' ∧ ∀ H', Same H H' → Q (.bl (g p q p' q')) H'
/-- == -/
def spEq (R : Addr) : Sp := fun vs H Q _ => ∃ (a : Addr) (p q : Int) (v : V) (n : Option (Int × Int)), vs = [.ref a, v] ∧ RatAt R H a p q ∧ NV R H v n ∧ match n with
  | none => ∀ H', Same H H' → Q (.bl false) H'
  | some (p', q') => ∀ H', Same H H' → Q (.bl (decide (p = p' ∧ q = q'))) H'
def spSame (R : Addr) : Sp := fun vs H Q _ => ∃ (a b : Addr) (p q p' q' : Int), vs = [.ref a, .ref b] ∧ RatAt R H a p q ∧ RatAt R H b p' q' ∧ Q (.bl (decide (p = p' ∧ q = q'))) H
/-- a method of one that hands back g -/
def spOne (R : Addr) (C : Int → Int → Prop) (g : Int → Int → V) : Sp := fun vs H Q _ => ∃ (a : Addr) (p q : Int), vs = [.ref a] ∧ RatAt R H a p q ∧ C p q ∧ Q (g p q) H
def ratTxt (p q : Int) : Str := if q = 1 then (toString p : Str) else Str.empty ++ (toString p : Str) ++ ("/" : Str) ++ (toString q : Str)
theorem cmpY_of {K : PySem.W.Frag} {R : Addr} {H : Hp} {v : V} {n : Option (Int × Int)} (T : RT K R) (x : NV R H v n) : CmpY K R H v := by
  cases x with
  | int i => exact .inr ⟨"int", rfl, T.sub _ (by simp)⟩
  | rat h =>
    obtain ⟨dx, hx⟩ := h.at_
    exact .inl ⟨_, dx, _, rfl, hx⟩
  | odd h m => exact .inr ⟨_, h, T.sub _ (List.mem_cons_of_mem _ m)⟩
theorem i_cmp {K : PySem.W.Frag} {R : Addr} {H : Hp} {v : V} {n : Option (Int × Int)} {sp : Sp} {E : XK} {Q : VK} {a : Addr} {p q : Int} (T : RT K R) (ra : RatAt R H a p q) (x : NV R H v n) (k : sp [.ref a, v] H Q E) : rCmp K R sp E (.ref a) v H Q := by
  obtain ⟨dx, h⟩ := ra.at_
  exact ⟨a, dx, _, rfl, h, cmpY_of T x, k⟩
theorem i_neO {K : PySem.W.Frag} {R : Addr} {H : Hp} {v : V} {n : Option (Int × Int)} {sp : Sp} {E : XK} {Q : VK} {a : Addr} {p q : Int} (T : RT K R) (ra : RatAt R H a p q) (x : NV R H v n) (k : sp [.ref a, v] H (kNot Q) E) : rNeO K R sp E (.ref a) v H Q := by
  obtain ⟨dx, h⟩ := ra.at_
  exact ⟨a, dx, _, rfl, h, cmpY_of T x, k⟩
theorem i_ownR {R : Addr} {H : Hp} {i : Int} {sp : Sp} {E : XK} {Q : VK} {a : Addr} {p q : Int} (ra : RatAt R H a p q) (k : sp [.ref a, .int i] H Q E) : rOwnR R sp E (.int i) (.ref a) H Q := by
  obtain ⟨dx, h⟩ := ra.at_
  exact ⟨i, a, dx, _, rfl, rfl, h, k⟩
theorem i_neR {R : Addr} {H : Hp} {i : Int} {sp : Sp} {E : XK} {Q : VK} {a : Addr} {p q : Int} (ra : RatAt R H a p q) (k : sp [.ref a, .int i] H (kNot Q) E) : rNeR R sp E (.int i) (.ref a) H Q := by
  obtain ⟨dx, h⟩ := ra.at_
  exact ⟨i, a, dx, _, rfl, rfl, h, k⟩
theorem i_ownU {R : Addr} {H : Hp} {sp : Sp} {E : XK} {Q : VK} {a : Addr} {p q : Int} (ra : RatAt R H a p q) (k : sp [.ref a] H Q E) : rOwnU R sp E (.ref a) H Q := by
  obtain ⟨dx, h⟩ := ra.at_
  exact ⟨a, dx, _, rfl, h, k⟩
theorem i_boolO {R : Addr} {H : Hp} {sp : Sp} {E : XK} {Q : VK} {a : Addr} {p q : Int} (ra : RatAt R H a p q) (k : sp [.ref a] H (kBl fun c H' => Q (.bl c) H') E) : rBoolO R sp E [.ref a] H Q := by
  obtain ⟨dx, h⟩ := ra.at_
  exact ⟨a, dx, _, rfl, h, k⟩
theorem i_strO {R : Addr} {H : Hp} {sp : Sp} {E : XK} {Q : VK} {a : Addr} {p q : Int} (ra : RatAt R H a p q) (k : sp [.ref a] H (kStr fun c H' => Q (.str c) H') E) : rStrO R sp E [.ref a] H Q := by
  obtain ⟨dx, h⟩ := ra.at_
  exact ⟨a, dx, _, rfl, h, k⟩
theorem i_truO {R : Addr} {H : Hp} {sp : Sp} {E : XK} {Q : Bool → Hp → Prop} {a : Addr} {p q : Int} (ra : RatAt R H a p q) (k : sp [.ref a] H (kBl Q) E) : rTruO R sp E (.ref a) H Q := by
  obtain ⟨dx, h⟩ := ra.at_
  exact ⟨a, dx, _, rfl, h, k⟩
/-- o.m(..), o a ratio -/
theorem i_meth {C : Addr} {m : Str} {sp : Sp} {dvs : List V} {E : XK} {ta : TE} {t : TA} {σ : L2.St} {H : Hp} {Q : VK} (k : ta σ H fun x H1 => ∃ a dx fs, x = .ref a ∧ H1 a = some (.ins C dx fs) ∧ fs.lookup m = none ∧ t σ H1 fun vs H2 => sp (x :: (vs ++ dvs)) H2 Q E) : tMeth C m sp dvs E ta t σ H Q := k
theorem i_atR {R b : Addr} {H : Hp} {m : Str} {p q : Int} {k : Prop} (ra : RatAt R H b p q) (h : k) (h1 : (m == "over") = false := by decide) (h2 : (m == "under") = false := by decide) : ∃ a dx fs, V.ref b = .ref a ∧ H a = some (.ins R dx fs) ∧ fs.lookup m = none ∧ k := by
  obtain ⟨dx, e⟩ := ra.at_
  exact ⟨b, dx, _, rfl, e, by simp [List.lookup, h1, h2], h⟩
theorem i_smeth {C : Addr} {sp : Sp} {dvs : List V} {E : XK} {ta : TE} {t : TA} {σ : L2.St} {H : Hp} {Q : VK} (k : ta σ H fun x H1 => x = .ref C ∧ t σ H1 fun vs H2 => sp (vs ++ dvs) H2 Q E) : tSMeth C sp dvs E ta t σ H Q := k
theorem i_fmtI {te : TE} {σ : L2.St} {H : Hp} {Q : VK} (k : te σ H fun x H1 => ∃ i : Int, x = .int i ∧ i.natAbs.log2 < 1920 ∧ Q (.str (toString i)) H1) (mono : ∀ {Q Q' : VK} {H : Hp}, (∀ x H, Q x H → Q' x H) → te σ H Q → te σ H Q') : tFmt te σ H Q := mono (fun _ _ z => .inr z) k
def Bt (x : Int) : Prop := x.natAbs.log2 < 1920
theorem txt_len {x : Int} (h : Bt x) : ((toString x : String) : Str).length ≤ 1921 := PyProof.Rows.int_text_len_1921 h
end Az

/-! Order of fractions by cross products. -/
namespace Az
open PySem PySem.Spec PyProof.Rows L2 AzX
theorem shd_pos {a b : Int} (hb : 0 < b) : 0 < shd a b := by
  have g := gcd_pos_of (o := a) (u := b) (Int.ne_of_gt hb)
  unfold shd
  rw [if_pos hb]
  omega
theorem cross_of {a b c d : Int} (hb : 0 < b) (hd : 0 < d) : ∃ G : Int, 0 < G ∧ a * d = (rO a b * rU c d) * G ∧ c * b = (rO c d * rU a b) * G := by
  have h1 := rO_mul (o := a) (u := b) (Int.ne_of_gt hb)
  have h2 := rU_mul (o := a) (u := b) (Int.ne_of_gt hb)
  have h3 := rO_mul (o := c) (u := d) (Int.ne_of_gt hd)
  have h4 := rU_mul (o := c) (u := d) (Int.ne_of_gt hd)
  refine ⟨shd a b * shd c d, Int.mul_pos (shd_pos hb) (shd_pos hd), ?_, ?_⟩
  · calc a * d = (rO a b * shd a b) * (rU c d * shd c d) := by rw [h1, h4]
      _ = (rO a b * rU c d) * (shd a b * shd c d) := by rw [Int.mul_assoc, Int.mul_assoc, ← Int.mul_assoc (shd a b), Int.mul_comm (shd a b) (rU c d), Int.mul_assoc]
  · calc c * b = (rO c d * shd c d) * (rU a b * shd a b) := by rw [h3, h2]
      _ = (rO c d * rU a b) * (shd a b * shd c d) := by rw [Int.mul_assoc, Int.mul_assoc, ← Int.mul_assoc (shd c d), Int.mul_comm (shd c d) (rU a b), Int.mul_assoc, Int.mul_comm (shd c d)]
theorem mul_lt_iff {x y G : Int} (h : 0 < G) : x < y ↔ x * G < y * G := ⟨fun z => Int.mul_lt_mul_of_pos_right z h, fun z => Int.lt_of_mul_lt_mul_right z (Int.le_of_lt h)⟩
section
variable {a b c d : Int}
theorem lt_cross (hb : 0 < b) (hd : 0 < d) : rO a b * rU c d < rO c d * rU a b ↔ a * d < c * b := by
  obtain ⟨G, h, e1, e2⟩ := cross_of (a := a) (c := c) hb hd
  rw [e1, e2]
  exact mul_lt_iff h
theorem gt_cross (hb : 0 < b) (hd : 0 < d) : rO a b * rU c d > rO c d * rU a b ↔ a * d > c * b := by
  obtain ⟨G, h, e1, e2⟩ := cross_of (a := a) (c := c) hb hd
  rw [e1, e2]
  exact mul_lt_iff h
theorem eq_cross (hb : 0 < b) (hd : 0 < d) : (rO a b = rO c d ∧ rU a b = rU c d) ↔ a * d = c * b := by
  obtain ⟨G, h, e1, e2⟩ := cross_of (a := a) (c := c) hb hd
  constructor
  · rintro ⟨h1, h2⟩
    rw [e1, e2, h1, h2]
  · intro e
    rw [e1, e2] at e
    have e3 := Int.eq_of_mul_eq_mul_right (Int.ne_of_gt h) e
    exact low_one (rU_pos (Int.ne_of_gt hb)) (rU_pos (Int.ne_of_gt hd)) (r_cop (Int.ne_of_gt hb)) (r_cop (Int.ne_of_gt hd)) e3
end
theorem one_r (i : Int) : rO i 1 = i ∧ rU i 1 = 1 := ⟨rO_one i, rU_one i⟩
theorem dlt {a b c d : Int} (hb : 0 < b) (hd : 0 < d) : decide (rO a b * rU c d < rO c d * rU a b) = decide (a * d < c * b) := decide_eq_decide.mpr (lt_cross hb hd)
theorem dgt {a b c d : Int} (hb : 0 < b) (hd : 0 < d) : decide (rO a b * rU c d > rO c d * rU a b) = decide (a * d > c * b) := decide_eq_decide.mpr (gt_cross hb hd)
theorem dle {a b c d : Int} (hb : 0 < b) (hd : 0 < d) : (!decide (rO a b * rU c d > rO c d * rU a b)) = decide (a * d ≤ c * b) := by
  rw [dgt hb hd, ← decide_not]
  exact decide_eq_decide.mpr (by omega)
theorem dge {a b c d : Int} (hb : 0 < b) (hd : 0 < d) : (!decide (rO a b * rU c d < rO c d * rU a b)) = decide (a * d ≥ c * b) := by
  rw [dlt hb hd, ← decide_not]
  exact decide_eq_decide.mpr (by omega)
theorem deq {a b c d : Int} (hb : 0 < b) (hd : 0 < d) : decide (rO a b = rO c d ∧ rU a b = rU c d) = decide (V.int (a * d) = V.int (c * b)) :=
  decide_eq_decide.mpr ((eq_cross hb hd).trans ⟨fun h => by rw [h], fun h => by injection h⟩)
/-- the ratio of a / b: at x -/
def RatOf (R : Addr) (H : Hp) (x : Addr) (a b : Int) : Prop := RatAt R H x (rO a b) (rU a b) ∧ 0 < b
/-- what stands for a / b: an integer or a ratio -/
inductive NumOf (R : Addr) (H : Hp) : V → Int → Int → Prop
  | int (i : Int) : NumOf R H (.int i) i 1
  | rat {x : Addr} {a b : Int} (h : RatOf R H x a b) : NumOf R H (.ref x) a b
theorem NumOf.pos {R : Addr} {H : Hp} {v : V} {a b : Int} (x : NumOf R H v a b) : 0 < b := by
  cases x with
  | int i => decide
  | rat h => exact h.2
theorem NumOf.nv {R : Addr} {H : Hp} {v : V} {a b : Int} (x : NumOf R H v a b) : NV R H v (some (rO a b, rU a b)) := by
  cases x with
  | int => rw [rO_one, rU_one]; exact .int _
  | rat h => exact .rat h.1
theorem NumOf.mono {R : Addr} {H H' : Hp} {v : V} {a b : Int} (x : NumOf R H v a b) (s : Same H H') : NumOf R H' v a b := by
  cases x with
  | int => exact .int _
  | rat h => exact .rat ⟨h.1.mono s, h.2⟩
theorem RatOf.mono {R : Addr} {H H' : Hp} {x : Addr} {a b : Int} (h : RatOf R H x a b) (s : Same H H') : RatOf R H' x a b := ⟨h.1.mono s, h.2⟩
def Sm (x : Int) : Prop := x.natAbs < 2 ^ 1900
theorem smal_rO {a b : Int} (hb : 0 < b) (h : Sm a) : Smal (rO a b) := Nat.lt_of_le_of_lt (rO_le (Int.ne_of_gt hb)) (Nat.lt_of_lt_of_le h (Nat.pow_le_pow_right (by decide) (by decide)))
theorem smal_rU {a b : Int} (hb : 0 < b) (h : Sm b) : Smal (rU a b) := Nat.lt_of_le_of_lt (rU_le (Int.ne_of_gt hb)) (Nat.lt_of_lt_of_le h (Nat.pow_le_pow_right (by decide) (by decide)))
theorem bt_of {x : Int} (h : x.natAbs < 2 ^ 1900) : Bt x := Nat.lt_of_lt_of_le (PySem.Flt.log2_lt_of (by decide) h) (by decide)
theorem bt_rO {a b : Int} (hb : 0 < b) (h : Sm a) : Bt (rO a b) := bt_of (Nat.lt_of_le_of_lt (rO_le (Int.ne_of_gt hb)) h)
theorem bt_rU {a b : Int} (hb : 0 < b) (h : Sm b) : Bt (rU a b) := bt_of (Nat.lt_of_le_of_lt (rU_le (Int.ne_of_gt hb)) h)
section
variable {K : PySem.W.Frag} {R CB : Addr} {H : Hp} {v : V} {E : XK} {Q : VK} {x : Addr} {a b c d : Int}
theorem u_cmp {g : Int → Int → Int → Int → Bool} {r : Bool} (T : RT K R) (rx : RatOf R H x a b) (nv : NumOf R H v c d) (s1 : Sm a) (s2 : Sm b) (s3 : Sm c) (s4 : Sm d) (e : g (rO a b) (rU a b) (rO c d) (rU c d) = r) (k : ∀ H', Same H H' → Q (.bl r) H') : rCmp K R (spCmp R CB g) E (.ref x) v H Q :=
  i_cmp T rx.1 nv.nv ⟨x, _, _, v, _, rfl, rx.1, nv.nv, smal_rO rx.2 s1, smal_rU rx.2 s2, smal_rO nv.pos s3, smal_rU nv.pos s4, fun H' z => by rw [e]; exact k H' z⟩
theorem u_eq {r : Bool} (T : RT K R) (rx : RatOf R H x a b) (nv : NumOf R H v c d) (e : decide (V.int (a * d) = V.int (c * b)) = r) (k : ∀ H', Same H H' → Q (.bl r) H') : rCmp K R (spEq R) E (.ref x) v H Q :=
  i_cmp T rx.1 nv.nv ⟨x, _, _, v, _, rfl, rx.1, nv.nv, fun H' z => by rw [deq rx.2 nv.pos, e]; exact k H' z⟩
theorem u_ne {r : Bool} (T : RT K R) (rx : RatOf R H x a b) (nv : NumOf R H v c d) (e : (!decide (V.int (a * d) = V.int (c * b))) = r) (k : ∀ H', Same H H' → Q (.bl r) H') : rNeO K R (spEq R) E (.ref x) v H Q :=
  i_neO T rx.1 nv.nv ⟨x, _, _, v, _, rfl, rx.1, nv.nv, fun H' z => ⟨_, rfl, by rw [deq rx.2 nv.pos, e]; exact k H' z⟩⟩
/-- == with what is no number -/
theorem u_eqN (T : RT K R) (rx : RatOf R H x a b) (nv : NV R H v none) (k : ∀ H', Same H H' → Q (.bl false) H') : rCmp K R (spEq R) E (.ref x) v H Q := i_cmp T rx.1 nv ⟨x, _, _, v, _, rfl, rx.1, nv, k⟩
theorem u_neN (T : RT K R) (rx : RatOf R H x a b) (nv : NV R H v none) (k : ∀ H', Same H H' → Q (.bl true) H') : rNeO K R (spEq R) E (.ref x) v H Q := i_neO T rx.1 nv ⟨x, _, _, v, _, rfl, rx.1, nv, fun H' z => ⟨_, rfl, k H' z⟩⟩
theorem u_cmpR {g : Int → Int → Int → Int → Bool} {r : Bool} {i : Int} (rx : RatOf R H x a b) (s1 : Sm a) (s2 : Sm b) (s3 : Sm i) (e : g (rO a b) (rU a b) (rO i 1) (rU i 1) = r) (k : ∀ H', Same H H' → Q (.bl r) H') : rOwnR R (spCmp R CB g) E (.int i) (.ref x) H Q :=
  i_ownR rx.1 ⟨x, _, _, _, _, rfl, rx.1, (NumOf.int i).nv, smal_rO rx.2 s1, smal_rU rx.2 s2, smal_rO (by decide) s3, smal_rU (by decide) (show Sm 1 by unfold Sm; decide +kernel), fun H' z => by rw [e]; exact k H' z⟩
theorem u_eqR {r : Bool} {i : Int} (rx : RatOf R H x a b) (e : decide (V.int (a * 1) = V.int (i * b)) = r) (k : ∀ H', Same H H' → Q (.bl r) H') : rOwnR R (spEq R) E (.int i) (.ref x) H Q :=
  i_ownR rx.1 ⟨x, _, _, _, _, rfl, rx.1, (NumOf.int i).nv, fun H' z => by rw [deq rx.2 (by decide), e]; exact k H' z⟩
theorem u_neR {r : Bool} {i : Int} (rx : RatOf R H x a b) (e : (!decide (V.int (a * 1) = V.int (i * b))) = r) (k : ∀ H', Same H H' → Q (.bl r) H') : rNeR R (spEq R) E (.int i) (.ref x) H Q :=
  i_neR rx.1 ⟨x, _, _, _, _, rfl, rx.1, (NumOf.int i).nv, fun H' z => ⟨_, rfl, by rw [deq rx.2 (by decide), e]; exact k H' z⟩⟩
theorem u_new (hb : 0 < b) (h : Sm b) (k : ∀ x H', Same H H' → RatOf R H' x a b → Q (.ref x) H') : ∀ x dx, H x = none → H dx = none → dx ≠ x →
    spIni R CB [.ref x, .int a, .int b] (upd (upd H dx (.own x)) x (.ins R dx [])) (fun v H2 => v = .non ∧ Q (.ref x) H2) E := new_rat (Int.ne_of_gt hb) (Nat.lt_of_lt_of_le h (Nat.pow_le_pow_right (by decide) (by decide))) fun x H' z ra => k x H' z ⟨ra, hb⟩
end
/-! floor and ceiling -/
theorem fdiv_b {p q : Int} (hq : 0 < q) : p.fdiv q * q ≤ p ∧ p < (p.fdiv q + 1) * q := by
  have h := Int.mul_fdiv_add_fmod p q
  have h1 := Int.fmod_nonneg_of_pos p hq
  have h2 := Int.fmod_lt_of_pos p hq
  have e : (p.fdiv q + 1) * q = q * p.fdiv q + q := by rw [Int.add_mul, Int.one_mul, Int.mul_comm]
  rw [e, Int.mul_comm (p.fdiv q) q]
  omega
theorem floor_b {a b : Int} (hb : 0 < b) : (rO a b).fdiv (rU a b) * b ≤ a ∧ a < ((rO a b).fdiv (rU a b) + 1) * b := by
  have h1 := rO_mul (o := a) (u := b) (Int.ne_of_gt hb)
  have h2 := rU_mul (o := a) (u := b) (Int.ne_of_gt hb)
  have g := shd_pos (a := a) hb
  obtain ⟨f1, f2⟩ := fdiv_b (p := rO a b) (q := rU a b) (rU_pos (Int.ne_of_gt hb))
  generalize (rO a b).fdiv (rU a b) = f at f1 f2
  constructor
  · have := Int.mul_le_mul_of_nonneg_right f1 (Int.le_of_lt g)
    rw [Int.mul_assoc, h2, h1] at this
    exact this
  · have := Int.mul_lt_mul_of_pos_right f2 g
    rw [Int.mul_assoc, h2, h1] at this
    exact this
theorem ceil_b {a b : Int} (hb : 0 < b) : (-((-(rO a b)).fdiv (rU a b)) - 1) * b < a ∧ a ≤ -((-(rO a b)).fdiv (rU a b)) * b := by
  have h1 := rO_mul (o := a) (u := b) (Int.ne_of_gt hb)
  have h2 := rU_mul (o := a) (u := b) (Int.ne_of_gt hb)
  have g := shd_pos (a := a) hb
  obtain ⟨f1, f2⟩ := fdiv_b (p := -(rO a b)) (q := rU a b) (rU_pos (Int.ne_of_gt hb))
  generalize (-(rO a b)).fdiv (rU a b) = f at f1 f2
  have f1 := Int.mul_le_mul_of_nonneg_right f1 (Int.le_of_lt g)
  have f2 := Int.mul_lt_mul_of_pos_right f2 g
  rw [Int.mul_assoc, h2, Int.neg_mul, h1] at f1 f2
  have e1 : (-f - 1) * b = -((f + 1) * b) := by rw [← Int.neg_mul]; congr 1; omega
  have e2 : -f * b = -(f * b) := Int.neg_mul f b
  rw [e1, e2]
  omega
theorem rO_ne {a b : Int} (hb : 0 < b) : (rO a b != 0) = !decide (V.int a = V.int 0) := by
  have h1 := rO_mul (o := a) (u := b) (Int.ne_of_gt hb)
  have g := shd_pos (a := a) hb
  by_cases e : a = 0
  · have z : rO a b = 0 := by
      rw [e] at h1
      rcases Int.mul_eq_zero.mp h1 with h | h
      · rw [e]; exact h
      · rw [e] at g; omega
    rw [z, e]
    rfl
  · have z : rO a b ≠ 0 := fun h => e (by rw [← h1, h, Int.zero_mul])
    have z2 : (V.int a = V.int 0) ↔ False := ⟨fun h => e (by injection h), fun h => h.elim⟩
    simp [z, z2]
theorem i_mulS {H : Hp} {Q : VK} {i j : Int} (h1 : Sm i) (h2 : Sm j) (k : Q (.int (i * j)) H) : rI CMulW (fun i j => V.int (i * j)) (.int i) (.int j) H Q := i_I (wide_mul (a := 1900) (b := 1900) h1 h2 (by decide) (by decide) (by decide)) k
theorem sm_le {x : Int} {n : Nat} (h : x.natAbs < 2 ^ n) (hn : n ≤ 1900) : Sm x := Nat.lt_of_lt_of_le h (Nat.pow_le_pow_right (by decide) hn)
theorem lt_mul {x y : Int} {n m : Nat} (h1 : x.natAbs < 2 ^ n) (h2 : y.natAbs < 2 ^ m) : (x * y).natAbs < 2 ^ (n + m) := wide_lt h1 h2
theorem lt_add {x y : Int} {n : Nat} (h1 : x.natAbs < 2 ^ n) (h2 : y.natAbs < 2 ^ n) : (x + y).natAbs < 2 ^ (n + 1) := by
  have e : (2 : Nat) ^ (n + 1) = 2 * 2 ^ n := by rw [Nat.pow_succ, Nat.mul_comm]
  rw [e]
  generalize 2 ^ n = N at h1 h2
  omega
theorem lt_up {x : Int} {n m : Nat} (h : x.natAbs < 2 ^ n) (hn : n ≤ m) : x.natAbs < 2 ^ m := Nat.lt_of_lt_of_le h (Nat.pow_le_pow_right (by decide) hn)
theorem fdiv_abs {p q : Int} (hq : 0 < q) : (p.fdiv q).natAbs ≤ p.natAbs := by
  rw [Int.fdiv_eq_ediv_of_nonneg p (Int.le_of_lt hq)]
  exact Int.natAbs_ediv_le_natAbs p q
theorem floor_abs {a b : Int} (hb : 0 < b) : ((rO a b).fdiv (rU a b)).natAbs ≤ a.natAbs := Nat.le_trans (fdiv_abs (rU_pos (Int.ne_of_gt hb))) (rO_le (Int.ne_of_gt hb))
theorem ceil_abs {a b : Int} (hb : 0 < b) : (-((-(rO a b)).fdiv (rU a b))).natAbs ≤ a.natAbs := by
  rw [Int.natAbs_neg]
  refine Nat.le_trans (fdiv_abs (rU_pos (Int.ne_of_gt hb))) ?_
  rw [Int.natAbs_neg]
  exact rO_le (Int.ne_of_gt hb)
section
variable {a b i : Int}
theorem dlt1 (hb : 0 < b) : decide (rO a b * rU i 1 < rO i 1 * rU a b) = decide (a < i * b) := (dlt hb (by decide)).trans (by rw [Int.mul_one])
theorem dgt1 (hb : 0 < b) : decide (rO a b * rU i 1 > rO i 1 * rU a b) = decide (a > i * b) := (dgt hb (by decide)).trans (by rw [Int.mul_one])
theorem dle1 (hb : 0 < b) : (!decide (rO a b * rU i 1 > rO i 1 * rU a b)) = decide (a ≤ i * b) := (dle hb (by decide)).trans (by rw [Int.mul_one])
theorem dge1 (hb : 0 < b) : (!decide (rO a b * rU i 1 < rO i 1 * rU a b)) = decide (a ≥ i * b) := (dge hb (by decide)).trans (by rw [Int.mul_one])
theorem rlt1 (hb : 0 < b) : decide (rO a b * rU i 1 > rO i 1 * rU a b) = decide (i * b < a) := (dgt1 hb).trans (decide_eq_decide.mpr Iff.rfl)
theorem rgt1 (hb : 0 < b) : decide (rO a b * rU i 1 < rO i 1 * rU a b) = decide (i * b > a) := (dlt1 hb).trans (decide_eq_decide.mpr Iff.rfl)
theorem rle1 (hb : 0 < b) : (!decide (rO a b * rU i 1 < rO i 1 * rU a b)) = decide (i * b ≤ a) := (dge1 hb).trans (decide_eq_decide.mpr Iff.rfl)
theorem rge1 (hb : 0 < b) : (!decide (rO a b * rU i 1 > rO i 1 * rU a b)) = decide (i * b ≥ a) := (dle1 hb).trans (decide_eq_decide.mpr Iff.rfl)
theorem sm1 : Sm 1 := by unfold Sm; decide +kernel
end
/-- a new instance, made: Q of it -/
def kMk (C : Addr) (sp : Sp) (dvs : List V) (E : XK) (Q : VK) (vs : List V) (H1 : Hp) : Prop := ∀ x dx, H1 x = none → H1 dx = none → dx ≠ x → sp (.ref x :: (vs ++ dvs)) (upd (upd H1 dx (.own x)) x (.ins C dx [])) (fun v H2 => v = .non ∧ Q (.ref x) H2) E
theorem i_mkK {C : Addr} {sp : Sp} {dvs : List V} {E : XK} {t : TA} {σ : L2.St} {H : Hp} {Q : VK} (k : t σ H (kMk C sp dvs E Q)) : tMake C sp dvs E t σ H Q := k
section
variable {R CB : Addr} {H : Hp} {E : XK} {Q : VK} {a b : Int}
theorem u_rat (hb : 0 < b) (h : Sm b) (k : ∀ x H', Same H H' → RatOf R H' x a b → Q (.ref x) H') : kMk R (spIni R CB) [] E Q [.int a, .int b] H := u_new hb h k
theorem u_rat1 (k : ∀ x H', Same H H' → RatOf R H' x a 1 → Q (.ref x) H') : kMk R (spIni R CB) [.int 1] E Q [.int a] H := u_new (b := 1) (by decide) (by unfold Sm; decide +kernel) k
end
end Az

/-! heard: what a lambda hands back, in a list, or the value of its error. -/
namespace Az
open PySem PySem.Spec PyProof.Rows L2 AzX LamX
/-- a wish that is asked of states of the right length alone -/
theorem takes_len {X : Cx} {W : WX} (t : Takes X W) : Takes X (fun c d σ H => σ.length = X.N.length → W c d σ H) := fun u s' ⟨a, B, sI, pins, σ, H, cls, d, e, I, nb, up, sky, na, os, ag, w⟩ =>
  t u s' ⟨a, B, sI, pins, σ, H, cls, d, e, I, nb, up, sky, na, os, ag, w I.len⟩
/-- the facts of an error C that is caught as one of CS -/
structure CatchT (K : PySem.W.Frag) (CS C : Addr) : Prop where
  exm : PySem.W.exmOne K (.ref C) (.ref CS) = some true
  exc : ExcC K C
  xf : XfC K C
/-- data, as it stands in every later heap -/
def DtS (K : PySem.W.Frag) (H : Hp) (v : V) (d : PyData) : Prop := (∀ H', ExtN H H' → Dt K H' v d) ∧ d.showable = true ∧ d.depth ≤ 20 ∧ d.shown.length ≤ sizeLine
theorem DtS.ext {K : PySem.W.Frag} {H H' : Hp} {v : V} {d : PyData} (x : DtS K H v d) (s : ExtN H H') : DtS K H' v d := ⟨fun H2 s2 => x.1 H2 (s.trans s2), x.2⟩
theorem DtS.mono {K : PySem.W.Frag} {H H' : Hp} {v : V} {d : PyData} (x : DtS K H v d) (s : Same H H') : DtS K H' v d := x.ext (.of s)
theorem i_rep {K : PySem.W.Frag} {H : Hp} {Q : VK} {v : V} {d : PyData} (x : DtS K H v d) (k : Q (.str d.shown) H) : rRep K [v] H Q := ⟨v, d, rfl, x.1 H (ExtN.refl H), x.2.1, x.2.2.1, x.2.2.2, k⟩
theorem RatAt.extN {R : Addr} {H H' : Hp} {a : Addr} {p q : Int} (x : RatAt R H a p q) (s : ExtN H H') : RatAt R H' a p q := by
  obtain ⟨⟨dx, h⟩, b, c⟩ := x
  exact ⟨⟨dx, s _ _ h fun _ z => by cases z⟩, b, c⟩
/-- something odd: its type, stable -/
def OddS (H : Hp) (v : V) : Prop := ∀ H', ExtN H H' → ∃ t, tyV H' v = some t ∧ t ∈ oddTys
theorem OddS.ext {H H' : Hp} {v : V} (x : OddS H v) (s : ExtN H H') : OddS H' v := fun H2 s2 => x H2 (s.trans s2)
theorem OddS.nv {R : Addr} {H : Hp} {v : V} (x : OddS H v) : NV R H v none := by
  obtain ⟨t, h, m⟩ := x H (ExtN.refl H)
  exact .odd h m
end Az

/-! The pen: what draws. -/
namespace Az
open PySem L2
/-- the pen at a: its cells at c, at most n of them drawn -/
structure Pen (H : Hp) (a c : Addr) (cs : List Int) (n : Int) : Prop where
  at_ : ∃ spot great : Int, H a = some (.lst [.ref c, .int spot, .int great]) ∧ 0 ≤ spot ∧ spot ≤ n ∧ 0 ≤ great
  cells : H c = some (.lst (cs.map V.int))
  len : cs.length ≤ 60
theorem Pen.ne {H : Hp} {a c : Addr} {cs : List Int} {n : Int} (p : Pen H a c cs n) : c ≠ a := by
  obtain ⟨⟨s, g, h, _⟩, h2, _⟩ := p
  refine ne_of h2 h ?_
  intro z
  cases cs with
  | nil => cases z
  | cons x r => cases z
def spPen (K : PySem.W.Frag) : Sp := fun vs H Q _ => ∃ (s : Addr) (ns : List Int), vs = [.ref s] ∧ SqL K H s (ns.map V.int) ∧
  ∀ (a c : Addr) (cs : List Int) (H' : Hp), H a = none → H c = none → Same H H' → Pen H' a c cs 0 → Q (.ref a) H'
def spDraw : Sp := fun vs H Q _ => ∃ (a c : Addr) (cs : List Int) (n many : Int), vs = [.ref a, .int many] ∧ Pen H a c cs n ∧ n ≤ 100000 ∧ 0 < many ∧ many < 1000000 ∧
  ∀ (r : Int) (H' : Hp), 0 ≤ r → r < many → Ext a H H' → Pen H' a c cs (n + 1) → Q (.int r) H'
def spPick : Sp := fun vs H Q _ => ∃ (a c : Addr) (cs : List Int) (n : Int) (l : Addr) (xs : List V), vs = [.ref a, .ref l] ∧ Pen H a c cs n ∧ n ≤ 100000 ∧ H l = some (.lst xs) ∧ l ≠ a ∧ xs ≠ [] ∧ xs.length < 1000 ∧
  ∀ (j : Nat) (x : V) (H' : Hp), xs[j]? = some x → Ext a H H' → Pen H' a c cs (n + 1) → Q x H'
theorem cut60 (xs : List V) : cutV xs none (some 60) = xs.take 60 := by
  unfold cutV
  show (xs.drop (HT.sIx xs.length 0 none)).take (HT.sIx xs.length xs.length (some 60) - HT.sIx xs.length 0 none) = _
  have e0 : HT.sIx xs.length 0 none = 0 := rfl
  have e1 : HT.sIx xs.length xs.length (some 60) = min 60 xs.length := by
    simp [HT.sIx]
  rw [e0, e1]
  simp
theorem Pen.mono {H H' : Hp} {a c : Addr} {cs : List Int} {n n' : Int} (p : Pen H a c cs n) (s : Same H H') (h : n ≤ n') : Pen H' a c cs n' := by
  obtain ⟨⟨x, y, e, h0, h1, h2⟩, q, l⟩ := p
  exact ⟨⟨x, y, s _ _ e, h0, by omega, h2⟩, s _ _ q, l⟩
theorem Pen.le {H : Hp} {a c : Addr} {cs : List Int} {n n' : Int} (p : Pen H a c cs n) (h : n ≤ n') : Pen H a c cs n' := p.mono (Same.refl H) h
theorem new_ne {H H1 : Hp} {a p : Addr} {o : HO} (s : Same H H1) (h : H a = some o) (hp : H1 p = none) : p ≠ a := fun e => by subst e; rw [s _ _ h] at hp; cases hp
/-- an object that is no such list stays when the pen is moved -/
theorem ext_at {H H' : Hp} {a c b : Addr} {cs : List Int} {n : Int} {o : HO} (e : Ext a H H') (p : Pen H a c cs n) (h : H b = some o) (ho : ∀ xs, o ≠ .lst xs) : H' b = some o := by
  obtain ⟨⟨x, y, z, _⟩, _⟩ := p
  refine e _ _ h fun q => ?_
  subst q
  rw [z] at h
  exact ho _ (Option.some.inj h).symm
theorem ext_tup {H H' : Hp} {a c b : Addr} {cs : List Int} {n : Int} {xs : List V} (e : Ext a H H') (p : Pen H a c cs n) (h : H b = some (.tup xs)) : H' b = some (.tup xs) := ext_at e p h fun _ z => by cases z
def spLInt : Sp := fun vs H Q _ => ∃ (a c : Addr) (cs : List Int) (n : Int), vs = [.ref a] ∧ Pen H a c cs n ∧ n ≤ 90000 ∧ ∀ (i : Int) (H' : Hp), i.natAbs < 2 ^ 128 → Ext a H H' → Pen H' a c cs (n + 3) → Q (.int i) H'
def spLPair : Sp := fun vs H Q _ => ∃ (a c : Addr) (cs : List Int) (n : Int), vs = [.ref a] ∧ Pen H a c cs n ∧ n ≤ 90000 ∧ ∀ (i j : Int) (t : Addr) (H' : Hp), i.natAbs < 2 ^ 128 → 0 < j → j.natAbs < 2 ^ 128 → Ext a H H' → Pen H' a c cs (n + 6) → H' t = some (.tup [.int i, .int j]) → t ≠ a → Q (.ref t) H'
end Az

/-! More readings. -/
namespace Az
open PySem PySem.Spec PyProof.Rows L2 AzX
open LamX (ExtN)
section
variable {σ : L2.St} {H H1 : Hp} {Q : VK} {v x y : V} {i j : Int} {a p : Addr} {K : PySem.W.Frag}
theorem i_gTup {n : Nat} {t : TGs} {xs : List V} {R : L2.St → Hp → Prop} (h : H p = some (.tup xs)) (hl : xs.length = n) (k : t xs σ H R) : gTup K n t (.ref p) σ H R := ⟨p, xs, rfl, SqT.of h, hl, k⟩
theorem i_gCons {t : TG} {u : TGs} {vr : List V} {R : L2.St → Hp → Prop} (k : t v σ H fun σ' H' => u vr σ' H' R) : gCons t u (v :: vr) σ H R := ⟨v, vr, rfl, k⟩
theorem i_gNil {R : L2.St → Hp → Prop} (k : R σ H) : gNil [] σ H R := ⟨rfl, k⟩
theorem i_chain {r r' : R2} {ta tb tc : TE} (k : ta σ H fun x H1 => tb σ H1 fun y H2 => r x y H2 fun z H3 => ∃ k, z = .bl k ∧ (if k = true then tc σ H3 fun w' H4 => r' y w' H4 Q else Q (.bl false) H3)) : tChain r r' ta tb tc σ H Q := k
theorem i_par {m n : Nat} {ta : TA} {D : Ends} (k : ta σ H fun vs H1 => ∃ v w, vs = [v, w] ∧ D.nx ((σ.set m (some v)).set n (some w)) H1) : tPar m n ta D σ H := k
theorem i_two {R : V → V → Prop} (k : R x y) : ∃ v w, [x, y] = [v, w] ∧ R v w := ⟨x, y, rfl, k⟩
theorem i_par3 {m n l : Nat} {ta : TA} {D : Ends} (k : ta σ H fun vs H1 => ∃ u v w, vs = [u, v, w] ∧ D.nx (((σ.set m (some u)).set n (some v)).set l (some w)) H1) : tPar3 m n l ta D σ H := k
theorem i_three {R : V → V → V → Prop} (k : R v x y) : ∃ u v' w, [v, x, y] = [u, v', w] ∧ R u v' w := ⟨v, x, y, rfl, k⟩
theorem same_get {b : Addr} {o : HO} (s : Same H H1) (h : H b = some o) : H1 b = some o := s _ _ h
theorem ext_get {b : Addr} {o : HO} (s : Ext a H H1) (h : H b = some o) (n : b ≠ a) : H1 b = some o := s _ _ h n
end
/-- data of plain values -/
inductive PlD : V → PyData → Prop
  | non : PlD .non .none
  | bl (b : Bool) : PlD (.bl b) (.bool b)
  | int (i : Int) : PlD (.int i) (.int i)
  | str (x : Str) : PlD (.str x) (.str x)
inductive PlAll : List V → List PyData → Prop
  | nil : PlAll [] []
  | cons {v : V} {vs : List V} {d : PyData} {ds : List PyData} : PlD v d → PlAll vs ds → PlAll (v :: vs) (d :: ds)
theorem PlD.dp {K : PySem.W.Frag} {H : Hp} {v : V} {d : PyData} (x : PlD v d) : Dp K H v d := by
  cases x <;> constructor
theorem PlAll.dp {K : PySem.W.Frag} {H : Hp} {vs : List V} {ds : List PyData} (x : PlAll vs ds) : DpAll K H vs ds := by
  induction x with
  | nil => exact .nil
  | cons h _ ih => exact .cons h.dp ih
theorem dts_lst {K : PySem.W.Frag} {H : Hp} {a : Addr} {xs : List V} {ds : List PyData} (h : H a = some (.lst xs)) (p : PlAll xs ds) (h1 : (PyData.list ds).hasDict = false) (h2 : (PyData.list ds).showable = true) (h3 : (PyData.list ds).depth ≤ 20) (h4 : (PyData.list ds).shown.length ≤ sizeLine) : DtS K H (.ref a) (.list ds) :=
  ⟨fun H' s => .of (.lst (SqL.of (s _ _ h fun _ z => by cases z)) p.dp) h1, h2, h3, h4⟩
theorem dts_tup {K : PySem.W.Frag} {H : Hp} {a : Addr} {xs : List V} {ds : List PyData} (h : H a = some (.tup xs)) (p : PlAll xs ds) (h1 : (PyData.tuple ds).hasDict = false) (h2 : (PyData.tuple ds).showable = true) (h3 : (PyData.tuple ds).depth ≤ 20) (h4 : (PyData.tuple ds).shown.length ≤ sizeLine) : DtS K H (.ref a) (.tuple ds) :=
  ⟨fun H' s => .of (.tup (SqT.of (s _ _ h fun _ z => by cases z)) p.dp) h1, h2, h3, h4⟩
theorem dts_pl {K : PySem.W.Frag} {H : Hp} {v : V} {d : PyData} (p : PlD v d) (h1 : d.hasDict = false) (h2 : d.showable = true) (h3 : d.depth ≤ 20) (h4 : d.shown.length ≤ sizeLine) : DtS K H v d := ⟨fun _ _ => .of p.dp h1, h2, h3, h4⟩
theorem lenB1 : ∀ b0 : Bool, Nat.ble (PyData.list [.bool b0]).shown.length 16777216 = true := by decide +kernel
theorem dts_b1 {K : PySem.W.Frag} {H : Hp} {a : Addr} {b0 : Bool} (h : H a = some (.lst [.bl b0])) : DtS K H (.ref a) (.list [.bool b0]) := dts_lst h (.cons (.bl _) (.nil)) rfl rfl (Nat.le_of_ble_eq_true rfl) (size_ok (lenB1 b0))
theorem lenB5 : ∀ b0 b1 b2 b3 b4 : Bool, Nat.ble (PyData.list [.bool b0, .bool b1, .bool b2, .bool b3, .bool b4]).shown.length 16777216 = true := by decide +kernel
theorem dts_b5 {K : PySem.W.Frag} {H : Hp} {a : Addr} {b0 b1 b2 b3 b4 : Bool} (h : H a = some (.lst [.bl b0, .bl b1, .bl b2, .bl b3, .bl b4])) : DtS K H (.ref a) (.list [.bool b0, .bool b1, .bool b2, .bool b3, .bool b4]) := dts_lst h (.cons (.bl _) (.cons (.bl _) (.cons (.bl _) (.cons (.bl _) (.cons (.bl _) (.nil)))))) rfl rfl (Nat.le_of_ble_eq_true rfl) (size_ok (lenB5 b0 b1 b2 b3 b4))
theorem lenB6 : ∀ b0 b1 b2 b3 b4 b5 : Bool, Nat.ble (PyData.list [.bool b0, .bool b1, .bool b2, .bool b3, .bool b4, .bool b5]).shown.length 16777216 = true := by decide +kernel
theorem dts_b6 {K : PySem.W.Frag} {H : Hp} {a : Addr} {b0 b1 b2 b3 b4 b5 : Bool} (h : H a = some (.lst [.bl b0, .bl b1, .bl b2, .bl b3, .bl b4, .bl b5])) : DtS K H (.ref a) (.list [.bool b0, .bool b1, .bool b2, .bool b3, .bool b4, .bool b5]) := dts_lst h (.cons (.bl _) (.cons (.bl _) (.cons (.bl _) (.cons (.bl _) (.cons (.bl _) (.cons (.bl _) (.nil))))))) rfl rfl (Nat.le_of_ble_eq_true rfl) (size_ok (lenB6 b0 b1 b2 b3 b4 b5))
theorem lenB : ∀ b : Bool, Nat.ble (PyData.bool b).shown.length 16777216 = true := by decide +kernel
theorem dts_b {K : PySem.W.Frag} {H : Hp} {b : Bool} : DtS K H (.bl b) (.bool b) := dts_pl (.bl b) rfl rfl (Nat.le_of_ble_eq_true rfl) (size_ok (lenB b))
theorem dts_dict {K : PySem.W.Frag} {H : Hp} {a : Addr} (h : H a = some (.dK [])) : DtS K H (.ref a) (.dict []) := ⟨fun H' s => .dct (kvs := []) (ds := []) (s _ _ h fun _ z => by cases z) rfl, rfl, Nat.le_of_ble_eq_true rfl, size_ok (by decide +kernel)⟩
theorem odd_lst {H : Hp} {a : Addr} {xs : List V} (h : H a = some (.lst xs)) : OddS H (.ref a) := fun H' s => ⟨"list", by simp [tyV, s _ _ h fun _ z => by cases z], by simp [oddTys]⟩
theorem odd_tup {H : Hp} {a : Addr} {xs : List V} (h : H a = some (.tup xs)) : OddS H (.ref a) := fun H' s => ⟨"tuple", by simp [tyV, s _ _ h fun _ z => by cases z], by simp [oddTys]⟩
theorem odd_dict {H : Hp} {a : Addr} {xs : List (Key × V)} (h : H a = some (.dK xs)) : OddS H (.ref a) := fun H' s => ⟨"dict", by simp [tyV, s _ _ h fun _ z => by cases z], by simp [oddTys]⟩
theorem odd_non {H : Hp} : OddS H .non := fun H' s => ⟨"NoneType", rfl, by simp [oddTys]⟩
theorem odd_str {H : Hp} {x : Str} : OddS H (.str x) := fun H' s => ⟨"str", rfl, by simp [oddTys]⟩
theorem odd_bl {H : Hp} {x : Bool} : OddS H (.bl x) := fun H' s => ⟨"bool", rfl, by simp [oddTys]⟩
theorem dts_non {K : PySem.W.Frag} {H : Hp} : DtS K H .non .none := dts_pl .non rfl rfl (Nat.le_of_ble_eq_true rfl) (size_ok (by decide +kernel))
/-- something odd that repr shows -/
def OddD (K : PySem.W.Frag) (H : Hp) (v : V) : Prop := OddS H v ∧ ∃ d, DtS K H v d
/-- the pen moved: what it is not stays -/
theorem Pen.extN {H H' : Hp} {a c : Addr} {cs : List Int} {n : Int} (p : Pen H a c cs n) (s : LamX.ExtN H H') : Pen H' a c cs n := by
  obtain ⟨⟨x, y, e, h0, h1, h2⟩, q, l⟩ := p
  exact ⟨⟨x, y, s _ _ e (fun _ z => (by cases z)), h0, h1, h2⟩, s _ _ q (fun _ z => (by cases z)), l⟩
end Az

/-! Defs that make lambdas. -/
namespace Az
open PySem PySem.Spec PyProof.Rows L2 AzX LamX Hz He
section
variable {P : Program} {w : World} {K : PySem.W.Frag} {mg : Str → Option Value} {base : Heap}
/-- a def whose code object is told -/
theorem okGC {x : Str} {d : DefZ} {fd : FuncData} {N ps : List Str} {k : Nat} {sp : Sp} (hat : d.at_ = .g x) (F : FnP K d fd) (hd : d.dfl = []) (S : FnScope N ps (defScope d.st)) (len : ∀ vs H Q E, sp vs H Q E → vs.length = ps.length)
    (hbody : ∀ (A : Around) (outer : List Env) (s : Shared) (H : Hp) (vs : List V) (Q : VK) (E : XK), Room k (A.deeper (envOfC d.qual (defScope d.st) s.heap.objs.size (d.at_.ad K) (.ref (cT K (x, none)).1))) → A.guards = some [] → sp vs H Q E →
      ∃ t, PSs (cxOf CX0 P w K mg base N d.qual (defScope d.st) (d.at_.ad K) (.ref (cT K (x, none)).1) A outer s H E).nox (defBody d.st) t ∧ t { nx := fun _ H' => Q .non H', rt := Q } (start N vs) H) : FnG P w K mg base CX0 (k + 1) (d.at_.ad K) fd ps sp := by
  obtain ⟨oc, od, kV, doc, pm, an, cdv, ct, osl, rfl, lk, hcd⟩ := (fun_of F hd).ex
  obtain ⟨c, rfl⟩ := codeIn_ref hcd
  have e : (cT K (x, none)).1 = c := by
    refine codeOf_eq (p := (x, none)) (K := K) (by
      show K.lookup (ga K x) = _
      have z : d.at_.ad K = ga K x := by rw [hat]; rfl
      rw [← z]
      exact lk) rfl
  rw [e] at hbody
  refine fn_ofG lk hcd S len fun A outer s H vs Q E hr hg hsp => ?_
  obtain ⟨t, h, q⟩ := hbody A outer s H vs Q E hr hg hsp
  exact ⟨t, h.nox, q⟩
end
section
variable {K : PySem.W.Frag} {T : List (Addr × Str)} {t : XK → TE} {σ : L2.St} {H : Hp} {Q : VK}
theorem tabs_same {H' : Hp} (h : Tabs T H) (s : Same H H') : Tabs T H' := h.ext s
/-- a table is no other thing -/
theorem ne_tab {a : Addr} {q : Str} {o : HO} {P : Addr} (h : Tabs T H) (m : (P, q) ∈ T) (ha : H a = some o) (ho : ∀ ps, o ≠ .tbl ps) : P ≠ a := by
  obtain ⟨ps, h1, _⟩ := h _ m
  intro e
  rw [← e, h1] at ha
  exact ho ps (Option.some.inj ha).symm
/-- what is written over another object leaves the tables -/
theorem Tabs.put {a : Addr} {o o' : HO} (h : Tabs T H) (ha : H a = some o) (ho : ∀ ps, o ≠ .tbl ps) (hc : ∀ c q, o ≠ CodeO c q) : Tabs T (upd H a o') := fun p hp => by
  obtain ⟨ps, h1, h2, h3⟩ := h p hp
  have n1 : p.1 ≠ a := fun e => by rw [e, ha] at h1; exact ho ps (Option.some.inj h1)
  refine ⟨ps, by rw [upd_ne n1]; exact h1, h2, fun pos cv hcv => ?_⟩
  obtain ⟨c, e1, e2⟩ := h3 pos cv hcv
  have n2 : c ≠ a := fun e => by rw [e, ha] at e2; exact hc _ _ (Option.some.inj e2)
  exact ⟨c, e1, by rw [upd_ne n2]; exact e2⟩
end
end Az
namespace Az
open PySem PySem.Spec PyProof.Rows L2 AzX LamX
theorem RatOf.extP {R : Addr} {H H' : Hp} {a c x : Addr} {cs : List Int} {n : Int} {p q : Int} (r : RatOf R H x p q) (e : Ext a H H') (P : Pen H a c cs n) : RatOf R H' x p q := by
  obtain ⟨⟨⟨dx, h⟩, b, c⟩, d⟩ := r
  exact ⟨⟨⟨dx, ext_at e P h fun _ z => by cases z⟩, b, c⟩, d⟩
theorem RatOf.extN {R : Addr} {H H' : Hp} {x : Addr} {p q : Int} (r : RatOf R H x p q) (e : ExtN H H') : RatOf R H' x p q := ⟨r.1.extN e, r.2⟩
theorem Tabs.extP {T : List (Addr × Str)} {H H' : Hp} {a c : Addr} {cs : List Int} {n : Int} (t : Tabs T H) (e : Ext a H H') (P : Pen H a c cs n) : Tabs T H' := fun p hp => by
  obtain ⟨ps, h1, h2, h3⟩ := t p hp
  refine ⟨ps, ext_at e P h1 (fun _ z => by cases z), h2, fun pos cv hcv => ?_⟩
  obtain ⟨c, e1, e2⟩ := h3 pos cv hcv
  exact ⟨c, e1, ext_at e P e2 (fun _ z => by unfold CodeO at z; cases z)⟩
end Az
namespace Az
open PySem PySem.Spec PyProof.Rows L2 AzX LamX
theorem extN_put {H H6 Hc : Hp} {l : Addr} {o : HO} (e : ExtN H Hc) (e6 : ExtN H H6) (hl : H6 l = none) : ExtN H (upd Hc l o) := fun b u h n => by
  have hb : b ≠ l := ne_of_none (e6 b u h n) hl
  rw [upd_ne hb]
  exact e b u h n
theorem i_bm {K : PySem.W.Frag} {T : String} {r : V → List V → Hp → VK → Prop} {ta : TE} {t : TA} {σ : L2.St} {H : Hp} {Q : VK} (k : ta σ H fun x H1 => L2.tyV K T x H1 ∧ t σ H1 fun vs H2 => r x vs H2 Q) : tBM K T r ta t σ H Q := k
end Az
namespace Az
open PySem L2
theorem size_lt {n : Nat} (h : Nat.ble (n + 1) 16777216 = true) : n < sizeLine := by rw [sizeLine_eq]; exact Nat.le_of_ble_eq_true h
end Az
namespace Az
open PySem L2
theorem shp4 {z x : Str} (hz : PyData.strOk z = true) (hx : PyData.strOk x = true) : SeqAt.shaped (.list [.tuple [.str z, .str x], .tuple [.str z, .str x], .tuple [.str z, .str x], .tuple [.str z, .str x]]) = true := by simp [SeqAt.shaped, PyData.canLay0, PyData.canLayAll0, PyData.depth, PyData.depthAll, hz, hx]
theorem eqv4 {z x : Str} (hz : PyData.strOk z = true) (hx : PyData.strOk x = true) : PyData.eqv (.list [.tuple [.str z, .str x], .tuple [.str z, .str x], .tuple [.str z, .str x], .tuple [.str z, .str x]]) (.list [.tuple [.str z, .str x], .tuple [.str z, .str x], .tuple [.str z, .str x], .tuple [.str z, .str x]]) = true := SeqAt.eqv_refl _ (by simp [PyData.canLay0, PyData.canLayAll0, hz, hx])
end Az
namespace Az
open PySem PySem.Spec PyProof.Rows L2 AzX
def tNotR (r : V → Hp → (Bool → Hp → Prop) → Prop) (ta : TE) : TE := fun σ H Q => ta σ H fun x H1 => r x H1 fun c H2 => Q (.bl (!c)) H2
/-- not x by truth -/
theorem pe_notTr {X : Cx} {a : Expr} {ta : TE} {pos : Pos} {r : V → Hp → (Bool → Hp → Prop) → Prop} (tr : TruR X r) (ha : PE X a ta) : PE X (.UnaryOp .Not a pos) (tNotR r ta) := by
  refine ⟨fun pins s σ H Q I h => ?_⟩
  refine UnaryOp_ (thn (ha.run pins s σ H _ I h) fun v s1 ⟨x, H1, I1, r1, q1⟩ => ?_)
  exact not_of (thn (tr pins s1 σ H1 x v (fun c H2 => Q (.bl (!c)) H2) I1 r1 q1) fun c s2 ⟨H2, I2, q2⟩ => ⟨.bl (!c), H2, I2, rfl, q2⟩)
theorem i_notR {r : V → Hp → (Bool → Hp → Prop) → Prop} {ta : TE} {σ : L2.St} {H : Hp} {Q : VK} (k : ta σ H fun x H1 => r x H1 fun c H2 => Q (.bl (!c)) H2) : tNotR r ta σ H Q := k
end Az

namespace Az
open PySem PySem.Spec PyProof.Rows L2 He Hz
def top (i : Nat) : Stmt := PySem.Challenge.pw_allzooms_k04_ratios_in_order.main.body.getD i (.Pass ⟨0, 0, 0, 0⟩)
abbrev s_BadRatio___init__ : Stmt := inClass (top 3) 0
abbrev d_BadRatio___init__ : DefZ := ⟨.m "BadRatio" "__init__", "__init__", "BadRatio.__init__", s_BadRatio___init__, [], true⟩
abbrev a_BadRatio___init__ (K : PySem.W.Frag) : Addr := (d_BadRatio___init__).at_.ad K
abbrev s_BadText___init__ : Stmt := inClass (top 4) 0
abbrev d_BadText___init__ : DefZ := ⟨.m "BadText" "__init__", "__init__", "BadText.__init__", s_BadText___init__, [], true⟩
abbrev a_BadText___init__ (K : PySem.W.Frag) : Addr := (d_BadText___init__).at_.ad K
abbrev s_integer_in : Stmt := top 7
theorem sc_integer_in : FnScope ["word", "body", "figure"] ["word"] (defScope s_integer_in) := ⟨rfl, rfl, rfl, by decide +kernel, rfl, by decide +kernel, by decide +kernel⟩
abbrev d_integer_in : DefZ := ⟨.g "integer_in", "integer_in", "integer_in", s_integer_in, [], false⟩
abbrev a_integer_in (K : PySem.W.Frag) : Addr := (d_integer_in).at_.ad K
abbrev s_Words___init__ : Stmt := inClass (top 8) 0
theorem sc_Words___init__ : FnScope ["self", "text"] ["self", "text"] (defScope s_Words___init__) := ⟨rfl, rfl, rfl, by decide +kernel, rfl, by decide +kernel, by decide +kernel⟩
abbrev d_Words___init__ : DefZ := ⟨.m "Words" "__init__", "__init__", "Words.__init__", s_Words___init__, [], false⟩
abbrev a_Words___init__ (K : PySem.W.Frag) : Addr := (d_Words___init__).at_.ad K
abbrev s_Words_upcoming : Stmt := inClass (top 8) 1
theorem sc_Words_upcoming : FnScope ["self"] ["self"] (defScope s_Words_upcoming) := ⟨rfl, rfl, rfl, by decide +kernel, rfl, by decide +kernel, by decide +kernel⟩
abbrev d_Words_upcoming : DefZ := ⟨.s "Words" "upcoming", "upcoming", "Words.upcoming", s_Words_upcoming, [], false⟩
abbrev a_Words_upcoming (K : PySem.W.Frag) : Addr := (d_Words_upcoming).at_.ad K
abbrev s_Words_refuse : Stmt := inClass (top 8) 2
theorem sc_Words_refuse : FnScope ["self"] ["self"] (defScope s_Words_refuse) := ⟨rfl, rfl, rfl, by decide +kernel, rfl, by decide +kernel, by decide +kernel⟩
abbrev d_Words_refuse : DefZ := ⟨.m "Words" "refuse", "refuse", "Words.refuse", s_Words_refuse, [], false⟩
abbrev a_Words_refuse (K : PySem.W.Frag) : Addr := (d_Words_refuse).at_.ad K
abbrev s_Words_take : Stmt := inClass (top 8) 4
theorem sc_Words_take : FnScope ["self", "found"] ["self", "found"] (defScope s_Words_take) := ⟨rfl, rfl, rfl, by decide +kernel, rfl, by decide +kernel, by decide +kernel⟩
abbrev d_Words_take : DefZ := ⟨.m "Words" "take", "take", "Words.take", s_Words_take, [], false⟩
abbrev a_Words_take (K : PySem.W.Frag) : Addr := (d_Words_take).at_.ad K
abbrev s_Words_is_over : Stmt := inClass (top 8) 7
theorem sc_Words_is_over : FnScope ["self"] ["self"] (defScope s_Words_is_over) := ⟨rfl, rfl, rfl, by decide +kernel, rfl, by decide +kernel, by decide +kernel⟩
abbrev d_Words_is_over : DefZ := ⟨.m "Words" "is_over", "is_over", "Words.is_over", s_Words_is_over, [], false⟩
abbrev a_Words_is_over (K : PySem.W.Frag) : Addr := (d_Words_is_over).at_.ad K
abbrev s_Words_close : Stmt := inClass (top 8) 8
theorem sc_Words_close : FnScope ["self"] ["self"] (defScope s_Words_close) := ⟨rfl, rfl, rfl, by decide +kernel, rfl, by decide +kernel, by decide +kernel⟩
abbrev d_Words_close : DefZ := ⟨.m "Words" "close", "close", "Words.close", s_Words_close, [], false⟩
abbrev a_Words_close (K : PySem.W.Frag) : Addr := (d_Words_close).at_.ad K
abbrev s_is_integer : Stmt := top 10
theorem sc_is_integer : FnScope ["value"] ["value"] (defScope s_is_integer) := ⟨rfl, rfl, rfl, by decide +kernel, rfl, by decide +kernel, by decide +kernel⟩
abbrev d_is_integer : DefZ := ⟨.g "is_integer", "is_integer", "is_integer", s_is_integer, [], false⟩
abbrev a_is_integer (K : PySem.W.Frag) : Addr := (d_is_integer).at_.ad K
abbrev s_divisor : Stmt := top 11
theorem sc_divisor : FnScope ["one", "other", "first", "second"] ["one", "other"] (defScope s_divisor) := ⟨rfl, rfl, rfl, by decide +kernel, rfl, by decide +kernel, by decide +kernel⟩
abbrev d_divisor : DefZ := ⟨.g "divisor", "divisor", "divisor", s_divisor, [], false⟩
abbrev a_divisor (K : PySem.W.Frag) : Addr := (d_divisor).at_.ad K
abbrev s_is_number : Stmt := top 12
theorem sc_is_number : FnScope ["value"] ["value"] (defScope s_is_number) := ⟨rfl, rfl, rfl, by decide +kernel, rfl, by decide +kernel, by decide +kernel⟩
abbrev d_is_number : DefZ := ⟨.g "is_number", "is_number", "is_number", s_is_number, [], false⟩
abbrev a_is_number (K : PySem.W.Frag) : Addr := (d_is_number).at_.ad K
abbrev s_Ratio___init__ : Stmt := inClass (top 13) 0
theorem sc_Ratio___init__ : FnScope ["self", "over", "under", "shared"] ["self", "over", "under"] (defScope s_Ratio___init__) := ⟨rfl, rfl, rfl, by decide +kernel, rfl, by decide +kernel, by decide +kernel⟩
abbrev d_Ratio___init__ : DefZ := ⟨.m "Ratio" "__init__", "__init__", "Ratio.__init__", s_Ratio___init__, [.int (1)], false⟩
abbrev a_Ratio___init__ (K : PySem.W.Frag) : Addr := (d_Ratio___init__).at_.ad K
abbrev s_Ratio_read : Stmt := inClass (top 13) 1
theorem sc_Ratio_read : FnScope ["cls", "text", "words", "found"] ["cls", "text"] (defScope s_Ratio_read) := ⟨rfl, rfl, rfl, by decide +kernel, rfl, by decide +kernel, by decide +kernel⟩
abbrev d_Ratio_read : DefZ := ⟨.s "Ratio" "read", "read", "Ratio.read", s_Ratio_read, [], false⟩
abbrev a_Ratio_read (K : PySem.W.Frag) : Addr := (d_Ratio_read).at_.ad K
abbrev s_Ratio_of : Stmt := inClass (top 13) 2
theorem sc_Ratio_of : FnScope ["value"] ["value"] (defScope s_Ratio_of) := ⟨rfl, rfl, rfl, by decide +kernel, rfl, by decide +kernel, by decide +kernel⟩
abbrev d_Ratio_of : DefZ := ⟨.s "Ratio" "of", "of", "Ratio.of", s_Ratio_of, [], false⟩
abbrev a_Ratio_of (K : PySem.W.Frag) : Addr := (d_Ratio_of).at_.ad K
abbrev s_Ratio_lowest : Stmt := inClass (top 13) 4
theorem sc_Ratio_lowest : FnScope ["values", "found", "number"] ["values"] (defScope s_Ratio_lowest) := ⟨rfl, rfl, rfl, by decide +kernel, rfl, by decide +kernel, by decide +kernel⟩
abbrev d_Ratio_lowest : DefZ := ⟨.s "Ratio" "lowest", "lowest", "Ratio.lowest", s_Ratio_lowest, [], false⟩
abbrev a_Ratio_lowest (K : PySem.W.Frag) : Addr := (d_Ratio_lowest).at_.ad K
abbrev s_Ratio_common : Stmt := inClass (top 13) 5
theorem sc_Ratio_common : FnScope ["values", "over", "under", "number"] ["values"] (defScope s_Ratio_common) := ⟨rfl, rfl, rfl, by decide +kernel, rfl, by decide +kernel, by decide +kernel⟩
abbrev d_Ratio_common : DefZ := ⟨.s "Ratio" "common", "common", "Ratio.common", s_Ratio_common, [], false⟩
abbrev a_Ratio_common (K : PySem.W.Frag) : Addr := (d_Ratio_common).at_.ad K
abbrev s_Ratio___add__ : Stmt := inClass (top 13) 6
theorem sc_Ratio___add__ : FnScope ["self", "other", "there"] ["self", "other"] (defScope s_Ratio___add__) := ⟨rfl, rfl, rfl, by decide +kernel, rfl, by decide +kernel, by decide +kernel⟩
abbrev d_Ratio___add__ : DefZ := ⟨.m "Ratio" "__add__", "__add__", "Ratio.__add__", s_Ratio___add__, [], false⟩
abbrev a_Ratio___add__ (K : PySem.W.Frag) : Addr := (d_Ratio___add__).at_.ad K
abbrev s_Ratio___radd__ : Stmt := inClass (top 13) 7
theorem sc_Ratio___radd__ : FnScope ["self", "other"] ["self", "other"] (defScope s_Ratio___radd__) := ⟨rfl, rfl, rfl, by decide +kernel, rfl, by decide +kernel, by decide +kernel⟩
abbrev d_Ratio___radd__ : DefZ := ⟨.m "Ratio" "__radd__", "__radd__", "Ratio.__radd__", s_Ratio___radd__, [], false⟩
abbrev a_Ratio___radd__ (K : PySem.W.Frag) : Addr := (d_Ratio___radd__).at_.ad K
abbrev s_Ratio___sub__ : Stmt := inClass (top 13) 8
theorem sc_Ratio___sub__ : FnScope ["self", "other"] ["self", "other"] (defScope s_Ratio___sub__) := ⟨rfl, rfl, rfl, by decide +kernel, rfl, by decide +kernel, by decide +kernel⟩
abbrev d_Ratio___sub__ : DefZ := ⟨.m "Ratio" "__sub__", "__sub__", "Ratio.__sub__", s_Ratio___sub__, [], false⟩
abbrev a_Ratio___sub__ (K : PySem.W.Frag) : Addr := (d_Ratio___sub__).at_.ad K
abbrev s_Ratio___rsub__ : Stmt := inClass (top 13) 9
theorem sc_Ratio___rsub__ : FnScope ["self", "other"] ["self", "other"] (defScope s_Ratio___rsub__) := ⟨rfl, rfl, rfl, by decide +kernel, rfl, by decide +kernel, by decide +kernel⟩
abbrev d_Ratio___rsub__ : DefZ := ⟨.m "Ratio" "__rsub__", "__rsub__", "Ratio.__rsub__", s_Ratio___rsub__, [], false⟩
abbrev a_Ratio___rsub__ (K : PySem.W.Frag) : Addr := (d_Ratio___rsub__).at_.ad K
abbrev s_Ratio___mul__ : Stmt := inClass (top 13) 10
theorem sc_Ratio___mul__ : FnScope ["self", "other", "there"] ["self", "other"] (defScope s_Ratio___mul__) := ⟨rfl, rfl, rfl, by decide +kernel, rfl, by decide +kernel, by decide +kernel⟩
abbrev d_Ratio___mul__ : DefZ := ⟨.m "Ratio" "__mul__", "__mul__", "Ratio.__mul__", s_Ratio___mul__, [], false⟩
abbrev a_Ratio___mul__ (K : PySem.W.Frag) : Addr := (d_Ratio___mul__).at_.ad K
abbrev s_Ratio___rmul__ : Stmt := inClass (top 13) 11
theorem sc_Ratio___rmul__ : FnScope ["self", "other"] ["self", "other"] (defScope s_Ratio___rmul__) := ⟨rfl, rfl, rfl, by decide +kernel, rfl, by decide +kernel, by decide +kernel⟩
abbrev d_Ratio___rmul__ : DefZ := ⟨.m "Ratio" "__rmul__", "__rmul__", "Ratio.__rmul__", s_Ratio___rmul__, [], false⟩
abbrev a_Ratio___rmul__ (K : PySem.W.Frag) : Addr := (d_Ratio___rmul__).at_.ad K
abbrev s_Ratio___neg__ : Stmt := inClass (top 13) 12
theorem sc_Ratio___neg__ : FnScope ["self"] ["self"] (defScope s_Ratio___neg__) := ⟨rfl, rfl, rfl, by decide +kernel, rfl, by decide +kernel, by decide +kernel⟩
abbrev d_Ratio___neg__ : DefZ := ⟨.m "Ratio" "__neg__", "__neg__", "Ratio.__neg__", s_Ratio___neg__, [], false⟩
abbrev a_Ratio___neg__ (K : PySem.W.Frag) : Addr := (d_Ratio___neg__).at_.ad K
abbrev s_Ratio_divided : Stmt := inClass (top 13) 13
theorem sc_Ratio_divided : FnScope ["self", "other", "there"] ["self", "other"] (defScope s_Ratio_divided) := ⟨rfl, rfl, rfl, by decide +kernel, rfl, by decide +kernel, by decide +kernel⟩
abbrev d_Ratio_divided : DefZ := ⟨.m "Ratio" "divided", "divided", "Ratio.divided", s_Ratio_divided, [], false⟩
abbrev a_Ratio_divided (K : PySem.W.Frag) : Addr := (d_Ratio_divided).at_.ad K
abbrev s_Ratio___floordiv__ : Stmt := inClass (top 13) 14
theorem sc_Ratio___floordiv__ : FnScope ["self", "other"] ["self", "other"] (defScope s_Ratio___floordiv__) := ⟨rfl, rfl, rfl, by decide +kernel, rfl, by decide +kernel, by decide +kernel⟩
abbrev d_Ratio___floordiv__ : DefZ := ⟨.m "Ratio" "__floordiv__", "__floordiv__", "Ratio.__floordiv__", s_Ratio___floordiv__, [], false⟩
abbrev a_Ratio___floordiv__ (K : PySem.W.Frag) : Addr := (d_Ratio___floordiv__).at_.ad K
abbrev s_Ratio___rfloordiv__ : Stmt := inClass (top 13) 15
theorem sc_Ratio___rfloordiv__ : FnScope ["self", "other"] ["self", "other"] (defScope s_Ratio___rfloordiv__) := ⟨rfl, rfl, rfl, by decide +kernel, rfl, by decide +kernel, by decide +kernel⟩
abbrev d_Ratio___rfloordiv__ : DefZ := ⟨.m "Ratio" "__rfloordiv__", "__rfloordiv__", "Ratio.__rfloordiv__", s_Ratio___rfloordiv__, [], false⟩
abbrev a_Ratio___rfloordiv__ (K : PySem.W.Frag) : Addr := (d_Ratio___rfloordiv__).at_.ad K
abbrev s_Ratio___mod__ : Stmt := inClass (top 13) 16
theorem sc_Ratio___mod__ : FnScope ["self", "other"] ["self", "other"] (defScope s_Ratio___mod__) := ⟨rfl, rfl, rfl, by decide +kernel, rfl, by decide +kernel, by decide +kernel⟩
abbrev d_Ratio___mod__ : DefZ := ⟨.m "Ratio" "__mod__", "__mod__", "Ratio.__mod__", s_Ratio___mod__, [], false⟩
abbrev a_Ratio___mod__ (K : PySem.W.Frag) : Addr := (d_Ratio___mod__).at_.ad K
abbrev s_Ratio___rmod__ : Stmt := inClass (top 13) 17
theorem sc_Ratio___rmod__ : FnScope ["self", "other"] ["self", "other"] (defScope s_Ratio___rmod__) := ⟨rfl, rfl, rfl, by decide +kernel, rfl, by decide +kernel, by decide +kernel⟩
abbrev d_Ratio___rmod__ : DefZ := ⟨.m "Ratio" "__rmod__", "__rmod__", "Ratio.__rmod__", s_Ratio___rmod__, [], false⟩
abbrev a_Ratio___rmod__ (K : PySem.W.Frag) : Addr := (d_Ratio___rmod__).at_.ad K
abbrev s_Ratio___lt__ : Stmt := inClass (top 13) 18
theorem sc_Ratio___lt__ : FnScope ["self", "other", "there"] ["self", "other"] (defScope s_Ratio___lt__) := ⟨rfl, rfl, rfl, by decide +kernel, rfl, by decide +kernel, by decide +kernel⟩
abbrev d_Ratio___lt__ : DefZ := ⟨.m "Ratio" "__lt__", "__lt__", "Ratio.__lt__", s_Ratio___lt__, [], false⟩
abbrev a_Ratio___lt__ (K : PySem.W.Frag) : Addr := (d_Ratio___lt__).at_.ad K
abbrev s_Ratio___le__ : Stmt := inClass (top 13) 19
theorem sc_Ratio___le__ : FnScope ["self", "other"] ["self", "other"] (defScope s_Ratio___le__) := ⟨rfl, rfl, rfl, by decide +kernel, rfl, by decide +kernel, by decide +kernel⟩
abbrev d_Ratio___le__ : DefZ := ⟨.m "Ratio" "__le__", "__le__", "Ratio.__le__", s_Ratio___le__, [], false⟩
abbrev a_Ratio___le__ (K : PySem.W.Frag) : Addr := (d_Ratio___le__).at_.ad K
abbrev s_Ratio___gt__ : Stmt := inClass (top 13) 20
theorem sc_Ratio___gt__ : FnScope ["self", "other", "there"] ["self", "other"] (defScope s_Ratio___gt__) := ⟨rfl, rfl, rfl, by decide +kernel, rfl, by decide +kernel, by decide +kernel⟩
abbrev d_Ratio___gt__ : DefZ := ⟨.m "Ratio" "__gt__", "__gt__", "Ratio.__gt__", s_Ratio___gt__, [], false⟩
abbrev a_Ratio___gt__ (K : PySem.W.Frag) : Addr := (d_Ratio___gt__).at_.ad K
abbrev s_Ratio___ge__ : Stmt := inClass (top 13) 21
theorem sc_Ratio___ge__ : FnScope ["self", "other"] ["self", "other"] (defScope s_Ratio___ge__) := ⟨rfl, rfl, rfl, by decide +kernel, rfl, by decide +kernel, by decide +kernel⟩
abbrev d_Ratio___ge__ : DefZ := ⟨.m "Ratio" "__ge__", "__ge__", "Ratio.__ge__", s_Ratio___ge__, [], false⟩
abbrev a_Ratio___ge__ (K : PySem.W.Frag) : Addr := (d_Ratio___ge__).at_.ad K
abbrev s_Ratio___eq__ : Stmt := inClass (top 13) 22
theorem sc_Ratio___eq__ : FnScope ["self", "other"] ["self", "other"] (defScope s_Ratio___eq__) := ⟨rfl, rfl, rfl, by decide +kernel, rfl, by decide +kernel, by decide +kernel⟩
abbrev d_Ratio___eq__ : DefZ := ⟨.m "Ratio" "__eq__", "__eq__", "Ratio.__eq__", s_Ratio___eq__, [], false⟩
abbrev a_Ratio___eq__ (K : PySem.W.Frag) : Addr := (d_Ratio___eq__).at_.ad K
abbrev s_Ratio___bool__ : Stmt := inClass (top 13) 23
theorem sc_Ratio___bool__ : FnScope ["self"] ["self"] (defScope s_Ratio___bool__) := ⟨rfl, rfl, rfl, by decide +kernel, rfl, by decide +kernel, by decide +kernel⟩
abbrev d_Ratio___bool__ : DefZ := ⟨.m "Ratio" "__bool__", "__bool__", "Ratio.__bool__", s_Ratio___bool__, [], false⟩
abbrev a_Ratio___bool__ (K : PySem.W.Frag) : Addr := (d_Ratio___bool__).at_.ad K
abbrev s_Ratio_floor : Stmt := inClass (top 13) 24
theorem sc_Ratio_floor : FnScope ["self"] ["self"] (defScope s_Ratio_floor) := ⟨rfl, rfl, rfl, by decide +kernel, rfl, by decide +kernel, by decide +kernel⟩
abbrev d_Ratio_floor : DefZ := ⟨.m "Ratio" "floor", "floor", "Ratio.floor", s_Ratio_floor, [], false⟩
abbrev a_Ratio_floor (K : PySem.W.Frag) : Addr := (d_Ratio_floor).at_.ad K
abbrev s_Ratio_ceiling : Stmt := inClass (top 13) 25
theorem sc_Ratio_ceiling : FnScope ["self"] ["self"] (defScope s_Ratio_ceiling) := ⟨rfl, rfl, rfl, by decide +kernel, rfl, by decide +kernel, by decide +kernel⟩
abbrev d_Ratio_ceiling : DefZ := ⟨.m "Ratio" "ceiling", "ceiling", "Ratio.ceiling", s_Ratio_ceiling, [], false⟩
abbrev a_Ratio_ceiling (K : PySem.W.Frag) : Addr := (d_Ratio_ceiling).at_.ad K
abbrev s_Ratio___str__ : Stmt := inClass (top 13) 26
theorem sc_Ratio___str__ : FnScope ["self"] ["self"] (defScope s_Ratio___str__) := ⟨rfl, rfl, rfl, by decide +kernel, rfl, by decide +kernel, by decide +kernel⟩
abbrev d_Ratio___str__ : DefZ := ⟨.m "Ratio" "__str__", "__str__", "Ratio.__str__", s_Ratio___str__, [], false⟩
abbrev a_Ratio___str__ (K : PySem.W.Frag) : Addr := (d_Ratio___str__).at_.ad K
abbrev s_is_same : Stmt := top 14
theorem sc_is_same : FnScope ["one", "other"] ["one", "other"] (defScope s_is_same) := ⟨rfl, rfl, rfl, by decide +kernel, rfl, by decide +kernel, by decide +kernel⟩
abbrev d_is_same : DefZ := ⟨.g "is_same", "is_same", "is_same", s_is_same, [], false⟩
abbrev a_is_same (K : PySem.W.Frag) : Addr := (d_is_same).at_.ad K
abbrev s_some_numbers : Stmt := top 15
theorem sc_some_numbers : FnScope ["values", "value"] ["values"] (defScope s_some_numbers) := ⟨rfl, rfl, rfl, by decide +kernel, rfl, by decide +kernel, by decide +kernel⟩
abbrev d_some_numbers : DefZ := ⟨.g "some_numbers", "some_numbers", "some_numbers", s_some_numbers, [], false⟩
abbrev a_some_numbers (K : PySem.W.Frag) : Addr := (d_some_numbers).at_.ad K
abbrev s_ratio_in : Stmt := top 16
theorem sc_ratio_in : FnScope ["word", "parts", "part", "found"] ["word"] (defScope s_ratio_in) := ⟨rfl, rfl, rfl, by decide +kernel, rfl, by decide +kernel, by decide +kernel⟩
abbrev d_ratio_in : DefZ := ⟨.g "ratio_in", "ratio_in", "ratio_in", s_ratio_in, [], false⟩
abbrev a_ratio_in (K : PySem.W.Frag) : Addr := (d_ratio_in).at_.ad K
abbrev s_take_ratio : Stmt := top 17
theorem sc_take_ratio : FnScope ["words", "least", "is_above", "found"] ["words", "least", "is_above"] (defScope s_take_ratio) := ⟨rfl, rfl, rfl, by decide +kernel, rfl, by decide +kernel, by decide +kernel⟩
abbrev d_take_ratio : DefZ := ⟨.g "take_ratio", "take_ratio", "take_ratio", s_take_ratio, [.non, .bl false], false⟩
abbrev a_take_ratio (K : PySem.W.Frag) : Addr := (d_take_ratio).at_.ad K
abbrev s__law_pen : Stmt := top 19
theorem sc__law_pen : FnScope ["_law_script"] ["_law_script"] (defScope s__law_pen) := ⟨rfl, rfl, rfl, by decide +kernel, rfl, by decide +kernel, by decide +kernel⟩
abbrev d__law_pen : DefZ := ⟨.g "_law_pen", "_law_pen", "_law_pen", s__law_pen, [], false⟩
abbrev a__law_pen (K : PySem.W.Frag) : Addr := (d__law_pen).at_.ad K
abbrev s__law_draw : Stmt := top 20
theorem sc__law_draw : FnScope ["_law_pen_here", "_law_many", "_law_digit", "_law_spot", "_law_cell", "_law_great", "_law_mixed"] ["_law_pen_here", "_law_many"] (defScope s__law_draw) := ⟨rfl, rfl, rfl, by decide +kernel, rfl, by decide +kernel, by decide +kernel⟩
abbrev d__law_draw : DefZ := ⟨.g "_law_draw", "_law_draw", "_law_draw", s__law_draw, [], false⟩
abbrev a__law_draw (K : PySem.W.Frag) : Addr := (d__law_draw).at_.ad K
abbrev s__law_pick : Stmt := top 21
theorem sc__law_pick : FnScope ["_law_pen_here", "_law_some"] ["_law_pen_here", "_law_some"] (defScope s__law_pick) := ⟨rfl, rfl, rfl, by decide +kernel, rfl, by decide +kernel, by decide +kernel⟩
abbrev d__law_pick : DefZ := ⟨.g "_law_pick", "_law_pick", "_law_pick", s__law_pick, [], false⟩
abbrev a__law_pick (K : PySem.W.Frag) : Addr := (d__law_pick).at_.ad K
abbrev s__law_int : Stmt := top 22
theorem sc__law_int : FnScope ["_law_pen_here", "_law_far"] ["_law_pen_here"] (defScope s__law_int) := ⟨rfl, rfl, rfl, by decide +kernel, rfl, by decide +kernel, by decide +kernel⟩
abbrev d__law_int : DefZ := ⟨.g "_law_int", "_law_int", "_law_int", s__law_int, [], false⟩
abbrev a__law_int (K : PySem.W.Frag) : Addr := (d__law_int).at_.ad K
abbrev s__law_pair : Stmt := top 23
theorem sc__law_pair : FnScope ["_law_pen_here"] ["_law_pen_here"] (defScope s__law_pair) := ⟨rfl, rfl, rfl, by decide +kernel, rfl, by decide +kernel, by decide +kernel⟩
abbrev d__law_pair : DefZ := ⟨.g "_law_pair", "_law_pair", "_law_pair", s__law_pair, [], false⟩
abbrev a__law_pair (K : PySem.W.Frag) : Addr := (d__law_pair).at_.ad K
abbrev s__law_is : Stmt := top 24
theorem sc__law_is : FnScope ["_law_made", "_law_over", "_law_under"] ["_law_made", "_law_over", "_law_under"] (defScope s__law_is) := ⟨rfl, rfl, rfl, by decide +kernel, rfl, by decide +kernel, by decide +kernel⟩
abbrev d__law_is : DefZ := ⟨.g "_law_is", "_law_is", "_law_is", s__law_is, [], false⟩
abbrev a__law_is (K : PySem.W.Frag) : Addr := (d__law_is).at_.ad K
abbrev s__law_heard : Stmt := top 25
theorem sc__law_heard : FnScope ["_law_ask", "_law_caught", "error"] ["_law_ask"] (defScope s__law_heard) := ⟨rfl, rfl, rfl, by decide +kernel, rfl, by decide +kernel, by decide +kernel⟩
abbrev d__law_heard : DefZ := ⟨.g "_law_heard", "_law_heard", "_law_heard", s__law_heard, [], false⟩
abbrev a__law_heard (K : PySem.W.Frag) : Addr := (d__law_heard).at_.ad K
abbrev s__law_order_right : Stmt := top 26
theorem sc__law_order_right : FnScope ["_law_first", "_law_last", "_law_whole", "_law_a", "_law_b", "_law_c", "_law_d", "_law_one", "_law_other", "_law_left", "_law_right", "_law_told", "_law_here", "_law_low", "_law_high"] ["_law_first", "_law_last", "_law_whole"] (defScope s__law_order_right) := ⟨rfl, rfl, rfl, by decide +kernel, rfl, by decide +kernel, by decide +kernel⟩
abbrev d__law_order_right : DefZ := ⟨.g "_law_order_right", "_law_order_right", "_law_order_right", s__law_order_right, [], false⟩
abbrev a__law_order_right (K : PySem.W.Frag) : Addr := (d__law_order_right).at_.ad K
abbrev s__law_refused_right : Stmt := top 27
theorem sc__law_refused_right : FnScope ["_law_pen_here", "_law_one", "_law_odd", "_law_heard_here"] ["_law_pen_here", "_law_one"] (defScope s__law_refused_right) := ⟨rfl, rfl, rfl, by decide +kernel, rfl, by decide +kernel, by decide +kernel⟩
abbrev d__law_refused_right : DefZ := ⟨.g "_law_refused_right", "_law_refused_right", "_law_refused_right", s__law_refused_right, [], false⟩
abbrev a__law_refused_right (K : PySem.W.Frag) : Addr := (d__law_refused_right).at_.ad K
abbrev s_law : Stmt := top 28
theorem sc_law : FnScope ["_law_script", "_law_pen_here", "_law_turn", "_law_first", "_law_last", "_law_whole", "_law_told"] ["_law_script"] (defScope s_law) := ⟨rfl, rfl, rfl, by decide +kernel, rfl, by decide +kernel, by decide +kernel⟩
abbrev d_law : DefZ := ⟨.g "law", "law", "law", s_law, [], false⟩
abbrev a_law (K : PySem.W.Frag) : Addr := (d_law).at_.ad K
/-- the module's names -/
structure MT (mg : Str → Option Value) (K : PySem.W.Frag) : Prop where
  g__wall : mg "_wall" = some (.ref (ga K "_wall"))
  g_SnapError : mg "SnapError" = some (.ref (ga K "SnapError"))
  g_BadRatio : mg "BadRatio" = some (.ref (ga K "BadRatio"))
  g_BadText : mg "BadText" = some (.ref (ga K "BadText"))
  g_integer_in : mg "integer_in" = some (.ref (ga K "integer_in"))
  g_Words : mg "Words" = some (.ref (ga K "Words"))
  g_is_integer : mg "is_integer" = some (.ref (ga K "is_integer"))
  g_divisor : mg "divisor" = some (.ref (ga K "divisor"))
  g_is_number : mg "is_number" = some (.ref (ga K "is_number"))
  g_Ratio : mg "Ratio" = some (.ref (ga K "Ratio"))
  g_is_same : mg "is_same" = some (.ref (ga K "is_same"))
  g_some_numbers : mg "some_numbers" = some (.ref (ga K "some_numbers"))
  g_ratio_in : mg "ratio_in" = some (.ref (ga K "ratio_in"))
  g_take_ratio : mg "take_ratio" = some (.ref (ga K "take_ratio"))
  g__law_pen : mg "_law_pen" = some (.ref (ga K "_law_pen"))
  g__law_draw : mg "_law_draw" = some (.ref (ga K "_law_draw"))
  g__law_pick : mg "_law_pick" = some (.ref (ga K "_law_pick"))
  g__law_int : mg "_law_int" = some (.ref (ga K "_law_int"))
  g__law_pair : mg "_law_pair" = some (.ref (ga K "_law_pair"))
  g__law_is : mg "_law_is" = some (.ref (ga K "_law_is"))
  g__law_heard : mg "_law_heard" = some (.ref (ga K "_law_heard"))
  g__law_order_right : mg "_law_order_right" = some (.ref (ga K "_law_order_right"))
  g__law_refused_right : mg "_law_refused_right" = some (.ref (ga K "_law_refused_right"))
  g_law : mg "law" = some (.ref (ga K "law"))
  f_ValueError : mg "ValueError" = none
  f_abs : mg "abs" = none
  f_all : mg "all" = none
  f_bool : mg "bool" = none
  f_classmethod : mg "classmethod" = none
  f_int : mg "int" = none
  f_isinstance : mg "isinstance" = none
  f_len : mg "len" = none
  f_list : mg "list" = none
  f_property : mg "property" = none
  f_range : mg "range" = none
  f_repr : mg "repr" = none
  f_staticmethod : mg "staticmethod" = none
  f_str : mg "str" = none
  f_super : mg "super" = none
  f_tuple : mg "tuple" = none
end Az

local macro_rules | `(tactic| walk_at "hget") => `(tactic| first | exact L2.upd_same | assumption | (refine Az.get_new (by assumption) ?_; walk_at "hget") | (refine Az.get_put (by first | assumption | (apply Ne.symm; assumption)) ?_; walk_at "hget"))
local macro_rules | `(tactic| walk_at "rd1") => `(tactic| first
  | with_reducible refine Az.i_seq ?_ | with_reducible refine Az.i_asg ?_ | with_reducible refine Az.i_name ?_ | with_reducible refine Az.i_ret ?_ | with_reducible refine Az.i_drop ?_ | with_reducible refine Az.i_next ?_
  | with_reducible refine Az.i_op ?_ | with_reducible refine Az.i_un ?_ | with_reducible refine Az.i_c ?_
  | ((with_reducible refine' Az.i_var ?hv ?_); (case hv => exact rfl))
  | with_reducible refine Az.i_I0 ?_ | with_reducible refine Az.i_U ?_ | with_reducible refine Az.i_test ?_ | with_reducible refine Az.i_tB ?_ | with_reducible refine Az.i_bl ?_ | with_reducible refine Az.i_int1 ?_
  | with_reducible refine Az.i_ifS ?_ | with_reducible refine Az.i_if ?_ | with_reducible refine Az.i_and ?_ | with_reducible refine Az.i_or ?_ | with_reducible refine Az.i_not ?_ | with_reducible refine Az.i_andV ?_ | with_reducible refine Az.i_orV ?_ | with_reducible refine Az.i_notV ?_
  | with_reducible refine Az.i_nil ?_ | with_reducible refine Az.i_cons ?_ | with_reducible refine Az.i_tup ?_ | with_reducible refine Az.i_lst ?_ | with_reducible refine Az.i_CB ?_ | with_reducible refine Az.i_call ?_ | with_reducible refine Az.i_sub ?_ | with_reducible refine Az.i_sl ?_ | with_reducible refine Az.i_noPart ?_ | with_reducible refine Az.i_part ?_ | with_reducible refine Az.i_tFld ?_
  | with_reducible refine Az.i_int ?_ | with_reducible refine Az.i_intB ?_ | with_reducible refine Az.i_abs ?_
  | ((with_reducible refine' Az.i_ixL ?hg ?hv ?_); (case hg => walk_at "hget"); (case hv => exact rfl))
  | ((with_reducible refine' Az.i_ixT ?hg ?hv ?_); (case hg => walk_at "hget"); (case hv => exact rfl))
  | ((with_reducible refine' Az.i_set31 ?hg ?_); (case hg => walk_at "hget")) | ((with_reducible refine' Az.i_set32 ?hg ?_); (case hg => walk_at "hget"))
  | ((with_reducible refine' Az.i_setL ?hg ?hv ?_); (case hg => walk_at "hget"); (case hv => exact rfl))
  | ((with_reducible refine' Az.i_len ?hg ?_); (case hg => walk_at "hget"))
  | ((with_reducible refine' Az.i_lenT ?hg ?_); (case hg => walk_at "hget"))
  | ((with_reducible refine' Az.i_eq ?hs ?_); (case hs => exact rfl)) | ((with_reducible refine' Az.i_ne ?hs ?_); (case hs => exact rfl)))
local macro_rules | `(tactic| walk_at "rd") => `(tactic| repeat walk_at "rd1")
local macro_rules | `(tactic| walk_at "new") => `(tactic| first
  | ((with_reducible refine' Az.i_fresh ?hn ?_); (case hn => exact Az.size_ok rfl); intro pNew hNew)
  | ((with_reducible refine' Az.i_cat ?h1 ?h2 ?hn ?_); (case h1 => walk_at "hget"); (case h2 => walk_at "hget"); (case hn => exact Az.size_ok rfl); intro pNew hNew))
local macro_rules | `(tactic| walk_at "rdn") => `(tactic| repeat (first | walk_at "rd1" | walk_at "new"))
local macro_rules | `(tactic| walk_at "same") => `(tactic| first | exact L2.Same.refl _ | assumption | (refine Az.same_new ?_ (by assumption); walk_at "same"))
namespace Az
open PySem PySem.Spec PyProof.Rows L2 AzX ClX Hz He
local macro_rules | `(tactic| walk_at "rat1") => `(tactic| first
  | ((refine' i_over ?t ?x ?hs ?_); (case hs => exact rfl); (case x => assumption); (case t => assumption))
  | ((refine' i_under ?t ?x ?hs ?_); (case hs => exact rfl); (case x => assumption); (case t => assumption))
  | ((with_reducible refine' i_mul ?h1 ?h2 ?_); (case h1 => assumption); (case h2 => assumption))
  | (with_reducible refine i_mk ?_)
  | walk_at "rd1")
local macro_rules | `(tactic| walk_at "rat") => `(tactic| repeat walk_at "rat1")
abbrev RA (K : PySem.W.Frag) : Addr := ga K "Ratio"
abbrev BA (K : PySem.W.Frag) : Addr := ga K "BadRatio"
section
variable {P : Program} {w : World} {K : PySem.W.Frag} {mg : Str → Option Value} {base : Heap}
theorem ok_isI {fd : FuncData} (M : MT mg K) (T : RT K (RA K)) (F : FnP K d_is_integer fd) : Dn P w K mg base CX0 1 (a_is_integer K) ["value"] [] (spIsI (RA K)) := by
  refine dn_mk F rfl (fun _ _ _ _ _ _ us hl => match us, hl with | [_], _ => rfl) ?_
  refine (fun_of F rfl).ok sc_is_integer (fun vs H Q E h => ?_) (fun cdv A outer s H vs Q E hr h => ?_)
  · obtain ⟨v, n, rfl, _⟩ := h
    rfl
  · obtain ⟨v, n, rfl, x, k⟩ := h
    refine ⟨_, (pss_one (ps_ret (pe_and (pe_callB call_isi (by rfl) M.f_isinstance (by decide +kernel) (pa_cons (pv 0) (pa_cons (pe_bltn (v := .ty "int") (u := .type "int") (by rfl) M.f_int (by decide +kernel) rfl) pa_nil))) (pe_one (pe_not (pe_callB call_isi (by rfl) M.f_isinstance (by decide +kernel) (pa_cons (pv 0) (pa_cons (pe_bltn (v := .ty "bool") (u := .type "bool") (by rfl) M.f_bool (by decide +kernel) rfl) pa_nil)))))))), ?_⟩
    walk_at "rd"
    cases x with
    | int i =>
      refine ⟨_, _, .type "int", .type "int", true, rfl, .ty _, .base (.int i), kit_ty (by decide +kernel), _, rfl, i_b2 (fun _ => ?_) (fun h => by cases h)⟩
      walk_at "rd"
      refine ⟨_, _, .type "int", .type "bool", false, rfl, .ty _, .base (.int i), kit_ty (by decide +kernel), _, rfl, k⟩
    | rat h => exact ⟨_, _, .ref (RA K), .type "int", false, rfl, .ty _, T.ty h, T.kRI, _, rfl, i_b2 (fun h => by cases h) (fun _ => k)⟩
    | @odd _ t h m =>
      have z : isI v = false := odd_notI h m
      rw [z] at k
      have q : t = "bool" ∨ kitB t "int" = some false := by
        revert m
        unfold oddTys
        intro m
        simp only [List.mem_cons, List.mem_nil_iff, or_false] at m
        rcases m with rfl | rfl | rfl | rfl | rfl | rfl <;> first | exact .inl rfl | exact .inr (by decide +kernel)
      rcases q with rfl | q
      · refine ⟨_, _, .type "bool", .type "int", true, rfl, .ty _, tyX_of h, kit_ty (by decide +kernel), _, rfl, i_b2 (fun _ => ?_) (fun h => by cases h)⟩
        walk_at "rd"
        exact ⟨_, _, .type "bool", .type "bool", true, rfl, .ty _, tyX_of h, kit_ty (by decide +kernel), _, rfl, k⟩
      · exact ⟨_, _, .type t, .type "int", false, rfl, .ty _, tyX_of h, kit_ty q, _, rfl, i_b2 (fun h => by cases h) (fun _ => k)⟩
theorem ok_divi {fd : FuncData} (M : MT mg K) (F : FnP K d_divisor fd) : Dn P w K mg base CX0 1 (a_divisor K) ["one", "other"] [] spDivi := by
  refine dn_mk F rfl (fun _ _ _ _ _ _ us hl => match us, hl with | [_, _], _ => rfl) ?_
  refine (fun_of F rfl).ok sc_divisor (fun vs H Q E h => ?_) (fun cdv A outer s H vs Q E hr h => ?_)
  · obtain ⟨a, b, rfl, _⟩ := h
    rfl
  · obtain ⟨a, b, rfl, k⟩ := h
    refine ⟨_, (pss_cons (ps_par (i := 2) (j := 3) (by rfl) sc_divisor.nd rfl rfl (by decide) rfl rfl (pa_cons (pe_callB c_abs (by rfl) M.f_abs (by decide +kernel) (pa_cons (pv 0) pa_nil)) (pa_cons (pe_callB c_abs (by rfl) M.f_abs (by decide +kernel) (pa_cons (pv 1) pa_nil)) pa_nil)) (by rfl))
      (pss_cons (ps_while PassesOwn.never (pt_cmpR op_gt (pv 3) pe_int (nomark _))
          (pss_one (ps_par (i := 2) (j := 3) (by rfl) sc_divisor.nd rfl rfl (by decide) rfl rfl (pa_cons (pv 3) (pa_cons (pe_op op_mod (pv 2) (pv 3)) pa_nil)) (by rfl))))
      (pss_one (ps_ret (pv 2))))), ?_⟩
    walk_at "rd"
    refine ⟨_, rfl, ⟨_, rfl, ⟨_, rfl, ⟨_, rfl, _, _, rfl, ?_⟩⟩⟩⟩
    refine (i_seq ?_ : tSeq _ _ _ _ _)
    refine while_by (fun σ' H' => H' = H ∧ ∃ x y : Nat, σ' = [some (.int a), some (.int b), some (.int x), some (.int y)] ∧ Nat.gcd x y = Int.gcd a b) (fun σ' _ => match σ' with | [_, _, _, some (.int y)] => y.toNat | _ => 0) ⟨rfl, a.natAbs, b.natAbs, ?_, rfl⟩ ?_ ?_
    · have e : ∀ z : Int, (if z < 0 then -z else z) = (z.natAbs : Int) := fun z => by split <;> omega
      rw [e, e]
      rfl
    · rintro σ' H' ⟨rfl, x, y, rfl, hg⟩
      walk_at "rd"
      refine i_dec (fun c => ?_) (fun c => ?_)
      · refine ⟨_, rfl, _, rfl, _, rfl, ⟨_, _, rfl, rfl, c, ?_⟩⟩
        have e : ((x : Int) % (y : Int)) = ((x % y : Nat) : Int) := by omega
        refine ⟨_, _, rfl, ⟨rfl, y, x % y, by rw [← e]; rfl, ?_⟩, ?_⟩
        · rw [← hg, Nat.gcd_comm x y, Nat.gcd_rec y x, Nat.gcd_comm]
        · show ((x : Int) % (y : Int)).toNat < (y : Int).toNat
          have := Nat.mod_lt x (show 0 < y by omega)
          omega
      · walk_at "rd"
        have e : y = 0 := by omega
        rw [e, Nat.gcd_zero_right] at hg
        rw [hg]
        exact k
    · intro σ H Q Q' hQ h
      obtain ⟨v, h1, h2⟩ := h
      exact ⟨v, h1, by
        obtain ⟨i, j, e1, e2, z, e3, q⟩ := h2
        exact ⟨i, j, e1, e2, z, e3, hQ _ _ q⟩⟩
theorem ok_num {fd : FuncData} (M : MT mg K) (T : RT K (RA K)) (DI : Dn P w K mg base CX0 1 (a_is_integer K) ["value"] [] (spIsI (RA K))) (F : FnP K d_is_number fd) : Dn P w K mg base CX0 2 (a_is_number K) ["value"] [] (spNum (RA K)) := by
  refine dn_mk F rfl (fun _ _ _ _ _ _ us hl => match us, hl with | [_], _ => rfl) ?_
  refine (fun_of F rfl).ok sc_is_number (fun vs H Q E h => ?_) (fun cdv A outer s H vs Q E hr h => ?_)
  · obtain ⟨v, n, rfl, _⟩ := h
    rfl
  · obtain ⟨v, n, rfl, x, k⟩ := h
    refine ⟨_, (pss_one (ps_ret (pe_or (pe_callD DI (hr.mono (by decide)) rfl M.g_is_integer pass0 (pa_cons (pv 0) pa_nil)) (pe_one (pe_callB call_isi (by rfl) M.f_isinstance (by decide +kernel) (pa_cons (pv 0) (pa_cons (pe_glob (v := .ref (ga K "Ratio")) rfl M.g_Ratio rfl) pa_nil))))))), ?_⟩
    walk_at "rd"
    refine ⟨v, n, rfl, x, _, rfl, i_b2 (fun h1 => ?_) (fun h1 => ?_)⟩
    · cases x with
      | int i => exact k
      | rat h => cases h1
      | odd h m => rw [odd_notI h m] at h1; cases h1
    · walk_at "rd"
      cases x with
      | int i => cases h1
      | rat h => exact i_isR T (.rat h) true (.inl ⟨⟨_, _, _, rfl, rfl, h⟩, rfl⟩) k
      | odd h m => exact i_isR T (.odd h m) false (.inr ⟨fun a p q e x => by subst e; obtain ⟨⟨dx, z⟩, _, _⟩ := x; simp [tyV, z] at h, rfl⟩) k
theorem ok_ini {fd : FuncData} (M : MT mg K) (T : RT K (RA K)) (B : ErrT P w K mg (BA K) ["value"]) (DI : Dn P w K mg base CX0 1 (a_is_integer K) ["value"] [] (spIsI (RA K))) (DD : Dn P w K mg base CX0 1 (a_divisor K) ["one", "other"] [] spDivi) (F : FnP K d_Ratio___init__ fd) :
    Dn P w K mg base (L2.CX P w) 3 (a_Ratio___init__ K) ["self", "over", "under"] [.int 1] (spIni (RA K) (BA K)) := by
  refine dn_mk1 (v := .int 1) (n := 2) F rfl rfl (fun _ _ _ _ _ _ _ us its hl hi => match us, its, hl, hi with | [_, _], [_], _, _ => ⟨_, rfl, rfl⟩) (fun _ _ _ _ _ _ _ us its hl hi => match us, its, hl, hi with | [_, _, _], [_], _, _ => ⟨_, rfl, rfl⟩) ?_
  refine FunD.ok F sc_Ratio___init__ (fun vs H Q E h => ?_) (fun cdv A outer s H vs Q E hr h => ?_)
  · obtain ⟨x, dx, v, u, n, n2, rfl, _⟩ := h
    rfl
  · obtain ⟨x, dx, v, u, n, n2, rfl, hx, nv, nu, k⟩ := h
    refine ⟨_, (pss_cons (ps_if (pt_not (pt_val (pe_callD DI (hr.mono (by decide)) rfl M.g_is_integer pass0 (pa_cons (pv 1) pa_nil))))
          (pss_one (ps_raiseEx (fs := ["value"]) rfl (takes_of rfl rfl rfl rfl) (B.mks _) (raises_own B.r1 B.r2) hr rfl M.g_BadRatio B.kp (by exact (pa_cons (pv 1) pa_nil))))
          pss_nil)
      (pss_cons (ps_if (PW.pt (pw_or (pt_not (pt_val (pe_callD DI (hr.mono (by decide)) rfl M.g_is_integer pass0 (pa_cons (pv 2) pa_nil)))) (pw_or1 (pt_cmpR op_eq (pv 2) pe_int (nomark _)))))
          (pss_one (ps_raiseEx (fs := ["value"]) rfl (takes_of rfl rfl rfl rfl) (B.mks _) (raises_own B.r1 B.r2) hr rfl M.g_BadRatio B.kp (by exact (pa_cons (pv 2) pa_nil))))
          pss_nil)
      (pss_cons (ps_set (i := 3) sc_Ratio___init__.nd rfl (Or.inl rfl) (pe_ifExp (pt_cmpR op_gt (pv 2) pe_int (nomark _)) (pe_callD DD (hr.mono (by decide)) rfl M.g_divisor pass0 (pa_cons (pv 1) (pa_cons (pv 2) pa_nil))) (pe_un un_neg (pe_callD DD (hr.mono (by decide)) rfl M.g_divisor pass0 (pa_cons (pv 1) (pa_cons (pv 2) pa_nil))))))
      (pss_cons (ps_fld (pv 0) (pe_op op_fdivNW (pv 1) (pv 3)) rfl)
      (pss_one (ps_fld (pv 0) (pe_op op_fdivNW (pv 2) (pv 3)) rfl)))))), ?_⟩
    walk_at "rd"
    refine ⟨v, n, rfl, nv, _, rfl, ?_⟩
    rcases k with ⟨o, d, rfl, rfl, hd, hb, k⟩ | ⟨b, hb, told⟩
    · refine i_b2 (fun h => by cases h) (fun _ => ?_)
      walk_at "rd"
      refine ⟨.int d, n2, rfl, nu, _, rfl, i_b2 (fun h => by cases h) (fun _ => ?_)⟩
      walk_at "rd"
      refine i_dec (fun c => by cases c; exact (hd rfl).elim) (fun _ => ?_)
      walk_at "rd"
      have key : ∀ H1, H1 = H → (tSeq (sFld K (tVar 0) (tOp (rI (fun x j => j ≠ 0 ∧ j.natAbs.log2 < 9000) fun i j => V.int (i.fdiv j)) (tVar 1) (tVar 3)) "over") (sFld K (tVar 0) (tOp (rI (fun x j => j ≠ 0 ∧ j.natAbs.log2 < 9000) fun i j => V.int (i.fdiv j)) (tVar 2) (tVar 3)) "under"))
          { nx := fun x H' => Q V.non H', rt := Q } [some (.ref x), some (.int o), some (.int d), some (.int (shd o d))] H1 := by
        rintro H1 rfl
        have c : shd o d ≠ 0 ∧ (shd o d).natAbs.log2 < 9000 := ⟨shd_ne hd, log_lt (shd_small hd hb)⟩
        refine ⟨_, rfl, _, rfl, _, _, rfl, rfl, c, _, rfl, x, RA K, dx, [], rfl, hx, T.cls, T.noO, by decide, ?_⟩
        refine ⟨_, rfl, _, rfl, _, _, rfl, rfl, c, _, rfl, x, RA K, dx, _, rfl, upd_same, T.cls, T.noU, by simp [putF], ?_⟩
        have e : upd (upd H1 x (.ins (RA K) dx (putF "over" (.int (o.fdiv (shd o d))) []))) x (.ins (RA K) dx (putF "under" (.int (d.fdiv (shd o d))) (putF "over" (.int (o.fdiv (shd o d))) []))) = upd H1 x (.ins (RA K) dx [("over", .int (rO o d)), ("under", .int (rU o d))]) := by
          funext b
          by_cases hb : b = x
          · subst hb; rw [upd_same, upd_same]; rfl
          · rw [upd_ne hb, upd_ne hb, upd_ne hb]
        rw [e]
        exact k
      refine i_dec (fun c => ?_) (fun c => ?_)
      · walk_at "rd"
        refine ⟨o, d, rfl, ?_⟩
        walk_at "rd1"
        have e : ((Int.gcd o d : Nat) : Int) = shd o d := by unfold shd; rw [if_pos c]
        rw [e]
        exact key _ rfl
      · walk_at "rd"
        refine ⟨o, d, rfl, ?_⟩
        walk_at "rd1"
        walk_at "rd1"
        have e : -((Int.gcd o d : Nat) : Int) = shd o d := by unfold shd; rw [if_neg c]
        rw [e]
        exact key _ rfl
    · rcases hb with ⟨h1, rfl⟩ | ⟨h1, h2, rfl⟩ | ⟨h1, rfl, rfl⟩
      · rw [h1]
        exact i_b2 (fun _ => i_raise1 rfl told) (fun h => by cases h)
      · rw [h1]
        refine i_b2 (fun h => by cases h) (fun _ => ?_)
        walk_at "rd"
        refine ⟨b, n2, rfl, nu, _, rfl, ?_⟩
        rw [h2]
        refine i_b2 (fun _ => ?_) (fun h => by cases h)
        exact i_b2 (fun _ => i_raise1 rfl told) (fun h => by cases h)
      · rw [h1]
        refine i_b2 (fun h => by cases h) (fun _ => ?_)
        walk_at "rd"
        refine ⟨.int 0, n2, rfl, nu, _, rfl, ?_⟩
        refine i_b2 (fun h => by cases h) (fun _ => ?_)
        walk_at "rd"
        exact i_dec (fun _ => i_raise1 rfl told) (fun c => (c rfl).elim)
theorem ok_of {fd : FuncData} (M : MT mg K) (T : RT K (RA K)) (B : ErrT P w K mg (BA K) ["value"]) (MR : Mk K (RA K) (a_Ratio___init__ K)) (DN : Dn P w K mg base CX0 2 (a_is_number K) ["value"] [] (spNum (RA K))) (DIni : Dn P w K mg base (L2.CX P w) 3 (a_Ratio___init__ K) ["self", "over", "under"] [.int 1] (spIni (RA K) (BA K))) (F : FnP K d_Ratio_of fd) :
    Dn P w K mg base (L2.CX P w) 5 (a_Ratio_of K) ["value"] [] (spOf (RA K) (BA K)) := by
  refine dn_mk F rfl (fun _ _ _ _ _ _ us hl => match us, hl with | [_], _ => rfl) ?_
  refine (fun_of F rfl).okX sc_Ratio_of (fun vs H Q E h => ?_) (fun cdv A outer s H vs Q E hr h => ?_)
  · obtain ⟨v, n, rfl, _⟩ := h
    rfl
  · obtain ⟨v, n, rfl, nv, k⟩ := h
    refine ⟨_, (pss_cons (ps_if (pt_not (pt_val (pe_callD DN (hr.mono (by decide)) rfl M.g_is_number pass0 (pa_cons (pv 0) pa_nil))))
          (pss_one (ps_raiseEx (fs := ["value"]) rfl (takes_of rfl rfl rfl rfl) (B.mks _) (raises_own B.r1 B.r2) hr rfl M.g_BadRatio B.kp (by exact (pa_cons (pv 0) pa_nil))))
          pss_nil)
      (pss_one (ps_ret (pe_ifExp (pt_val (pe_callB call_isi (by rfl) M.f_isinstance (by decide +kernel) (pa_cons (pv 0) (pa_cons (pe_glob (v := .ref (ga K "Ratio")) rfl M.g_Ratio rfl) pa_nil)))) (pv 0) (pe_makeD (dv := [V.int (1)]) MR DIni 0 (hr.mono (by decide)) rfl M.g_Ratio passL (pa_cons (pv 0) pa_nil)))))), ?_⟩
    walk_at "rd"
    refine ⟨v, n, rfl, nv, _, rfl, ?_⟩
    cases nv with
    | odd h m => exact i_b2 (fun _ => i_raise1 rfl k) (fun h => by cases h)
    | int i =>
      refine i_b2 (fun h => by cases h) (fun _ => ?_)
      walk_at "rd"
      refine i_isR T (.int i) false (.inr ⟨(fun a p q e => by cases e), rfl⟩) ⟨_, rfl, i_b2 (fun h => by cases h) (fun _ => ?_)⟩
      refine ⟨_, rfl, new_rat (by decide) (by decide +kernel) fun a H' s h => ?_⟩
      rw [rO_one, rU_one] at h
      exact k a H' s h
    | rat h =>
      refine i_b2 (fun h => by cases h) (fun _ => ?_)
      walk_at "rd"
      refine i_isR T (.rat h) true (.inl ⟨⟨_, _, _, rfl, rfl, h⟩, rfl⟩) ⟨_, rfl, i_b2 (fun _ => ?_) (fun h => by cases h)⟩
      exact ⟨_, rfl, k _ _ (Same.refl _) h⟩
end
end Az

namespace Az
open PySem PySem.Spec PyProof.Rows L2 AzX ClX Hz He
local macro_rules | `(tactic| walk_at "rat1") => `(tactic| first
  | ((refine' i_over ?t ?x ?hs ?_); (case hs => exact rfl); (case x => assumption); (case t => assumption))
  | ((refine' i_under ?t ?x ?hs ?_); (case hs => exact rfl); (case x => assumption); (case t => assumption))
  | ((with_reducible refine' i_mul ?h1 ?h2 ?_); (case h1 => assumption); (case h2 => assumption))
  | (with_reducible refine i_mk ?_)
  | walk_at "rd1")
local macro_rules | `(tactic| walk_at "rat") => `(tactic| repeat walk_at "rat1")
abbrev gLt : Int → Int → Int → Int → Bool := fun p q p' q' => decide (p * q' < p' * q)
abbrev gGt : Int → Int → Int → Int → Bool := fun p q p' q' => decide (p * q' > p' * q)
abbrev gLe : Int → Int → Int → Int → Bool := fun p q p' q' => !decide (p * q' > p' * q)
abbrev gGe : Int → Int → Int → Int → Bool := fun p q p' q' => !decide (p * q' < p' * q)
section
variable {P : Program} {w : World} {K : PySem.W.Frag} {mg : Str → Option Value} {base : Heap} {mc : Value} {pOf : Addr}
theorem ok_lt {fd : FuncData} (M : MT mg K) (T : RT K (RA K)) (CR : CRead K (RA K) mc) (SO : SMet K (RA K) mc "of" pOf (a_Ratio_of K)) (DOf : Dn P w K mg base (L2.CX P w) 5 (a_Ratio_of K) ["value"] [] (spOf (RA K) (BA K))) (F : FnP K d_Ratio___lt__ fd) :
    Dn P w K mg base (L2.CX P w) 6 (a_Ratio___lt__ K) ["self", "other"] [] (spCmp (RA K) (BA K) gLt) := by
  refine dn_mk F rfl (fun _ _ _ _ _ _ us hl => match us, hl with | [_, _], _ => rfl) ?_
  refine (fun_of F rfl).okX sc_Ratio___lt__ (fun vs H Q E h => ?_) (fun cdv A outer s H vs Q E hr h => ?_)
  · obtain ⟨a, p, q, v, n, rfl, _⟩ := h
    rfl
  · obtain ⟨a, p, q, v, n, rfl, ra, nv, k⟩ := h
    refine ⟨_, (pss_cons (ps_set (i := 2) sc_Ratio___lt__.nd rfl (Or.inl rfl) (pe_smethD (pe_glob (v := .ref (ga K "Ratio")) rfl M.g_Ratio rfl) CR SO DOf (hr.mono (by decide)) (passes_call (takes_of rfl rfl rfl rfl) (fun _ _ _ _ h => h)) (pa_cons (pv 1) pa_nil)))
      (pss_one (ps_ret (pe_cmpR op_lt (pe_op op_mulW (pe_fld (pv 0) rfl) (pe_fld (pv 2) rfl)) (pe_op op_mulW (pe_fld (pv 2) rfl) (pe_fld (pv 0) rfl)) (nomark _))))), ?_⟩
    walk_at "rd"
    refine ⟨rfl, v, rfl, v, n, rfl, nv, ?_⟩
    cases n with
    | none => exact k
    | some pq =>
      obtain ⟨p', q'⟩ := pq
      obtain ⟨s1, s2, s3, s4, k⟩ := k
      intro b H1 z rb
      have ra1 := ra.mono z
      walk_at "rat"
      exact k _ z
theorem ok_gt {fd : FuncData} (M : MT mg K) (T : RT K (RA K)) (CR : CRead K (RA K) mc) (SO : SMet K (RA K) mc "of" pOf (a_Ratio_of K)) (DOf : Dn P w K mg base (L2.CX P w) 5 (a_Ratio_of K) ["value"] [] (spOf (RA K) (BA K))) (F : FnP K d_Ratio___gt__ fd) :
    Dn P w K mg base (L2.CX P w) 6 (a_Ratio___gt__ K) ["self", "other"] [] (spCmp (RA K) (BA K) gGt) := by
  refine dn_mk F rfl (fun _ _ _ _ _ _ us hl => match us, hl with | [_, _], _ => rfl) ?_
  refine (fun_of F rfl).okX sc_Ratio___gt__ (fun vs H Q E h => ?_) (fun cdv A outer s H vs Q E hr h => ?_)
  · obtain ⟨a, p, q, v, n, rfl, _⟩ := h
    rfl
  · obtain ⟨a, p, q, v, n, rfl, ra, nv, k⟩ := h
    refine ⟨_, (pss_cons (ps_set (i := 2) sc_Ratio___gt__.nd rfl (Or.inl rfl) (pe_smethD (pe_glob (v := .ref (ga K "Ratio")) rfl M.g_Ratio rfl) CR SO DOf (hr.mono (by decide)) (passes_call (takes_of rfl rfl rfl rfl) (fun _ _ _ _ h => h)) (pa_cons (pv 1) pa_nil)))
      (pss_one (ps_ret (pe_cmpR op_gt (pe_op op_mulW (pe_fld (pv 0) rfl) (pe_fld (pv 2) rfl)) (pe_op op_mulW (pe_fld (pv 2) rfl) (pe_fld (pv 0) rfl)) (nomark _))))), ?_⟩
    walk_at "rd"
    refine ⟨rfl, v, rfl, v, n, rfl, nv, ?_⟩
    cases n with
    | none => exact k
    | some pq =>
      obtain ⟨p', q'⟩ := pq
      obtain ⟨s1, s2, s3, s4, k⟩ := k
      intro b H1 z rb
      have ra1 := ra.mono z
      walk_at "rat"
      exact k _ z
theorem ok_le {fd : FuncData} (M : MT mg K) (T : RT K (RA K)) (CGt : CmC K (RA K) "__gt__" (a_Ratio___gt__ K)) (DGt : Dn P w K mg base (L2.CX P w) 6 (a_Ratio___gt__ K) ["self", "other"] [] (spCmp (RA K) (BA K) gGt)) (F : FnP K d_Ratio___le__ fd) :
    Dn P w K mg base (L2.CX P w) 7 (a_Ratio___le__ K) ["self", "other"] [] (spCmp (RA K) (BA K) gLe) := by
  refine dn_mk F rfl (fun _ _ _ _ _ _ us hl => match us, hl with | [_, _], _ => rfl) ?_
  refine (fun_of F rfl).okX sc_Ratio___le__ (fun vs H Q E h => ?_) (fun cdv A outer s H vs Q E hr h => ?_)
  · obtain ⟨a, p, q, v, n, rfl, _⟩ := h
    rfl
  · obtain ⟨a, p, q, v, n, rfl, ra, nv, k⟩ := h
    refine ⟨_, (pss_one (ps_ret (pe_not (pe_cmpR (gt_ownD CGt DGt (hr.mono (by decide)) (passes_call (takes_of rfl rfl rfl rfl) (fun _ _ _ _ h => h))) (pv 0) (pv 1) (nomark _))))), ?_⟩
    walk_at "rd"
    refine i_cmp T ra nv ⟨a, p, q, v, n, rfl, ra, nv, ?_⟩
    cases n with
    | none => exact k
    | some pq =>
      obtain ⟨s1, s2, s3, s4, k⟩ := k
      exact ⟨s1, s2, s3, s4, fun H' z => ⟨_, rfl, k H' z⟩⟩
theorem ok_ge {fd : FuncData} (M : MT mg K) (T : RT K (RA K)) (CLt : CmC K (RA K) "__lt__" (a_Ratio___lt__ K)) (DLt : Dn P w K mg base (L2.CX P w) 6 (a_Ratio___lt__ K) ["self", "other"] [] (spCmp (RA K) (BA K) gLt)) (F : FnP K d_Ratio___ge__ fd) :
    Dn P w K mg base (L2.CX P w) 7 (a_Ratio___ge__ K) ["self", "other"] [] (spCmp (RA K) (BA K) gGe) := by
  refine dn_mk F rfl (fun _ _ _ _ _ _ us hl => match us, hl with | [_, _], _ => rfl) ?_
  refine (fun_of F rfl).okX sc_Ratio___ge__ (fun vs H Q E h => ?_) (fun cdv A outer s H vs Q E hr h => ?_)
  · obtain ⟨a, p, q, v, n, rfl, _⟩ := h
    rfl
  · obtain ⟨a, p, q, v, n, rfl, ra, nv, k⟩ := h
    refine ⟨_, (pss_one (ps_ret (pe_not (pe_cmpR (lt_ownD CLt DLt (hr.mono (by decide)) (passes_call (takes_of rfl rfl rfl rfl) (fun _ _ _ _ h => h))) (pv 0) (pv 1) (nomark _))))), ?_⟩
    walk_at "rd"
    refine i_cmp T ra nv ⟨a, p, q, v, n, rfl, ra, nv, ?_⟩
    cases n with
    | none => exact k
    | some pq =>
      obtain ⟨s1, s2, s3, s4, k⟩ := k
      exact ⟨s1, s2, s3, s4, fun H' z => ⟨_, rfl, k H' z⟩⟩
theorem ok_same {fd : FuncData} (M : MT mg K) (T : RT K (RA K)) (F : FnP K d_is_same fd) : Dn P w K mg base CX0 1 (a_is_same K) ["one", "other"] [] (spSame (RA K)) := by
  refine dn_mk F rfl (fun _ _ _ _ _ _ us hl => match us, hl with | [_, _], _ => rfl) ?_
  refine (fun_of F rfl).ok sc_is_same (fun vs H Q E h => ?_) (fun cdv A outer s H vs Q E hr h => ?_)
  · obtain ⟨a, b, p, q, p', q', rfl, _⟩ := h
    rfl
  · obtain ⟨a, b, p, q, p', q', rfl, ra, rb, k⟩ := h
    refine ⟨_, (pss_one (ps_ret (pe_and (pe_callB call_isi (by rfl) M.f_isinstance (by decide +kernel) (pa_cons (pv 1) (pa_cons (pe_glob (v := .ref (ga K "Ratio")) rfl M.g_Ratio rfl) pa_nil))) (pe_and (pe_cmpR op_eq (pe_fld (pv 0) rfl) (pe_fld (pv 1) rfl) (nomark _)) (pe_one (pe_cmpR op_eq (pe_fld (pv 0) rfl) (pe_fld (pv 1) rfl) (nomark _))))))), ?_⟩
    walk_at "rd"
    refine i_isR T (.rat rb) true (.inl ⟨⟨_, _, _, rfl, rfl, rb⟩, rfl⟩) ⟨_, rfl, i_b2 (fun _ => ?_) (fun h => by cases h)⟩
    walk_at "rat"
    by_cases e1 : p = p'
    · have z : decide (V.int p = V.int p') = true := decide_eq_true (by rw [e1])
      rw [z]
      refine i_b2 (fun _ => ?_) (fun h => by cases h)
      walk_at "rat"
      have z2 : decide (V.int q = V.int q') = decide (p = p' ∧ q = q') := by
        apply decide_eq_decide.mpr
        exact ⟨fun h => ⟨e1, by injection h⟩, fun h => by rw [h.2]⟩
      rw [z2]
      exact k
    · have z : decide (V.int p = V.int p') = false := decide_eq_false (fun h => e1 (by injection h))
      have z2 : decide (p = p' ∧ q = q') = false := decide_eq_false (fun h => e1 h.1)
      rw [z2] at k
      rw [z]
      refine i_b2 (fun h => by cases h) (fun _ => k)
theorem ok_eq {fd : FuncData} (M : MT mg K) (T : RT K (RA K)) (CR : CRead K (RA K) mc) (SO : SMet K (RA K) mc "of" pOf (a_Ratio_of K)) (DOf : Dn P w K mg base (L2.CX P w) 5 (a_Ratio_of K) ["value"] [] (spOf (RA K) (BA K))) (DN : Dn P w K mg base CX0 2 (a_is_number K) ["value"] [] (spNum (RA K))) (DSame : Dn P w K mg base CX0 1 (a_is_same K) ["one", "other"] [] (spSame (RA K))) (F : FnP K d_Ratio___eq__ fd) :
    Dn P w K mg base CX0 6 (a_Ratio___eq__ K) ["self", "other"] [] (spEq (RA K)) := by
  refine dn_mk F rfl (fun _ _ _ _ _ _ us hl => match us, hl with | [_, _], _ => rfl) ?_
  refine (fun_of F rfl).ok sc_Ratio___eq__ (fun vs H Q E h => ?_) (fun cdv A outer s H vs Q E hr h => ?_)
  · obtain ⟨a, p, q, v, n, rfl, _⟩ := h
    rfl
  · obtain ⟨a, p, q, v, n, rfl, ra, nv, k⟩ := h
    refine ⟨_, (pss_one (ps_ret (pe_and (pe_callD DN (hr.mono (by decide)) rfl M.g_is_number pass0 (pa_cons (pv 1) pa_nil)) (pe_one (pe_callD DSame (hr.mono (by decide)) rfl M.g_is_same pass0 (pa_cons (pv 0) (pa_cons (pe_smethD (pe_glob (v := .ref (ga K "Ratio")) rfl M.g_Ratio rfl) CR SO DOf (hr.mono (by decide)) passL (pa_cons (pv 1) pa_nil)) pa_nil))))))), ?_⟩
    walk_at "rd"
    refine ⟨v, n, rfl, nv, _, rfl, ?_⟩
    cases n with
    | none => exact i_b2 (fun h => by cases h) (fun _ => k _ (Same.refl _))
    | some pq =>
      obtain ⟨p', q'⟩ := pq
      refine i_b2 (fun _ => ?_) (fun h => by cases h)
      walk_at "rd"
      exact ⟨rfl, v, rfl, v, _, rfl, nv, fun b H1 z rb => ⟨a, b, p, q, p', q', rfl, ra.mono z, rb, k H1 z⟩⟩
theorem ok_bool {fd : FuncData} (M : MT mg K) (T : RT K (RA K)) (F : FnP K d_Ratio___bool__ fd) : Dn P w K mg base CX0 1 (a_Ratio___bool__ K) ["self"] [] (spOne (RA K) (fun _ _ => True) fun p _ => .bl (p != 0)) := by
  refine dn_mk F rfl (fun _ _ _ _ _ _ us hl => match us, hl with | [_], _ => rfl) ?_
  refine (fun_of F rfl).ok sc_Ratio___bool__ (fun vs H Q E h => ?_) (fun cdv A outer s H vs Q E hr h => ?_)
  · obtain ⟨a, p, q, rfl, _⟩ := h
    rfl
  · obtain ⟨a, p, q, rfl, ra, _, k⟩ := h
    refine ⟨_, (pss_one (ps_ret (pe_callTy call_bool1 (by rfl) M.f_bool (by decide +kernel) (pa_cons (pe_fld (pv 0) rfl) pa_nil)))), ?_⟩
    walk_at "rat"
    exact .inl ⟨_, rfl, k⟩
theorem ok_floor {fd : FuncData} (M : MT mg K) (T : RT K (RA K)) (F : FnP K d_Ratio_floor fd) : Dn P w K mg base CX0 1 (a_Ratio_floor K) ["self"] [] (spOne (RA K) (fun _ q => Smal q) fun p q => .int (p.fdiv q)) := by
  refine dn_mk F rfl (fun _ _ _ _ _ _ us hl => match us, hl with | [_], _ => rfl) ?_
  refine (fun_of F rfl).ok sc_Ratio_floor (fun vs H Q E h => ?_) (fun cdv A outer s H vs Q E hr h => ?_)
  · obtain ⟨a, p, q, rfl, _⟩ := h
    rfl
  · obtain ⟨a, p, q, rfl, ra, sq, k⟩ := h
    refine ⟨_, (pss_one (ps_ret (pe_op op_fdivNW (pe_fld (pv 0) rfl) (pe_fld (pv 0) rfl)))), ?_⟩
    walk_at "rat"
    exact i_I ⟨Int.ne_of_gt ra.pos, log_lt (Nat.lt_of_lt_of_le sq (Nat.pow_le_pow_right (by decide) (by decide)))⟩ k
theorem ok_ceil {fd : FuncData} (M : MT mg K) (T : RT K (RA K)) (F : FnP K d_Ratio_ceiling fd) : Dn P w K mg base CX0 1 (a_Ratio_ceiling K) ["self"] [] (spOne (RA K) (fun _ q => Smal q) fun p q => .int (-((-p).fdiv q))) := by
  refine dn_mk F rfl (fun _ _ _ _ _ _ us hl => match us, hl with | [_], _ => rfl) ?_
  refine (fun_of F rfl).ok sc_Ratio_ceiling (fun vs H Q E h => ?_) (fun cdv A outer s H vs Q E hr h => ?_)
  · obtain ⟨a, p, q, rfl, _⟩ := h
    rfl
  · obtain ⟨a, p, q, rfl, ra, sq, k⟩ := h
    refine ⟨_, (pss_one (ps_ret (pe_un un_neg (pe_op op_fdivNW (pe_un un_neg (pe_fld (pv 0) rfl)) (pe_fld (pv 0) rfl))))), ?_⟩
    walk_at "rat"
    refine i_I ⟨Int.ne_of_gt ra.pos, log_lt (Nat.lt_of_lt_of_le sq (Nat.pow_le_pow_right (by decide) (by decide)))⟩ ?_
    walk_at "rat"
    exact k
theorem ok_str {fd : FuncData} (M : MT mg K) (T : RT K (RA K)) (F : FnP K d_Ratio___str__ fd) : Dn P w K mg base CX0 1 (a_Ratio___str__ K) ["self"] [] (spOne (RA K) (fun p q => Bt p ∧ Bt q) fun p q => .str (ratTxt p q)) := by
  refine dn_mk F rfl (fun _ _ _ _ _ _ us hl => match us, hl with | [_], _ => rfl) ?_
  refine (fun_of F rfl).ok sc_Ratio___str__ (fun vs H Q E h => ?_) (fun cdv A outer s H vs Q E hr h => ?_)
  · obtain ⟨a, p, q, rfl, _⟩ := h
    rfl
  · obtain ⟨a, p, q, rfl, ra, ⟨b1, b2⟩, k⟩ := h
    have k : Q (.str (ratTxt p q)) H := k
    refine ⟨_, (pss_cons (ps_if (pt_cmpR op_eq (pe_fld (pv 0) rfl) pe_int (nomark _))
          (pss_one (ps_ret (pe_callTy call_str_int (by rfl) M.f_str (by decide +kernel) (pa_cons (pe_fld (pv 0) rfl) pa_nil))))
          pss_nil)
      (pss_one (ps_ret (pe_joined (.cons (pe_fmt (pe_fld (pv 0) rfl)) (.cons pe_str (.cons (pe_fmt (pe_fld (pv 0) rfl)) .nil))))))), ?_⟩
    walk_at "rat"
    refine i_dec (fun c => ?_) (fun c => ?_)
    · have e : q = 1 := by injection c
      walk_at "rat"
      refine ⟨_, rfl, b1, ?_⟩
      have z : ratTxt p q = (toString p : Str) := by unfold ratTxt; rw [if_pos e]
      rw [z] at k
      exact k
    · have e : q ≠ 1 := fun h => c (by rw [h])
      walk_at "rat"
      have z : ratTxt p q = Str.empty ++ (toString p : Str) ++ ("/" : Str) ++ (toString q : Str) := by unfold ratTxt; rw [if_neg e]
      rw [z] at k
      obtain ⟨dx, hx⟩ := ra.at_
      have l1 := txt_len b1
      have l2 := txt_len b2
      have l0 : (Str.empty ++ ((toString p : String) : Str)).length ≤ 1921 := by rw [PySem.Str.length_append]; show 0 + _ ≤ _; omega
      have l3 : (("/" : Str)).length = 1 := rfl
      have sz : sizeLine = 16777216 := sizeLine_eq
      refine ⟨_, rfl, a, RA K, dx, _, _, rfl, hx, T.cls, T.noO, rfl, .inr ⟨_, rfl, b1, _, rfl, by omega, ?_⟩⟩
      refine ⟨_, rfl, by rw [PySem.Str.length_append]; omega, ?_⟩
      refine ⟨_, rfl, a, RA K, dx, _, _, rfl, hx, T.cls, T.noU, rfl, .inr ⟨_, rfl, b2, _, rfl, by rw [PySem.Str.length_append, PySem.Str.length_append]; omega, k⟩⟩
end
end Az

namespace Az
open PySem PySem.Spec PyProof.Rows L2 Hz He
section
variable {P : Program} {w : World} {K : PySem.W.Frag} {mg : Str → Option Value} {base : Heap}
theorem ok_pen {fd : FuncData} (M : MT mg K) (F : FnP K d__law_pen fd) : Dn P w K mg base CX0 1 (a__law_pen K) ["_law_script"] [] (spPen K) := by
  refine dn_mk F rfl (fun _ _ _ _ _ _ us hl => match us, hl with | [_], _ => rfl) ?_
  refine (fun_of F rfl).ok sc__law_pen (fun vs H Q E h => ?_) (fun cdv A outer s H vs Q E hr h => ?_)
  · obtain ⟨s, ns, rfl, _⟩ := h
    rfl
  · obtain ⟨s, ns, rfl, hS, k⟩ := h
    refine ⟨_, (pss_one (ps_ret (pe_lst (pa_cons (pe_callTy c_list (by rfl) M.f_list (by decide +kernel) (pa_cons (pe_slice sl_list (pv 0) po_none (po_some pe_int)) pa_nil)) (pa_cons pe_int (pa_cons pe_int pa_nil)))))), ?_⟩
    refine ⟨_, rfl, _, rfl, s, _, rfl, hS, fun p hp => ?_⟩
    refine ⟨p, _, rfl, Or.inl (SqL.of upd_same), fun c hc => ?_⟩
    refine ⟨(by show 3 ≤ sizeLine; decide), fun a ha => ?_⟩
    have npc : p ≠ c := ne_of_none upd_same hc
    have hcN : H c = none := ne_upd_none hc
    have nac : a ≠ c := fun e => by subst e; rw [upd_same] at ha; cases ha
    have haN : H a = none := ne_upd_none (ne_upd_none ha)
    refine k a c (ns.take 60) _ haN hcN ?_ ⟨⟨0, 0, upd_same, by decide, by decide, by decide⟩, ?_, by simp; omega⟩
    · intro b o e
      rw [upd_ne (ne_of_none e haN), upd_ne (ne_of_none e hcN), upd_ne (ne_of_none e hp)]
      exact e
    · rw [upd_ne (Ne.symm nac), upd_same, cut60, List.map_take]
theorem ok_draw {fd : FuncData} (M : MT mg K) (F : FnP K d__law_draw fd) : Dn P w K mg base CX0 1 (a__law_draw K) ["_law_pen_here", "_law_many"] [] spDraw := by
  refine dn_mk F rfl (fun _ _ _ _ _ _ us hl => match us, hl with | [_, _], _ => rfl) ?_
  refine (fun_of F rfl).ok sc__law_draw (fun vs H Q E h => ?_) (fun cdv A outer s H vs Q E hr h => ?_)
  · obtain ⟨a, c, cs, n, many, rfl, _⟩ := h
    rfl
  · obtain ⟨a, c, cs, n, many, rfl, Pn, hn, hm0, hm1, k⟩ := h
    obtain ⟨⟨spot, great, hA, h0, h1, hg⟩, hC, hl⟩ := id Pn
    have hca : c ≠ a := Pn.ne
    refine ⟨_, (pss_cons (ps_if (pt_cmpR op_gt (pe_ix ix_list (pv 0) pe_int (fun _ _ => rfl)) pe_int (nomark _))
          (pss_cons (ps_set (i := 2) sc__law_draw.nd rfl (Or.inl rfl) (pe_op op_mod (pe_callTy c_int (by rfl) M.f_int (by decide +kernel) (pa_cons (pe_ix ix_list (pv 0) pe_int (fun _ _ => rfl)) pa_nil)) (pv 1)))
          (pss_cons (ps_asg (pe_op op_fdiv (pe_callTy c_int (by rfl) M.f_int (by decide +kernel) (pa_cons (pe_ix ix_list (pv 0) pe_int (fun _ _ => rfl)) pa_nil)) (pv 1)) (pg_sub (pv 0) pe_int set_list))
          (pss_one (ps_ret (pv 2)))))
          pss_nil)
      (pss_cons (ps_set (i := 3) sc__law_draw.nd rfl (Or.inl rfl) (pe_ix ix_list (pv 0) pe_int (fun _ _ => rfl)))
      (pss_cons (ps_asg (pe_op op_add (pv 3) pe_int) (pg_sub (pv 0) pe_int set_list))
      (pss_cons (ps_set (i := 4) sc__law_draw.nd rfl (Or.inl rfl) (pe_op op_add (pe_op op_mul pe_int (pv 3)) pe_int))
      (C8.pss_cut (ps_if (pt_cmpR (op_neD hr.units) (pe_ix ix_list (pv 0) pe_int (fun _ _ => rfl)) (pe_lst pa_nil) (nomark _))
          (pss_one (ps_set (i := 4) sc__law_draw.nd rfl (Or.inl rfl) (pe_ix ix_list (pe_ix ix_list (pv 0) pe_int (fun _ _ => rfl)) (pe_op op_mod (pe_callTy c_int (by rfl) M.f_int (by decide +kernel) (pa_cons (pv 3) pa_nil)) (pe_callB c_len (by rfl) M.f_len (by decide +kernel) (pa_cons (pe_ix ix_list (pv 0) pe_int (fun _ _ => rfl)) pa_nil))) (fun _ _ => rfl))))
          pss_nil)
      (C8.pss_cut (ps_if (PW.pt (pw_and (pt_cmpR op_lt (pv 3) (pe_callB c_len (by rfl) M.f_len (by decide +kernel) (pa_cons (pe_ix ix_list (pv 0) pe_int (fun _ _ => rfl)) pa_nil)) (nomark _)) (pw_and1 (pt_cmpR op_ge (pe_callB c_abs (by rfl) M.f_abs (by decide +kernel) (pa_cons (pv 4) pa_nil)) (pe_op op_pow pe_int pe_int) (nomark _)))))
          (pss_cons (ps_set (i := 5) sc__law_draw.nd rfl (Or.inl rfl) (pe_op op_add (pe_op op_mul pe_int (pe_op op_sub (pe_callB c_abs (by rfl) M.f_abs (by decide +kernel) (pa_cons (pv 4) pa_nil)) (pe_op op_pow pe_int pe_int))) (pe_callTy c_int (by rfl) M.f_int (by decide +kernel) (pa_cons (pe_cmpR op_lt (pv 4) pe_int (nomark _)) pa_nil))))
          (pss_cons (ps_asg (pe_op op_fdiv (pe_callTy c_int (by rfl) M.f_int (by decide +kernel) (pa_cons (pv 5) pa_nil)) (pv 1)) (pg_sub (pv 0) pe_int set_list))
          (pss_one (ps_ret (pe_op op_mod (pe_callTy c_int (by rfl) M.f_int (by decide +kernel) (pa_cons (pv 5) pa_nil)) (pv 1))))))
          pss_nil)
      (pss_cons (ps_set (i := 6) sc__law_draw.nd rfl (Or.inl rfl) (pe_op op_mod (pe_callTy c_int (by rfl) M.f_int (by decide +kernel) (pa_cons (pe_op op_pow (pe_op op_add (pe_op op_add (pe_op op_mod (pe_callTy c_int (by rfl) M.f_int (by decide +kernel) (pa_cons (pv 4) pa_nil)) pe_int) (pe_op op_mul pe_int (pv 3))) pe_int) pe_int) pa_nil)) pe_int))
      (pss_cons (ps_set (i := 6) sc__law_draw.nd rfl (Or.inl rfl) (pe_op op_mod (pe_callTy c_int (by rfl) M.f_int (by decide +kernel) (pa_cons (pe_op op_pow (pe_op op_add (pe_op op_add (pe_op op_mul (pv 6) (pe_op op_add (pe_op op_mul pe_int (pv 3)) pe_int)) (pe_op op_mul (pe_op op_mul pe_int (pv 3)) (pv 3))) pe_int) pe_int) pa_nil)) pe_int))
      (pss_one (ps_ret (pe_op op_mod (pe_callTy c_int (by rfl) M.f_int (by decide +kernel) (pa_cons (pe_op op_fdiv (pv 6) pe_int) pa_nil)) (pv 1)))))))))))), ?_⟩
    walk_at "rd"
    refine i_dec (fun c1 => ?_) (fun c1 => ?_)
    · walk_at "rd"
      refine i_I hm0 ?_
      walk_at "rd"
      refine i_I ⟨hm0, by omega⟩ ?_
      walk_at "rd"
      refine k _ _ (Int.emod_nonneg _ (by omega)) (Int.emod_lt_of_pos _ hm0) .put ⟨⟨spot, great / many, upd_same, h0, by omega, Int.ediv_nonneg hg (by omega)⟩, get_put Pn.ne hC, hl⟩
    · walk_at "rd"
      refine i_I (Or.inl ⟨by decide, by decide⟩) ?_
      walk_at "rd"
      refine ⟨fun σ' H' => ∃ (cell : Int) (p : Addr), σ' = [some (.ref a), some (.int many), none, some (.int spot), some (.int cell), none, none] ∧ upd H a (.lst [.ref c, .int (spot + 1), .int great]) p = none ∧ H' = upd (upd H a (.lst [.ref c, .int (spot + 1), .int great])) p (.lst []), ?_, ?_⟩
      · walk_at "rd"
        refine ⟨by decide, fun p hp => ?_⟩
        refine i_neL0 (by walk_at "hget") L2.upd_same ?_
        walk_at "rd"
        refine i_b2 (fun c2 => ?_) (fun c2 => ?_)
        · walk_at "rd"
          have hcs : 0 < cs.length := by
            cases cs with
            | nil => cases c2
            | cons => simp
          refine i_I (by simp; omega) ?_
          obtain ⟨z, hz⟩ : ∃ z, cs[(spot % (cs.length : Int)).toNat]? = some z := ⟨_, List.getElem?_eq_getElem (by have := Int.emod_lt_of_pos spot (show (0 : Int) < cs.length by omega); have := Int.emod_nonneg spot (show (cs.length : Int) ≠ 0 by omega); omega)⟩
          refine i_ixL (v := .int z) (by walk_at "hget") ?_ ?_
          · rw [List.length_map]
            exact at_of (j := (spot % (cs.length : Int)).toNat) (by have := Int.emod_nonneg spot (show (cs.length : Int) ≠ 0 by omega); omega) (by rw [List.getElem?_map, hz]; rfl)
          · walk_at "rd"
            exact ⟨z, p, rfl, hp, rfl⟩
        · walk_at "rd"
          exact ⟨_, p, rfl, hp, rfl⟩
      · rintro σ' H' ⟨cell, p, rfl, hp, rfl⟩
        walk_at "rd"
        refine ⟨fun σ' H' => σ' = [some (.ref a), some (.int many), none, some (.int spot), some (.int cell), none, none] ∧ H' = upd (upd H a (.lst [.ref c, .int (spot + 1), .int great])) p (.lst []), ?_, ?_⟩
        · walk_at "rd"
          refine i_dec (fun c3 => ?_) (fun c3 => ?_)
          · walk_at "rd"
            refine i_I ⟨by decide, by decide, by decide⟩ ?_
            walk_at "rd"
            refine i_dec (fun c4 => ?_) (fun c4 => ?_)
            · walk_at "rd"
              refine i_I ⟨by decide, by decide, by decide⟩ ?_
              walk_at "rd"
              refine i_I (Or.inl ⟨by decide, by decide⟩) ?_
              walk_at "rd"
              refine i_I ⟨hm0, by omega⟩ ?_
              have hpa : p ≠ a := fun e => by rw [e, upd_same] at hp; cases hp
              walk_at "rd"
              refine i_I hm0 ?_
              refine k _ _ (Int.emod_nonneg _ (by omega)) (Int.emod_lt_of_pos _ hm0) ((Ext.put.andNew hp).andPut) ⟨⟨spot + 1, _, upd_same, by omega, by omega, Int.ediv_nonneg ?_ (by omega)⟩, get_put hca (get_new hp (get_put hca hC)), hl⟩
              have e : (0 : Int) ≤ (if decide (cell < 0) = true then 1 else 0) := by split <;> decide
              omega
            · exact ⟨rfl, rfl⟩
          · exact ⟨rfl, rfl⟩
        · rintro σ' H' ⟨rfl, rfl⟩
          walk_at "rd"
          refine i_I (by decide) ?_
          walk_at "rd"
          refine i_I (Or.inl ⟨by decide, by decide⟩) ?_
          walk_at "rd"
          refine i_I ⟨by decide, by decide, ?_⟩ ?_
          · have e : (2 : Nat) ^ 64 = 18446744073709551616 := by decide
            omega
          walk_at "rd"
          refine i_I (by decide) ?_
          walk_at "rd"
          refine i_I (Or.inl ⟨by decide, by decide⟩) ?_
          walk_at "rd"
          refine i_I (Or.inl ?_) ?_
          · have e : (2 : Int) ^ 64 = 18446744073709551616 := by decide
            omega
          walk_at "rd"
          refine i_I (Or.inl ⟨by decide, by decide⟩) ?_
          walk_at "rd"
          refine i_I (Or.inl ?_) ?_
          · have e : (2 : Int) ^ 64 = 18446744073709551616 := by decide
            omega
          walk_at "rd"
          refine i_I ⟨by decide, by decide, mix_lt (by omega) (by omega) h0 (by omega) (by decide) (by decide) (by decide)⟩ ?_
          walk_at "rd"
          refine i_I (by decide) ?_
          walk_at "rd"
          refine i_I ⟨by decide, by decide⟩ ?_
          walk_at "rd"
          refine i_I hm0 ?_
          exact k _ _ (Int.emod_nonneg _ (by omega)) (Int.emod_lt_of_pos _ hm0) (Ext.put.andNew hp) ⟨⟨spot + 1, great, by walk_at "hget", by omega, by omega, hg⟩, by walk_at "hget", hl⟩
theorem ok_pick {fd : FuncData} (M : MT mg K) (DDr : Dn P w K mg base CX0 1 (a__law_draw K) ["_law_pen_here", "_law_many"] [] spDraw) (F : FnP K d__law_pick fd) : Dn P w K mg base CX0 2 (a__law_pick K) ["_law_pen_here", "_law_some"] [] spPick := by
  refine dn_mk F rfl (fun _ _ _ _ _ _ us hl => match us, hl with | [_, _], _ => rfl) ?_
  refine (fun_of F rfl).ok sc__law_pick (fun vs H Q E h => ?_) (fun cdv A outer s H vs Q E hr h => ?_)
  · obtain ⟨a, c, cs, n, l, xs, rfl, _⟩ := h
    rfl
  · obtain ⟨a, c, cs, n, l, xs, rfl, Pn, hn, hL, hla, hx, hx2, k⟩ := h
    refine ⟨_, (pss_one (ps_ret (pe_ix ix_list (pv 1) (pe_callD DDr (hr.mono (by decide)) rfl M.g__law_draw pass0 (pa_cons (pv 0) (pa_cons (pe_callB c_len (by rfl) M.f_len (by decide +kernel) (pa_cons (pv 1) pa_nil)) pa_nil))) (fun _ _ => rfl)))), ?_⟩
    walk_at "rd"
    have hpos : 0 < xs.length := List.length_pos_iff.mpr hx
    refine ⟨a, c, cs, n, _, rfl, Pn, hn, by omega, by omega, fun r H' r0 r1 ex Pn' => ?_⟩
    obtain ⟨z, hz⟩ : ∃ z, xs[r.toNat]? = some z := ⟨_, List.getElem?_eq_getElem (by omega)⟩
    refine i_ixL (v := z) (ex _ _ hL hla) ?_ ?_
    · exact at_of (j := r.toNat) (by omega) hz
    · exact k _ _ _ hz ex Pn'
end
end Az

namespace Az
open PySem PySem.Spec PyProof.Rows L2 Hz He
section
variable {P : Program} {w : World} {K : PySem.W.Frag} {mg : Str → Option Value} {base : Heap}
theorem ok_lint {fd : FuncData} (M : MT mg K) (DDr : Dn P w K mg base CX0 1 (a__law_draw K) ["_law_pen_here", "_law_many"] [] spDraw) (DPk : Dn P w K mg base CX0 2 (a__law_pick K) ["_law_pen_here", "_law_some"] [] spPick) (F : FnP K d__law_int fd) : Dn P w K mg base CX0 3 (a__law_int K) ["_law_pen_here"] [] spLInt := by
  refine dn_mk F rfl (fun _ _ _ _ _ _ us hl => match us, hl with | [_], _ => rfl) ?_
  refine (fun_of F rfl).ok sc__law_int (fun vs H Q E h => ?_) (fun cdv A outer s H vs Q E hr h => ?_)
  · obtain ⟨a, c, cs, n, rfl, _⟩ := h
    rfl
  · obtain ⟨a, c, cs, n, rfl, Pn, hn, k⟩ := h
    refine ⟨_, (pss_cons (ps_set (i := 1) sc__law_int.nd rfl (Or.inl rfl) (pe_op op_add (pe_op op_pow pe_int pe_int) (pe_callD DDr (hr.mono (by decide)) rfl M.g__law_draw pass0 (pa_cons (pv 0) (pa_cons pe_int pa_nil)))))
      (pss_one (ps_ret (pe_callD DPk (hr.mono (by decide)) rfl M.g__law_pick pass0 (pa_cons (pv 0) (pa_cons (pe_lst (pa_cons pe_int (pa_cons pe_int (pa_cons (pe_un un_neg pe_int) (pa_cons pe_int (pa_cons (pe_un un_neg pe_int) (pa_cons pe_int (pa_cons pe_int (pa_cons (pv 1) (pa_cons (pe_un un_neg (pv 1)) (pa_cons (pe_op op_sub (pe_callD DDr (hr.mono (by decide)) rfl M.g__law_draw pass0 (pa_cons (pv 0) (pa_cons pe_int pa_nil))) pe_int) pa_nil))))))))))) pa_nil)))))), ?_⟩
    walk_at "rd"
    refine i_I ⟨by decide, by decide, by decide⟩ ?_
    walk_at "rd"
    refine ⟨a, c, cs, n, 99, rfl, Pn, by omega, by decide, by decide, fun r H1 r0 r1 e1 P1 => ?_⟩
    walk_at "rd"
    refine ⟨a, c, cs, n + 1, 200, rfl, P1, by omega, by decide, by decide, fun r2 H2 r20 r21 e2 P2 => ?_⟩
    walk_at "rd"
    refine ⟨size_ok rfl, fun l hl => ?_⟩
    walk_at "rd"
    obtain ⟨sp, gr, hA, _⟩ := P2.at_
    refine ⟨a, c, cs, n + 2, l, _, rfl, P2.mono (same_new (Same.refl _) hl) (by omega), by omega, upd_same, new_ne (Same.refl _) hA hl, by simp, (show 10 < 1000 by decide), fun j x H3 hj e3 P3 => ?_⟩
    have hx : ∃ i : Int, x = .int i ∧ i.natAbs < 2 ^ 128 := by
      have t0 : (10 : Int) ^ Int.toNat 30 = 1000000000000000000000000000000 := by decide
      have t1 : (2 : Nat) ^ 128 = 340282366920938463463374607431768211456 := by decide
      rw [t0] at hj
      rw [t1]
      match j, hj with
      | 0, hj => cases hj; exact ⟨_, rfl, by decide⟩
      | 1, hj => cases hj; exact ⟨_, rfl, by decide⟩
      | 2, hj => cases hj; exact ⟨_, rfl, by decide⟩
      | 3, hj => cases hj; exact ⟨_, rfl, by decide⟩
      | 4, hj => cases hj; exact ⟨_, rfl, by decide⟩
      | 5, hj => cases hj; exact ⟨_, rfl, by decide⟩
      | 6, hj => cases hj; exact ⟨_, rfl, by decide⟩
      | 7, hj => cases hj; exact ⟨_, rfl, by omega⟩
      | 8, hj => cases hj; exact ⟨_, rfl, by omega⟩
      | 9, hj => cases hj; exact ⟨_, rfl, by omega⟩
      | j + 10, hj => simp at hj
    obtain ⟨i, rfl, hi⟩ := hx
    exact k i H3 hi ((e1.trans e2).trans ((Ext.new hl).trans e3)) (P3.mono (Same.refl _) (by omega))
theorem ok_lpair {fd : FuncData} (M : MT mg K) (DDr : Dn P w K mg base CX0 1 (a__law_draw K) ["_law_pen_here", "_law_many"] [] spDraw) (DPk : Dn P w K mg base CX0 2 (a__law_pick K) ["_law_pen_here", "_law_some"] [] spPick) (DInt : Dn P w K mg base CX0 3 (a__law_int K) ["_law_pen_here"] [] spLInt) (F : FnP K d__law_pair fd) : Dn P w K mg base CX0 4 (a__law_pair K) ["_law_pen_here"] [] spLPair := by
  refine dn_mk F rfl (fun _ _ _ _ _ _ us hl => match us, hl with | [_], _ => rfl) ?_
  refine (fun_of F rfl).ok sc__law_pair (fun vs H Q E h => ?_) (fun cdv A outer s H vs Q E hr h => ?_)
  · obtain ⟨a, c, cs, n, rfl, _⟩ := h
    rfl
  · obtain ⟨a, c, cs, n, rfl, Pn, hn, k⟩ := h
    refine ⟨_, (pss_one (ps_ret (pe_tup (pa_cons (pe_callD DInt (hr.mono (by decide)) rfl M.g__law_int pass0 (pa_cons (pv 0) pa_nil)) (pa_cons (pe_callD DPk (hr.mono (by decide)) rfl M.g__law_pick pass0 (pa_cons (pv 0) (pa_cons (pe_lst (pa_cons pe_int (pa_cons pe_int (pa_cons pe_int (pa_cons pe_int (pa_cons pe_int (pa_cons pe_int (pa_cons pe_int (pa_cons (pe_op op_add (pe_op op_pow pe_int pe_int) (pe_callD DDr (hr.mono (by decide)) rfl M.g__law_draw pass0 (pa_cons (pv 0) (pa_cons pe_int pa_nil)))) (pa_cons (pe_op op_add pe_int (pe_callD DDr (hr.mono (by decide)) rfl M.g__law_draw pass0 (pa_cons (pv 0) (pa_cons pe_int pa_nil)))) pa_nil)))))))))) pa_nil))) pa_nil))))), ?_⟩
    walk_at "rd"
    refine ⟨a, c, cs, n, rfl, Pn, by omega, fun i H0 hi e0 P0 => ?_⟩
    walk_at "rd"
    refine i_I ⟨by decide, by decide, by decide⟩ ?_
    walk_at "rd"
    refine ⟨a, c, cs, n + 3, 9, rfl, P0, by omega, by decide, by decide, fun r H1 r0 r1 e1 P1 => ?_⟩
    walk_at "rd"
    refine ⟨a, c, cs, n + 3 + 1, 60, rfl, P1, by omega, by decide, by decide, fun r2 H2 r20 r21 e2 P2 => ?_⟩
    walk_at "rd"
    refine ⟨size_ok rfl, fun l hl => ?_⟩
    walk_at "rd"
    obtain ⟨sp, gr, hA, _⟩ := P2.at_
    refine ⟨a, c, cs, n + 5, l, _, rfl, P2.mono (same_new (Same.refl _) hl) (by omega), by omega, upd_same, new_ne (Same.refl _) hA hl, by simp, (show 9 < 1000 by decide), fun j x H3 hj e3 P3 => ?_⟩
    have hx : ∃ i : Int, x = .int i ∧ 0 < i ∧ i.natAbs < 2 ^ 128 := by
      have t0 : (10 : Int) ^ Int.toNat 30 = 1000000000000000000000000000000 := by decide
      have t1 : (2 : Nat) ^ 128 = 340282366920938463463374607431768211456 := by decide
      rw [t0] at hj
      rw [t1]
      match j, hj with
      | 0, hj => cases hj; exact ⟨_, rfl, by decide, by decide⟩
      | 1, hj => cases hj; exact ⟨_, rfl, by decide, by decide⟩
      | 2, hj => cases hj; exact ⟨_, rfl, by decide, by decide⟩
      | 3, hj => cases hj; exact ⟨_, rfl, by decide, by decide⟩
      | 4, hj => cases hj; exact ⟨_, rfl, by decide, by decide⟩
      | 5, hj => cases hj; exact ⟨_, rfl, by decide, by decide⟩
      | 6, hj => cases hj; exact ⟨_, rfl, by decide, by decide⟩
      | 7, hj => cases hj; exact ⟨_, rfl, by omega, by omega⟩
      | 8, hj => cases hj; exact ⟨_, rfl, by omega, by omega⟩
      | j + 9, hj => simp at hj
    obtain ⟨i2, rfl, hp, hi2⟩ := hx
    walk_at "rd"
    refine ⟨size_ok rfl, fun t ht => ?_⟩
    exact k i i2 t _ hi hp hi2 (((e0.trans (e1.trans e2)).trans ((Ext.new hl).trans e3)).trans (Ext.new ht)) (P3.mono (same_new (Same.refl _) ht) (by omega)) upd_same (by
      obtain ⟨sp3, gr3, hA3, _⟩ := P3.at_
      exact new_ne (Same.refl _) hA3 ht)
end
end Az

namespace Az
open PySem PySem.Spec PyProof.Rows L2 AzX LamX Hz He
abbrev SA (K : PySem.W.Frag) : Addr := ga K "SnapError"
/-- an error of the value v, told -/
def HE (K : PySem.W.Frag) (Q : VK) (cls : Value) (d : Option Addr) (H' : Hp) : Prop := ∃ (dd : Addr) (v : V) (dt : PyData), cls = .ref (BA K) ∧ d = some dd ∧ H' dd = some (.xd [("value", v)]) ∧ DtS K H' v dt ∧ ∀ t H'', Same H' H'' → H'' t = some (.tup [.str "ratio", .str dt.shown]) → Q (.ref t) H''
/-- a value, in a list -/
def HQ (Q : VK) (v : V) (H' : Hp) : Prop := ∀ l H'', Same H' H'' → H'' l = some (.lst [v]) → Q (.ref l) H''
/-- what _law_heard makes of what it calls -/
def TH (K : PySem.W.Frag) : (XK → Hp → VK → Prop) → Hp → VK → Prop := fun tl H Q =>
  ∀ (E' : XK) (Q' : VK), (∀ cls d H', HE K Q cls d H' → E' cls d H') → (∀ v H', HQ Q v H' → Q' v H') → tl E' H Q'
section
variable {X : Cx} {k : Nat}
theorem heard_gives {g : Addr} {cdg : Value} {q : Str} (M : MT X.mg X.K) (B : CatchT X.K (SA X.K) (BA X.K)) (kit : PySem.W.kitOne X.K (.ref (BA X.K)) (.ref (BA X.K)) = some true) (no : PySem.W.findIn X.K (.ref (BA X.K)) "value" = some none)
    (hr : Room (k + 1) X.A) (hgd : X.A.guards = some []) : GivesTo X ["_law_ask", "_law_caught", "error"] "_law_heard" (defScope s__law_heard) g cdg (defBody s__law_heard) "_law_ask" q (TH X.K) := by
  intro f c' s H Q tl act hc h
  have hr' := hr.deeper (envOfC "_law_heard" (defScope s__law_heard) s.heap.objs.size g cdg)
  refine ⟨_, pss_cons (ps_set (i := 1) sc__law_heard.nd rfl (Or.inl rfl) pe_non)
    (pss_cons (ps_try_keep (i := 2) (c := .ref (SA X.K)) (Wout := fun _ _ _ _ => False)
        (tb := fun W => tRet (tLst (tCons (fun σZ HZ Q => σZ[0]? = some (some (.ref f)) ∧ HZ c' = some (CodeO c' q) ∧ tl (fun cls d H' => ∀ σ' : L2.St, σ'.length = 3 → W cls d σ' H') HZ Q) tNil)))
        rfl rfl sc__law_heard.nd rfl rfl ⟨rfl, by decide, .inl M.g_SnapError⟩ LamX.takes0
        (fun W pn xe tk _ => pss_one (ps_ret (pe_lst (pa_cons (act _ pn xe (fun cls d H' => ∀ σ' : L2.St, σ'.length = 3 → W cls d σ' H') _ _ (takes_len tk) (fun cls d σ' H' z hl => z σ' hl)) pa_nil))))
        (fun a pn => pss_one (ps_set (i := 1) sc__law_heard.nd rfl (Or.inl rfl) (pv 2))))
    (pss_one (ps_ret (pe_ifExp (pt_val (pe_callB call_isX (by rfl) M.f_isinstance (by decide +kernel) (pa_cons (pv 1) (pa_cons (pe_glob (v := .ref (BA X.K)) rfl M.g_BadRatio rfl) pa_nil))))
      (pe_tup (pa_cons pe_str (pa_cons (pe_callB (c_rep hr' hgd) (by rfl) M.f_repr (by decide +kernel) (pa_cons (pe_xat (pv 1)) pa_nil)) pa_nil))) (pe_tup (pa_cons pe_str pa_nil)))))), ?_⟩
  refine i_seq (i_asg (i_c (i_name ?_)))
  dsimp only
  with_reducible refine i_seq ?_
  with_reducible refine i_ret ?_
  with_reducible refine i_lst ?_
  with_reducible refine i_cons ?_
  refine ⟨rfl, hc, h _ _ (fun cls d H' z => ?_) (fun v H' z => ?_)⟩
  · intro σ' hl
    obtain ⟨dd, v, dt, rfl, rfl, hdd, hv, z⟩ := z
    refine ⟨true, B.exm, fun _ a ha => ?_, fun e => by cases e⟩
    match σ', hl with
    | [x0, x1, x2], _ =>
    refine i_asg (i_var rfl (i_name ?_))
    have nda : dd ≠ a := ne_of_none hdd ha
    have hA : upd H' a (ExG (.ref (BA X.K)) (some dd) a) a = some (ExO (BA X.K) dd a) := upd_same
    have hD : upd H' a (ExG (.ref (BA X.K)) (some dd) a) dd = some (.xd [("value", v)]) := by rw [upd_ne nda]; exact hdd
    have sm : Same H' (upd H' a (ExG (.ref (BA X.K)) (some dd) a)) := same_new (Same.refl _) ha
    refine i_ret (i_if (i_tB (i_CB (i_cons (i_var rfl (i_cons (i_c (i_nil ?_))))))))
    refine ⟨a, BA X.K, _, .ref (BA X.K), true, rfl, .dict hA hD, B.exc, .own _, kit, true, rfl, i_b2 (fun _ => ?_) (fun e => by cases e)⟩
    refine i_tup (i_cons (i_c (i_cons (i_CB (i_cons ?_)))))
    refine ⟨_, rfl, a, BA X.K, dd, _, v, rfl, hA, B.xf, no, hD, rfl, ?_⟩
    refine i_nil (i_rep (hv.mono sm) (i_nil ⟨size_ok rfl, fun t ht => ?_⟩))
    exact z t _ (same_new sm ht) upd_same
  · refine i_nil ⟨size_ok rfl, fun l hl => ?_⟩
    exact z l _ (same_new (Same.refl _) hl) upd_same
/-- _law_heard(lambda: body) -/
theorem pe_heard {q : Str} {fdH : FuncData} {T : List (Addr × Str)} {c P : Addr} {params : Arguments} {body : Expr} {scope : Scope} {t : XK → TE} {p lpos pos : Pos} (M : MT X.mg X.K) (FH : FnP X.K d__law_heard fdH) (B : CatchT X.K (SA X.K) (BA X.K)) (kit : PySem.W.kitOne X.K (.ref (BA X.K)) (.ref (BA X.K)) = some true) (no : PySem.W.findIn X.K (.ref (BA X.K)) "value" = some none)
    (hgd : X.A.guards = some []) (hg : Gl X "_law_heard") (TB : TabB X.base X.mg c P) (hcode : X.env.code = .ref c) (hq : X.env.qual = q) (hmT : (P, q ++ "<lambda>") ∈ T) (hu : ∀ p ∈ T, p.1 = P → p.2 = q ++ "<lambda>") (hr : Room (k + 2) X.A) (L : LamS X.env.scope scope) (hdef : defaultsOf params X.env = ([], []))
    (hbind : ∀ (q : Str) (cl : List (Str × Addr)) (pm cv ctv : Value), bindArgs (PySem.W.kla_fn "<lambda>" q params body scope cl pm cv ctv) ⟨[], []⟩ = pure [])
    (hbody : ∀ (A : Around) (outer : List Env) (s : Shared) (H : Hp) (E : XK) (f c' : Addr), Room k (A.deeper (lamEnv X scope s.heap.objs.size f c')) → PE (lamCx X A outer s H E scope f c') body (t E)) :
    PE X (.Call (.Name "_law_heard" p) [.Lambda params body scope lpos] [] pos) (tLam T (TH X.K) t) := by
  have bH : Binds X.K fdH ["_law_ask"] [] := FunD.bindsN (ps := ["_law_ask"]) FH fun _ _ _ _ _ _ us hl => match us, hl with | [_], _ => rfl
  obtain ⟨⟨oc, od, dV, kV, doc, pm, an, cdv, ct, osl, rfl, lkH, cdH, _, _⟩, kpH⟩ := FH
  subst hq
  exact pe_lamcall hg M.g__law_heard kpH lkH cdH bH sc__law_heard rfl (Or.inl rfl) (heard_gives (k := k + 1) M B kit no hr hgd) TB hcode hmT hu hr L hdef hbind hbody
end
end Az

local macro_rules | `(tactic| walk_at "hget") => `(tactic| first | exact L2.upd_same | assumption | (refine Az.same_get (by assumption) ?_; walk_at "hget") | (refine Az.get_new (by assumption) ?_; walk_at "hget") | (refine Az.get_put (by first | assumption | (apply Ne.symm; assumption)) ?_; walk_at "hget"))
local macro_rules | `(tactic| walk_at "fact") => `(tactic| first | assumption | (refine Az.RatOf.mono ?_ (by assumption); walk_at "fact") | (refine Az.RatOf.mono ?_ (Az.same_new (L2.Same.refl _) (by assumption)); walk_at "fact"))
local macro_rules | `(tactic| walk_at "sm") => `(tactic| first | exact L2.Same.refl _ | assumption | (refine L2.Same.trans ?_ (by assumption); walk_at "sm") | (refine Az.same_new ?_ (by assumption); walk_at "sm"))
local macro_rules | `(tactic| walk_at "rx1") => `(tactic| first
  | walk_at "rd1" | with_reducible refine Az.i_chain ?_ | with_reducible refine Az.i_par ?_ | with_reducible refine Az.i_two ?_ | with_reducible refine Az.i_par3 ?_ | with_reducible refine Az.i_three ?_ | with_reducible refine Az.i_gCons ?_ | with_reducible refine Az.i_gNil ?_ | with_reducible refine Az.i_meth ?_ | with_reducible refine Az.i_smeth ?_ | with_reducible refine Az.i_mkK ?_
  | ((with_reducible refine' Az.i_gTup ?hg ?hv ?_); (case hg => walk_at "hget"); (case hv => exact rfl)))
local macro_rules | `(tactic| walk_at "rx") => `(tactic| repeat walk_at "rx1")
local macro_rules | `(tactic| walk_at "rxn") => `(tactic| repeat (first | walk_at "rx1" | walk_at "new"))
local macro_rules | `(tactic| walk_at "rz1") => `(tactic| first | walk_at "rx1" | walk_at "new" | ((with_reducible refine' Az.i_mulS ?h1 ?h2 ?_); (case h1 => assumption); (case h2 => assumption)))
local macro_rules | `(tactic| walk_at "rz") => `(tactic| repeat walk_at "rz1")
namespace Az
open PySem PySem.Spec PyProof.Rows L2 AzX LamX Hz He
/-- the promises of the ratios' methods that stand in order -/
structure OrdT (P : Program) (w : World) (K : PySem.W.Frag) (mg : Str → Option Value) (base : Heap) : Prop where
  MR : Mk K (RA K) (a_Ratio___init__ K)
  DIni : Dn P w K mg base (L2.CX P w) 3 (a_Ratio___init__ K) ["self", "over", "under"] [.int 1] (spIni (RA K) (BA K))
  DLt : Dn P w K mg base (L2.CX P w) 6 (a_Ratio___lt__ K) ["self", "other"] [] (spCmp (RA K) (BA K) gLt)
  DGt : Dn P w K mg base (L2.CX P w) 6 (a_Ratio___gt__ K) ["self", "other"] [] (spCmp (RA K) (BA K) gGt)
  DLe : Dn P w K mg base (L2.CX P w) 7 (a_Ratio___le__ K) ["self", "other"] [] (spCmp (RA K) (BA K) gLe)
  DGe : Dn P w K mg base (L2.CX P w) 7 (a_Ratio___ge__ K) ["self", "other"] [] (spCmp (RA K) (BA K) gGe)
  DEq : Dn P w K mg base CX0 6 (a_Ratio___eq__ K) ["self", "other"] [] (spEq (RA K))
  DBo : Dn P w K mg base CX0 1 (a_Ratio___bool__ K) ["self"] [] (spOne (RA K) (fun _ _ => True) fun p _ => .bl (p != 0))
  DSt : Dn P w K mg base CX0 1 (a_Ratio___str__ K) ["self"] [] (spOne (RA K) (fun p q => Bt p ∧ Bt q) fun p q => .str (ratTxt p q))
  DFl : Dn P w K mg base CX0 1 (a_Ratio_floor K) ["self"] [] (spOne (RA K) (fun _ q => Smal q) fun p q => .int (p.fdiv q))
  DCe : Dn P w K mg base CX0 1 (a_Ratio_ceiling K) ["self"] [] (spOne (RA K) (fun _ q => Smal q) fun p q => .int (-((-p).fdiv q)))
  CLt : CmC K (RA K) "__lt__" (a_Ratio___lt__ K)
  CGt : CmC K (RA K) "__gt__" (a_Ratio___gt__ K)
  CLe : CmC K (RA K) "__le__" (a_Ratio___le__ K)
  CGe : CmC K (RA K) "__ge__" (a_Ratio___ge__ K)
  CEq : CmC K (RA K) "__eq__" (a_Ratio___eq__ K)
  CBo : CmC K (RA K) "__bool__" (a_Ratio___bool__ K)
  CSt : CmC K (RA K) "__str__" (a_Ratio___str__ K)
  NE : NeC K (RA K) (a_Ratio___eq__ K)
  MFl : Meth K (RA K) "floor" (a_Ratio_floor K)
  MCe : Meth K (RA K) "ceiling" (a_Ratio_ceiling K)
def S3 (x : Int) : Prop := x.natAbs < 2 ^ 300
def spOrd : Sp := fun vs H Q _ => ∃ (t1 t2 : Addr) (a b c d w : Int), vs = [.ref t1, .ref t2, .int w] ∧ H t1 = some (.tup [.int a, .int b]) ∧ H t2 = some (.tup [.int c, .int d]) ∧ 0 < b ∧ 0 < d ∧ S3 a ∧ S3 b ∧ S3 c ∧ S3 d ∧ S3 w ∧ ∀ H', Same H H' → Q (.bl true) H'
section
variable {P : Program} {w : World} {K : PySem.W.Frag} {mg : Str → Option Value} {base : Heap}
theorem ok_order {fd : FuncData} (M : MT mg K) (T : RT K (RA K)) (O : OrdT P w K mg base) (F : FnP K d__law_order_right fd) : DnG P w K mg base CX0 10 (a__law_order_right K) ["_law_first", "_law_last", "_law_whole"] [] spOrd := by
  obtain ⟨MR, DIni, DLt, DGt, DLe, DGe, DEq, DBo, DSt, DFl, DCe, CLt, CGt, CLe, CGe, CEq, CBo, CSt, NE, MFl, MCe⟩ := O
  refine dn_mkG F rfl (fun _ _ _ _ _ _ us hl => match us, hl with | [_, _, _], _ => rfl) ?_
  refine okG (fun_of F rfl) sc__law_order_right (fun vs H Q E h => ?_) (fun cdv A outer s H vs Q E hr hgd h => ?_)
  · obtain ⟨t1, t2, a, b, c, d, w, rfl, _⟩ := h
    rfl
  · obtain ⟨t1, t2, a, b, c, d, w, rfl, h1, h2, hb, hd, sa, sb, sc, sd, sw, k⟩ := h
    refine ⟨_, (pss_cons (ps_asg (pe_tup (pa_cons (pv 0) (pa_cons (pv 1) pa_nil))) (pg_tup (by rfl) (pgs_cons (pg_tup (by rfl) (pgs_cons (pg_name (i := 3) sc__law_order_right.nd rfl (Or.inl rfl)) (pgs_cons (pg_name (i := 4) sc__law_order_right.nd rfl (Or.inl rfl)) pgs_nil))) (pgs_cons (pg_tup (by rfl) (pgs_cons (pg_name (i := 5) sc__law_order_right.nd rfl (Or.inl rfl)) (pgs_cons (pg_name (i := 6) sc__law_order_right.nd rfl (Or.inl rfl)) pgs_nil))) pgs_nil))))
      (pss_cons (ps_par (i := 7) (j := 8) (by rfl) sc__law_order_right.nd rfl rfl (by decide) rfl rfl (pa_cons (pe_makeD (dv := []) MR DIni 1 (hr.mono (by decide)) rfl M.g_Ratio passL (pa_cons (pv 3) (pa_cons (pv 4) pa_nil))) (pa_cons (pe_makeD (dv := []) MR DIni 1 (hr.mono (by decide)) rfl M.g_Ratio passL (pa_cons (pv 5) (pa_cons (pv 6) pa_nil))) pa_nil)) (by rfl))
      (C8.pss_cut (ps_par (i := 9) (j := 10) (by rfl) sc__law_order_right.nd rfl rfl (by decide) rfl rfl (pa_cons (pe_op op_mulW (pv 3) (pv 6)) (pa_cons (pe_op op_mulW (pv 5) (pv 4)) pa_nil)) (by rfl))
      (pss_cons (ps_set (i := 11) sc__law_order_right.nd rfl (Or.inl rfl) (pe_lst (pa_cons (pe_cmpR (lt_ownD CLt DLt (hr.mono (by decide)) passL) (pv 7) (pv 8) (nomark _)) (pa_cons (pe_cmpR (le_ownD CLe DLe (hr.mono (by decide)) passL) (pv 7) (pv 8) (nomark _)) (pa_cons (pe_cmpR (gt_ownD CGt DGt (hr.mono (by decide)) passL) (pv 7) (pv 8) (nomark _)) (pa_cons (pe_cmpR (ge_ownD CGe DGe (hr.mono (by decide)) passL) (pv 7) (pv 8) (nomark _)) (pa_cons (pe_cmpR (eq_ownD CEq DEq (hr.mono (by decide)) pass0) (pv 7) (pv 8) (nomark _)) (pa_cons (pe_cmpR (ne_ownD NE DEq (hr.mono (by decide)) pass0) (pv 7) (pv 8) (nomark _)) pa_nil))))))))
      (C8.pss_cut (ps_if (pt_cmpR op_ne (pe_callB (c_rep hr hgd) (by rfl) M.f_repr (by decide +kernel) (pa_cons (pv 11) pa_nil)) (pe_callB (c_rep hr hgd) (by rfl) M.f_repr (by decide +kernel) (pa_cons (pe_lst (pa_cons (pe_cmpR op_lt (pv 9) (pv 10) (nomark _)) (pa_cons (pe_cmpR op_le (pv 9) (pv 10) (nomark _)) (pa_cons (pe_cmpR op_gt (pv 9) (pv 10) (nomark _)) (pa_cons (pe_cmpR op_ge (pv 9) (pv 10) (nomark _)) (pa_cons (pe_cmpR op_eq (pv 9) (pv 10) (nomark _)) (pa_cons (pe_cmpR op_ne (pv 9) (pv 10) (nomark _)) pa_nil))))))) pa_nil)) (nomark _))
          (pss_one (ps_ret pe_bl))
          pss_nil)
      (pss_cons (ps_set (i := 12) sc__law_order_right.nd rfl (Or.inl rfl) (pe_op op_mulW (pv 2) (pv 4)))
      (pss_cons (ps_set (i := 11) sc__law_order_right.nd rfl (Or.inl rfl) (pe_lst (pa_cons (pe_cmpR (lt_ownD CLt DLt (hr.mono (by decide)) passL) (pv 7) (pv 2) (nomark _)) (pa_cons (pe_cmpR (le_ownD CLe DLe (hr.mono (by decide)) passL) (pv 7) (pv 2) (nomark _)) (pa_cons (pe_cmpR (gt_ownD CGt DGt (hr.mono (by decide)) passL) (pv 7) (pv 2) (nomark _)) (pa_cons (pe_cmpR (ge_ownD CGe DGe (hr.mono (by decide)) passL) (pv 7) (pv 2) (nomark _)) (pa_cons (pe_cmpR (eq_ownD CEq DEq (hr.mono (by decide)) pass0) (pv 7) (pv 2) (nomark _)) (pa_cons (pe_cmpR (eq_ownRD CEq T.noInt DEq (hr.mono (by decide)) pass0) (pv 2) (pv 7) (nomark _)) pa_nil))))))))
      (C8.pss_cut (ps_if (pt_cmpR op_ne (pe_callB (c_rep hr hgd) (by rfl) M.f_repr (by decide +kernel) (pa_cons (pv 11) pa_nil)) (pe_callB (c_rep hr hgd) (by rfl) M.f_repr (by decide +kernel) (pa_cons (pe_lst (pa_cons (pe_cmpR op_lt (pv 3) (pv 12) (nomark _)) (pa_cons (pe_cmpR op_le (pv 3) (pv 12) (nomark _)) (pa_cons (pe_cmpR op_gt (pv 3) (pv 12) (nomark _)) (pa_cons (pe_cmpR op_ge (pv 3) (pv 12) (nomark _)) (pa_cons (pe_cmpR op_eq (pv 3) (pv 12) (nomark _)) (pa_cons (pe_cmpR op_eq (pv 3) (pv 12) (nomark _)) pa_nil))))))) pa_nil)) (nomark _))
          (pss_one (ps_ret pe_bl))
          pss_nil)
      (pss_cons (ps_set (i := 11) sc__law_order_right.nd rfl (Or.inl rfl) (pe_lst (pa_cons (pe_cmpR (lt_ownRD CGt T.noInt DGt (hr.mono (by decide)) passL) (pv 2) (pv 7) (nomark _)) (pa_cons (pe_cmpR (le_ownRD CGe T.noInt DGe (hr.mono (by decide)) passL) (pv 2) (pv 7) (nomark _)) (pa_cons (pe_cmpR (gt_ownRD CLt T.noInt DLt (hr.mono (by decide)) passL) (pv 2) (pv 7) (nomark _)) (pa_cons (pe_cmpR (ge_ownRD CLe T.noInt DLe (hr.mono (by decide)) passL) (pv 2) (pv 7) (nomark _)) (pa_cons (pe_cmpR (ne_ownRD NE DEq (hr.mono (by decide)) pass0) (pv 2) (pv 7) (nomark _)) pa_nil)))))))
      (C8.pss_cut (ps_if (pt_cmpR op_ne (pe_callB (c_rep hr hgd) (by rfl) M.f_repr (by decide +kernel) (pa_cons (pv 11) pa_nil)) (pe_callB (c_rep hr hgd) (by rfl) M.f_repr (by decide +kernel) (pa_cons (pe_lst (pa_cons (pe_cmpR op_lt (pv 12) (pv 3) (nomark _)) (pa_cons (pe_cmpR op_le (pv 12) (pv 3) (nomark _)) (pa_cons (pe_cmpR op_gt (pv 12) (pv 3) (nomark _)) (pa_cons (pe_cmpR op_ge (pv 12) (pv 3) (nomark _)) (pa_cons (pe_cmpR op_ne (pv 12) (pv 3) (nomark _)) pa_nil)))))) pa_nil)) (nomark _))
          (pss_one (ps_ret pe_bl))
          pss_nil)
      (pss_cons (ps_par (i := 13) (j := 14) (by rfl) sc__law_order_right.nd rfl rfl (by decide) rfl rfl (pa_cons (pe_methD0 (pv 7) T.cls MFl DFl (hr.mono (by decide)) pass0) (pa_cons (pe_methD0 (pv 7) T.cls MCe DCe (hr.mono (by decide)) pass0) pa_nil)) (by rfl))
      (C8.pss_cut (ps_if (PW.pt (pw_or (pt_not (pt_val (pe_callB call_isi (by rfl) M.f_isinstance (by decide +kernel) (pa_cons (pv 13) (pa_cons (pe_bltn (v := .ty "int") (u := .type "int") (by rfl) M.f_int (by decide +kernel) rfl) pa_nil))))) (pw_or (pt_not (pt_val (pe_callB call_isi (by rfl) M.f_isinstance (by decide +kernel) (pa_cons (pv 14) (pa_cons (pe_bltn (v := .ty "int") (u := .type "int") (by rfl) M.f_int (by decide +kernel) rfl) pa_nil))))) (pw_or (pt_not (pt_chain op_le op_lt (pe_op op_mulW (pv 13) (pv 4)) (pv 3) (pe_op op_mulW (pe_op op_add (pv 13) pe_int) (pv 4)))) (pw_or1 (pt_not (pt_chain op_lt op_le (pe_op op_mulW (pe_op op_sub (pv 14) pe_int) (pv 4)) (pv 3) (pe_op op_mulW (pv 14) (pv 4)))))))))
          (pss_one (ps_ret pe_bl))
          pss_nil)
      (pss_one (ps_ret (pe_and (pe_cmpR op_eq (pe_callB (c_rep hr hgd) (by rfl) M.f_repr (by decide +kernel) (pa_cons (pe_callTy (call_boolD CBo DBo (hr.mono (by decide)) pass0) (by rfl) M.f_bool (by decide +kernel) (pa_cons (pv 7) pa_nil)) pa_nil)) (pe_callB (c_rep hr hgd) (by rfl) M.f_repr (by decide +kernel) (pa_cons (pe_cmpR op_ne (pv 3) pe_int (nomark _)) pa_nil)) (nomark _)) (pe_and (pe_cmpR (eq_ownD CEq DEq (hr.mono (by decide)) pass0) (pv 7) (pe_makeD (dv := []) MR DIni 1 (hr.mono (by decide)) rfl M.g_Ratio passL (pa_cons (pe_op op_mulW pe_int (pv 3)) (pa_cons (pe_op op_mulW pe_int (pv 4)) pa_nil))) (nomark _)) (pe_and (pe_cmpR (ne_ownD NE DEq (hr.mono (by decide)) pass0) (pv 7) (pe_callTy (call_strD CSt DSt (hr.mono (by decide)) pass0) (by rfl) M.f_str (by decide +kernel) (pa_cons (pv 7) pa_nil)) (nomark _)) (pe_one (pe_cmpR (eq_ownD CEq DEq (hr.mono (by decide)) pass0) (pe_makeD (dv := [V.int (1)]) MR DIni 0 (hr.mono (by decide)) rfl M.g_Ratio passL (pa_cons (pv 2) pa_nil)) (pv 2) (nomark _)))))))))))))))))))), ?_⟩
    have sb' : Sm b := Nat.lt_of_lt_of_le sb (Nat.pow_le_pow_right (by decide) (by decide))
    have sa' : Sm a := Nat.lt_of_lt_of_le sa (Nat.pow_le_pow_right (by decide) (by decide))
    have sc' : Sm c := Nat.lt_of_lt_of_le sc (Nat.pow_le_pow_right (by decide) (by decide))
    have sd' : Sm d := Nat.lt_of_lt_of_le sd (Nat.pow_le_pow_right (by decide) (by decide))
    have sw' : Sm w := Nat.lt_of_lt_of_le sw (Nat.pow_le_pow_right (by decide) (by decide))
    walk_at "rxn"
    refine u_rat hb sb' fun x1 H1 z1 r1 => ?_
    walk_at "rxn"
    refine u_rat hd sd' fun x2 H2 z2 r2 => ?_
    walk_at "rxn"
    refine ⟨fun σ' H' => σ' = [some (.ref t1), some (.ref t2), some (.int w), some (.int a), some (.int b), some (.int c), some (.int d), some (.ref x1), some (.ref x2), some (.int (a * d)), some (.int (c * b)), none, none, none, none] ∧ H' = H2, ?_, ?_⟩
    · walk_at "rz"
      exact ⟨rfl, rfl⟩
    have y1 : RatOf (RA K) H2 x1 a b := r1.mono z2
    have y2 : Same H H2 := by walk_at "sm"
    clear z1 z2 r1
    rintro σ' H' ⟨rfl, rfl⟩
    walk_at "rz"
    refine u_cmp T (by walk_at "fact") (.rat (by walk_at "fact")) sa' sb' sc' sd' (dlt hb hd) fun H3 z3 => ?_
    walk_at "rz"
    refine u_cmp T (by walk_at "fact") (.rat (by walk_at "fact")) sa' sb' sc' sd' (dle hb hd) fun H4 z4 => ?_
    walk_at "rz"
    refine u_cmp T (by walk_at "fact") (.rat (by walk_at "fact")) sa' sb' sc' sd' (dgt hb hd) fun H5 z5 => ?_
    walk_at "rz"
    refine u_cmp T (by walk_at "fact") (.rat (by walk_at "fact")) sa' sb' sc' sd' (dge hb hd) fun H6 z6 => ?_
    walk_at "rz"
    refine u_eq (a := a) (b := b) (c := c) (d := d) T (by walk_at "fact") (.rat (by walk_at "fact")) rfl fun H7 z7 => ?_
    walk_at "rz"
    refine u_ne (a := a) (b := b) (c := c) (d := d) T (by walk_at "fact") (.rat (by walk_at "fact")) rfl fun H8 z8 => ?_
    walk_at "rz"
    refine ⟨fun σ' H' => (∃ s8 s9 s10 s11 s12, σ' = [some (.ref t1), some (.ref t2), some (.int w), some (.int a), some (.int b), some (.int c), some (.int d), some (.ref x1), s8, s9, s10, s11, s12, none, none]) ∧ RatOf (RA K) H' x1 a b ∧ Same H H', ?_, ?_⟩
    · walk_at "rz"
      refine i_rep (dts_b6 (by walk_at "hget")) ?_
      walk_at "rz"
      refine i_rep (dts_b6 (by walk_at "hget")) ?_
      walk_at "rz"
      refine i_ndec (fun z => absurd rfl z) (fun _ => ?_)
      walk_at "rz"
      exact ⟨⟨_, _, _, _, _, rfl⟩, by walk_at "fact", by walk_at "sm"⟩
    clear z3 z4 z5 z6 z7 z8
    clear y1 y2
    rintro σ' H9 ⟨⟨s8, s9, s10, s11, s12, rfl⟩, y1, y2⟩
    walk_at "rz"
    refine u_cmp (a := a) (b := b) (c := w) (d := 1) T (by walk_at "fact") (.int w) sa' sb' sw' sm1 (dlt1 hb) fun H10 z10 => ?_
    walk_at "rz"
    refine u_cmp (a := a) (b := b) (c := w) (d := 1) T (by walk_at "fact") (.int w) sa' sb' sw' sm1 (dle1 hb) fun H11 z11 => ?_
    walk_at "rz"
    refine u_cmp (a := a) (b := b) (c := w) (d := 1) T (by walk_at "fact") (.int w) sa' sb' sw' sm1 (dgt1 hb) fun H12 z12 => ?_
    walk_at "rz"
    refine u_cmp (a := a) (b := b) (c := w) (d := 1) T (by walk_at "fact") (.int w) sa' sb' sw' sm1 (dge1 hb) fun H13 z13 => ?_
    walk_at "rz"
    refine u_eq (a := a) (b := b) (c := w) (d := 1) (r := decide (V.int a = V.int (w * b))) T (by walk_at "fact") (.int w) (by rw [Int.mul_one]) fun H14 z14 => ?_
    walk_at "rz"
    refine u_eqR (a := a) (b := b) (r := decide (V.int a = V.int (w * b))) (by walk_at "fact") (by rw [Int.mul_one]) fun H15 z15 => ?_
    walk_at "rz"
    refine ⟨fun σ' H' => (∃ s8 s9 s10 s11, σ' = [some (.ref t1), some (.ref t2), some (.int w), some (.int a), some (.int b), some (.int c), some (.int d), some (.ref x1), s8, s9, s10, s11, some (.int (w * b)), none, none]) ∧ RatOf (RA K) H' x1 a b ∧ Same H H', ?_, ?_⟩
    · walk_at "rz"
      refine i_rep (dts_b6 (by walk_at "hget")) ?_
      walk_at "rz"
      refine i_rep (dts_b6 (by walk_at "hget")) ?_
      walk_at "rz"
      refine i_ndec (fun z => absurd rfl z) (fun _ => ?_)
      walk_at "rz"
      exact ⟨⟨_, _, _, _, rfl⟩, by walk_at "fact", by walk_at "sm"⟩
    clear z10 z11 z12 z13 z14 z15
    clear y1 y2
    rintro σ' H9 ⟨⟨s8, s9, s10, s11, rfl⟩, y1, y2⟩
    walk_at "rz"
    refine u_cmpR (a := a) (b := b) (by walk_at "fact") sa' sb' sw' (rlt1 hb) fun H10 z10 => ?_
    walk_at "rz"
    refine u_cmpR (a := a) (b := b) (by walk_at "fact") sa' sb' sw' (rle1 hb) fun H11 z11 => ?_
    walk_at "rz"
    refine u_cmpR (a := a) (b := b) (by walk_at "fact") sa' sb' sw' (rgt1 hb) fun H12 z12 => ?_
    walk_at "rz"
    refine u_cmpR (a := a) (b := b) (by walk_at "fact") sa' sb' sw' (rge1 hb) fun H13 z13 => ?_
    walk_at "rz"
    refine u_neR (a := a) (b := b) (r := !decide (V.int (w * b) = V.int a)) (by walk_at "fact") (by rw [Int.mul_one]; congr 1; exact decide_eq_decide.mpr ⟨Eq.symm, Eq.symm⟩) fun H14 z14 => ?_
    walk_at "rz"
    refine ⟨fun σ' H' => (∃ s8 s9 s10 s11 s12, σ' = [some (.ref t1), some (.ref t2), some (.int w), some (.int a), some (.int b), some (.int c), some (.int d), some (.ref x1), s8, s9, s10, s11, s12, none, none]) ∧ RatOf (RA K) H' x1 a b ∧ Same H H', ?_, ?_⟩
    · walk_at "rz"
      refine i_rep (dts_b5 (by walk_at "hget")) ?_
      walk_at "rz"
      refine i_rep (dts_b5 (by walk_at "hget")) ?_
      walk_at "rz"
      refine i_ndec (fun z => absurd rfl z) (fun _ => ?_)
      walk_at "rz"
      exact ⟨⟨_, _, _, _, _, rfl⟩, by walk_at "fact", by walk_at "sm"⟩
    clear z10 z11 z12 z13 z14
    clear y1 y2
    rintro σ' H9 ⟨⟨s8, s9, s10, s11, s12, rfl⟩, y1, y2⟩
    walk_at "rz"
    have sF := smal_rU (a := a) hb sb'
    refine i_atR y1.1 (i_nil ⟨x1, _, _, rfl, y1.1, sF, ?_⟩)
    dsimp only
    walk_at "rz"
    refine i_atR y1.1 (i_nil ⟨x1, _, _, rfl, y1.1, sF, ?_⟩)
    dsimp only
    walk_at "rz"
    generalize hf : (rO a b).fdiv (rU a b) = f
    generalize hg : -(-rO a b).fdiv (rU a b) = g
    obtain ⟨f1, f2⟩ : f * b ≤ a ∧ a < (f + 1) * b := by rw [← hf]; exact floor_b hb
    obtain ⟨g1, g2⟩ : (g - 1) * b < a ∧ a ≤ g * b := by rw [← hg]; exact ceil_b hb
    have lf : f.natAbs < 2 ^ 300 := by rw [← hf]; exact Nat.lt_of_le_of_lt (floor_abs hb) sa
    have lg : g.natAbs < 2 ^ 300 := by rw [← hg]; exact Nat.lt_of_le_of_lt (ceil_abs hb) sa
    have l1 : (1 : Int).natAbs < 2 ^ 300 := by decide +kernel
    have sf : Sm f := sm_le lf (by decide)
    have sg : Sm g := sm_le lg (by decide)
    have sf1 : Sm (f + 1) := sm_le (lt_add lf l1) (by decide)
    have sg1 : Sm (g - 1) := sm_le (lt_add (y := -1) lg (by decide +kernel)) (by decide)
    refine ⟨fun σ' H' => (∃ s8 s9 s10 s11 s12 s13 s14, σ' = [some (.ref t1), some (.ref t2), some (.int w), some (.int a), some (.int b), some (.int c), some (.int d), some (.ref x1), s8, s9, s10, s11, s12, s13, s14]) ∧ RatOf (RA K) H' x1 a b ∧ Same H H', ?_, ?_⟩
    · walk_at "rz"
      refine ⟨_, _, .type "int", .type "int", true, rfl, .ty _, .base (.int _), kit_ty (by decide +kernel), _, rfl, i_b2 (fun h => by cases h) (fun _ => ?_)⟩
      walk_at "rz"
      refine ⟨_, _, .type "int", .type "int", true, rfl, .ty _, .base (.int _), kit_ty (by decide +kernel), _, rfl, i_b2 (fun h => by cases h) (fun _ => ?_)⟩
      walk_at "rz"
      refine i_dec (fun _ => ?_) (fun z => absurd f1 z)
      walk_at "rz"
      refine i_ndec (fun z => absurd f2 z) (fun _ => ?_)
      walk_at "rz"
      refine i_dec (fun _ => ?_) (fun z => absurd g1 z)
      walk_at "rz"
      refine i_ndec (fun z => absurd g2 z) (fun _ => ?_)
      walk_at "rz"
      exact ⟨⟨_, _, _, _, _, _, _, rfl⟩, y1, y2⟩
    clear y1 y2 hf hg f1 f2 g1 g2 lf lg l1 sf sg sf1 sg1
    rintro σ' H9 ⟨⟨s8, s9, s10, s11, s12, s13, s14, rfl⟩, y1, y2⟩
    walk_at "rz"
    refine i_boolO y1.1 ⟨x1, _, _, rfl, y1.1, trivial, (!decide (V.int a = V.int 0)), congrArg V.bl (rO_ne hb), ?_⟩
    walk_at "rz"
    refine i_rep dts_b ?_
    walk_at "rz"
    refine i_rep dts_b ?_
    walk_at "rz"
    refine i_dec (fun _ => ?_) (fun z => absurd rfl z)
    have s3 : Sm 3 := by unfold Sm; decide +kernel
    walk_at "rz"
    have b3 : 0 < 3 * b := by omega
    have sb3 : Sm (3 * b) := sm_le (lt_mul (n := 2) (m := 300) (by decide) sb) (by decide)
    refine u_rat b3 sb3 fun x3 H3 z3 r3 => ?_
    refine u_eq (a := a) (b := b) (c := 3 * a) (d := 3 * b) (r := true) T (by walk_at "fact") (.rat r3) (decide_eq_true (by congr 1; rw [Int.mul_left_comm, Int.mul_assoc])) fun H4 z4 => ⟨_, rfl, i_b2 (fun _ => ?_) (fun h => by cases h)⟩
    walk_at "rz"
    refine i_strO (y1.mono (z3.trans z4)).1 ⟨x1, _, _, rfl, (y1.mono (z3.trans z4)).1, ⟨bt_rO hb sa', bt_rU hb sb'⟩, _, rfl, ?_⟩
    walk_at "rz"
    refine u_neN (a := a) (b := b) T (by walk_at "fact") (.odd rfl (by simp [oddTys])) fun H5 z5 => ⟨_, rfl, i_b2 (fun _ => ?_) (fun h => by cases h)⟩
    walk_at "rz"
    refine u_rat1 fun x6 H6 z6 r6 => ?_
    walk_at "rz"
    refine u_eq (a := w) (b := 1) (c := w) (d := 1) (r := true) T r6 (.int w) (decide_eq_true rfl) fun H7 z7 => ?_
    exact k _ (by walk_at "sm")
end
end Az

namespace Az
open PySem PySem.Spec PyProof.Rows L2 AzX LamX Hz He
/-- the table of the lambdas' code objects -/
abbrev Tt (K : PySem.W.Frag) : List (Addr × Str) := [((cT K ("_law_refused_right", none)).2, (d__law_refused_right.qual ++ ".<locals>.") ++ "<lambda>")]
theorem tt_mem (K : PySem.W.Frag) : ((cT K ("_law_refused_right", none)).2, (d__law_refused_right.qual ++ ".<locals>.") ++ "<lambda>") ∈ Tt K := List.mem_cons_self ..
theorem tt_only (K : PySem.W.Frag) : ∀ p ∈ Tt K, p.1 = (cT K ("_law_refused_right", none)).2 → p.2 = (d__law_refused_right.qual ++ ".<locals>.") ++ "<lambda>" := fun p hp _ => by
  cases hp with
  | head => rfl
  | tail _ h => cases h
section
variable {K : PySem.W.Frag} {T : List (Addr × Str)} {t : XK → TE} {σ : L2.St} {H : Hp} {Q : VK}
/-- heard, where the value v is refused -/
theorem u_heard {v : V} {dt : PyData} (hT : Tabs T H) (hv : DtS K H v dt) (ask : ∀ (H1 : Hp) (E' : XK) (Q' : VK), ExtN H H1 → Told (BA K) H1 E' v → t E' σ H1 Q')
    (k : ∀ tt H2, ExtN H H2 → Tabs T H2 → H2 tt = some (.tup [.str "ratio", .str dt.shown]) → Q (.ref tt) H2) : tLam T (TH K) t σ H Q := by
  refine ⟨hT, fun H1 e1 T1 E' Q' hE _ => ask H1 E' Q' e1 fun d H2 s2 hd => hE _ _ _ ⟨d, v, dt, rfl, rfl, hd, hv.ext (e1.trans (.of s2)), fun tt H3 s3 ht => ?_⟩⟩
  exact k tt H3 (e1.trans (.of (s2.trans s3))) (T1.ext (s2.trans s3)) ht
end
def spRef (K : PySem.W.Frag) : Sp := fun vs H Q _ => ∃ (a c : Addr) (cs : List Int) (n : Int) (x : Addr) (p q : Int), vs = [.ref a, .ref x] ∧ Pen H a c cs n ∧ n ≤ 90000 ∧ RatOf (RA K) H x p q ∧ Tabs (Tt K) H ∧
  ∀ H', Pen H' a c cs (n + 1) → Tabs (Tt K) H' → Q (.bl true) H'
section
variable {P : Program} {w : World} {K : PySem.W.Frag} {mg : Str → Option Value} {base : Heap}
theorem ok_refused {fd fdH : FuncData} (M : MT mg K) (T : RT K (RA K)) (O : OrdT P w K mg base) (DPk : Dn P w K mg base CX0 2 (a__law_pick K) ["_law_pen_here", "_law_some"] [] spPick) (Ct : CatchT K (SA K) (BA K)) (kitB : PySem.W.kitOne K (.ref (BA K)) (.ref (BA K)) = some true) (noB : PySem.W.findIn K (.ref (BA K)) "value" = some none)
    (TB : TabB base mg (cT K ("_law_refused_right", none)).1 (cT K ("_law_refused_right", none)).2) (FH : FnP K d__law_heard fdH) (F : FnP K d__law_refused_right fd) : DnG P w K mg base CX0 12 (a__law_refused_right K) ["_law_pen_here", "_law_one"] [] (spRef K) := by
  obtain ⟨MR, DIni, DLt, DGt, DLe, DGe, DEq, DBo, DSt, DFl, DCe, CLt, CGt, CLe, CGe, CEq, CBo, CSt, NE, MFl, MCe⟩ := O
  refine dn_mkG F rfl (fun _ _ _ _ _ _ us hl => match us, hl with | [_, _], _ => rfl) ?_
  refine okGC (x := "_law_refused_right") rfl F rfl sc__law_refused_right (fun vs H Q E h => ?_) (fun A outer s H vs Q E hr hgd h => ?_)
  · obtain ⟨a, c, cs, n, x, p, q, rfl, _⟩ := h
    rfl
  · obtain ⟨a, c, cs, n, x, p, q, rfl, Pn, hn, rx, tb, k⟩ := h
    refine ⟨_, (pss_cons (ps_set (i := 2) sc__law_refused_right.nd rfl (Or.inr rfl) (pe_callD DPk (hr.mono (by decide)) rfl M.g__law_pick pass0 (pa_cons (pv 0) (pa_cons (pe_lst (pa_cons pe_non (pa_cons pe_str (pa_cons pe_str (pa_cons (pe_tup (pa_cons pe_int (pa_cons pe_int pa_nil))) (pa_cons (pe_lst (pa_cons pe_int pa_nil)) (pa_cons pe_dnewK (pa_cons pe_bl (pa_cons pe_bl pa_nil))))))))) pa_nil))))
      (pss_cons (ps_set (i := 3) sc__law_refused_right.nd rfl (Or.inl rfl) (pe_lst (pa_cons (pe_heard (k := 8) (T := Tt K) (t := fun E => tOp (rCmp K (RA K) (spCmp (RA K) (BA K) gLt) E) (tVar 1) (tVar 2)) M FH Ct kitB noB hgd rfl TB rfl rfl (tt_mem K) (tt_only K) (hr.mono (by decide)) (lamS_by (sc := defScope s__law_refused_right) (by decide +kernel)) rfl (fun _ _ _ _ _ => rfl) (fun A outer s H E f c' hr2 => (pe_cmpR (lt_ownD CLt DLt (hr2.mono (by decide)) (passes_call (takes_of rfl rfl rfl rfl) (fun _ _ _ _ h => h))) (pv 1) (pv 2) (nomark _)))) pa_nil)))
      (pss_cons (ps_expr (pe_bm PySem.F.plainAttrs_list PySem.F.slot_list_append PySem.F.type_list_append mt_append (pv 3) (pa_cons (pe_heard (k := 8) (T := Tt K) (t := fun E => tOp (rCmp K (RA K) (spCmp (RA K) (BA K) gLe) E) (tVar 1) (tVar 2)) M FH Ct kitB noB hgd rfl TB rfl rfl (tt_mem K) (tt_only K) (hr.mono (by decide)) (lamS_by (sc := defScope s__law_refused_right) (by decide +kernel)) rfl (fun _ _ _ _ _ => rfl) (fun A outer s H E f c' hr2 => (pe_cmpR (le_ownD CLe DLe (hr2.mono (by decide)) (passes_call (takes_of rfl rfl rfl rfl) (fun _ _ _ _ h => h))) (pv 1) (pv 2) (nomark _)))) pa_nil)))
      (pss_cons (ps_expr (pe_bm PySem.F.plainAttrs_list PySem.F.slot_list_append PySem.F.type_list_append mt_append (pv 3) (pa_cons (pe_heard (k := 8) (T := Tt K) (t := fun E => tOp (rCmp K (RA K) (spCmp (RA K) (BA K) gGt) E) (tVar 1) (tVar 2)) M FH Ct kitB noB hgd rfl TB rfl rfl (tt_mem K) (tt_only K) (hr.mono (by decide)) (lamS_by (sc := defScope s__law_refused_right) (by decide +kernel)) rfl (fun _ _ _ _ _ => rfl) (fun A outer s H E f c' hr2 => (pe_cmpR (gt_ownD CGt DGt (hr2.mono (by decide)) (passes_call (takes_of rfl rfl rfl rfl) (fun _ _ _ _ h => h))) (pv 1) (pv 2) (nomark _)))) pa_nil)))
      (pss_cons (ps_expr (pe_bm PySem.F.plainAttrs_list PySem.F.slot_list_append PySem.F.type_list_append mt_append (pv 3) (pa_cons (pe_heard (k := 8) (T := Tt K) (t := fun E => tOp (rCmp K (RA K) (spCmp (RA K) (BA K) gGe) E) (tVar 1) (tVar 2)) M FH Ct kitB noB hgd rfl TB rfl rfl (tt_mem K) (tt_only K) (hr.mono (by decide)) (lamS_by (sc := defScope s__law_refused_right) (by decide +kernel)) rfl (fun _ _ _ _ _ => rfl) (fun A outer s H E f c' hr2 => (pe_cmpR (ge_ownD CGe DGe (hr2.mono (by decide)) (passes_call (takes_of rfl rfl rfl rfl) (fun _ _ _ _ h => h))) (pv 1) (pv 2) (nomark _)))) pa_nil)))
      (pss_one (ps_ret (pe_and (pe_cmpR (op_eqD hr.units) (pv 3) (pe_op op_rep (pe_lst (pa_cons (pe_tup (pa_cons pe_str (pa_cons (pe_callB (c_rep hr hgd) (by rfl) M.f_repr (by decide +kernel) (pa_cons (pv 2) pa_nil)) pa_nil))) pa_nil)) pe_int) (nomark _)) (pe_and (pe_cmpR op_isBl (pe_cmpR (eq_ownD CEq DEq (hr.mono (by decide)) pass0) (pv 1) (pv 2) (nomark _)) pe_bl (nomark _)) (pe_one (pe_cmpR op_isBl (pe_cmpR (ne_ownD NE DEq (hr.mono (by decide)) pass0) (pv 1) (pv 2) (nomark _)) pe_bl (nomark _)))))))))))), ?_⟩
    walk_at "rz"
    intro dd hdd
    rename_i t ht l hl
    walk_at "rz"
    rename_i L hL
    obtain ⟨sp0, gr0, hA, hA2⟩ := Pn.at_
    have s4 : Same H (upd (upd (upd (upd H t (.tup [.int 1, .int 2])) l (.lst [.int 1])) dd (.dK [])) L (.lst [.non, .str "1", .str "1/2", .ref t, .ref l, .ref dd, .bl true, .bl false])) := by walk_at "sm"
    have s3 : Same H (upd (upd (upd H t (.tup [.int 1, .int 2])) l (.lst [.int 1])) dd (.dK [])) := by walk_at "sm"
    have s1 : Same H (upd H t (.tup [.int 1, .int 2])) := by walk_at "sm"
    have P4 := Pn.mono s4 (Int.le_refl n)
    refine ⟨a, c, cs, n, L, _, rfl, P4, by omega, upd_same, new_ne s3 hA hL, by simp, (show 8 < 1000 by decide), fun j v H5 hj e5 P5 => ?_⟩
    have hla : l ≠ a := new_ne s1 hA hl
    have g1 : (upd (upd (upd (upd H t (.tup [.int 1, .int 2])) l (.lst [.int 1])) dd (.dK [])) L (.lst [.non, .str "1", .str "1/2", .ref t, .ref l, .ref dd, .bl true, .bl false])) t = some (.tup [.int 1, .int 2]) := by walk_at "hget"
    have g2 : (upd (upd (upd (upd H t (.tup [.int 1, .int 2])) l (.lst [.int 1])) dd (.dK [])) L (.lst [.non, .str "1", .str "1/2", .ref t, .ref l, .ref dd, .bl true, .bl false])) l = some (.lst [.int 1]) := by walk_at "hget"
    have g3 : (upd (upd (upd (upd H t (.tup [.int 1, .int 2])) l (.lst [.int 1])) dd (.dK [])) L (.lst [.non, .str "1", .str "1/2", .ref t, .ref l, .ref dd, .bl true, .bl false])) dd = some (.dK []) := by walk_at "hget"
    have r5 : RatOf (RA K) H5 x p q := (rx.mono s4).extP e5 P4
    have t5 : Tabs (Tt K) H5 := Az.Tabs.extP (tb.ext s4) e5 P4
    have hx : ∃ dt, OddS H5 v ∧ DtS K H5 v dt ∧ PyData.strOk dt.shown = true := by
      match j, hj with
      | 0, hj => cases hj; exact ⟨_, odd_non, dts_non, by decide +kernel⟩
      | 1, hj => cases hj; exact ⟨_, odd_str, dts_pl (.str _) rfl rfl (Nat.le_of_ble_eq_true rfl) (size_ok (by decide +kernel)), by decide +kernel⟩
      | 2, hj => cases hj; exact ⟨_, odd_str, dts_pl (.str _) rfl rfl (Nat.le_of_ble_eq_true rfl) (size_ok (by decide +kernel)), by decide +kernel⟩
      | 3, hj => cases hj; exact ⟨_, odd_tup (ext_tup e5 P4 g1), dts_tup (ext_tup e5 P4 g1) (.cons (.int _) (.cons (.int _) .nil)) rfl (by decide +kernel) (Nat.le_of_ble_eq_true rfl) (size_ok (by decide +kernel)), by decide +kernel⟩
      | 4, hj => cases hj; exact ⟨_, odd_lst (e5 _ _ g2 hla), dts_lst (e5 _ _ g2 hla) (.cons (.int _) .nil) rfl (by decide +kernel) (Nat.le_of_ble_eq_true rfl) (size_ok (by decide +kernel)), by decide +kernel⟩
      | 5, hj => cases hj; exact ⟨_, odd_dict (ext_at e5 P4 g3 fun _ z => by cases z), dts_dict (ext_at e5 P4 g3 fun _ z => by cases z), by decide +kernel⟩
      | 6, hj => cases hj; exact ⟨_, odd_bl, dts_b, by decide +kernel⟩
      | 7, hj => cases hj; exact ⟨_, odd_bl, dts_b, by decide +kernel⟩
      | j + 8, hj => simp at hj
    clear g1 g2 g3 hj P4 s4 s3 s1 rx tb
    obtain ⟨dt, hO, hD, hok⟩ := hx
    walk_at "rz"
    refine u_heard t5 hD (fun H1 E' Q' e1 told => ?_) (fun tt1 H6 e6 t6 h1 => ?_)
    · exact i_op (i_var rfl (i_var rfl (i_cmp T (r5.extN e1).1 (hO.ext e1).nv ⟨x, _, _, v, none, rfl, (r5.extN e1).1, (hO.ext e1).nv, told⟩)))
    walk_at "rz"
    rename_i LL hLL
    have n1 : tt1 ≠ LL := ne_of_none h1 hLL
    have E7 : ExtN H5 (upd H6 LL (.lst [.ref tt1])) := extN_put e6 e6 hLL
    have T7 : Tabs (Tt K) (upd H6 LL (.lst [.ref tt1])) := t6.ext (same_new (Same.refl _) hLL)
    have A1 : (upd H6 LL (.lst [.ref tt1])) tt1 = some (.tup [.str "ratio", .str dt.shown]) := get_put n1 h1
    have L7 : (upd H6 LL (.lst [.ref tt1])) LL = some (.lst [.ref tt1]) := upd_same
    generalize hG : upd H6 LL (.lst [.ref tt1]) = G7 at E7 T7 A1 L7 ⊢
    clear hG t6 h1 t5
    refine i_bm (i_var rfl ⟨.inl ⟨rfl, _, SqL.of L7⟩, i_cons (u_heard T7 (hD.ext E7) (fun H1 E' Q' e1 told => ?_) (fun tt2 F2 e2 t2 h2 => ?_))⟩)
    · exact i_op (i_var rfl (i_var rfl (i_cmp T (r5.extN (E7.trans e1)).1 (hO.ext (E7.trans e1)).nv ⟨x, _, _, v, none, rfl, (r5.extN (E7.trans e1)).1, (hO.ext (E7.trans e1)).nv, told⟩)))
    have l2 : F2 LL = some (.lst [.ref tt1]) := e2 _ _ L7 (fun _ z => by cases z)
    refine i_nil ⟨LL, _, _, rfl, rfl, l2, size_lt rfl, ?_⟩
    rw [show (([V.ref tt1] : List V) ++ [V.ref tt2]) = [V.ref tt1, V.ref tt2] from rfl]
    have n2 : tt2 ≠ LL := ne_of h2 l2 (fun z => by cases z)
    have E9 : ExtN H5 (upd F2 LL (.lst [.ref tt1, .ref tt2])) := extN_put (E7.trans e2) e6 hLL
    have T9 : Tabs (Tt K) (upd F2 LL (.lst [.ref tt1, .ref tt2])) := Tabs.put t2 l2 (fun _ z => by cases z) (fun _ _ z => by unfold CodeO at z; cases z)
    have A1 : (upd F2 LL (.lst [.ref tt1, .ref tt2])) tt1 = some (.tup [.str "ratio", .str dt.shown]) := get_put n1 (e2 _ _ A1 (fun _ z => by cases z))
    have A2 : (upd F2 LL (.lst [.ref tt1, .ref tt2])) tt2 = some (.tup [.str "ratio", .str dt.shown]) := get_put n2 h2
    have L9 : (upd F2 LL (.lst [.ref tt1, .ref tt2])) LL = some (.lst [.ref tt1, .ref tt2]) := upd_same
    generalize hG : upd F2 LL (.lst [.ref tt1, .ref tt2]) = G9 at A1 A2 E9 T9 L9 ⊢
    clear hG t2 h2 l2 e2 T7 E7 L7
    walk_at "rz"
    refine i_bm (i_var rfl ⟨.inl ⟨rfl, _, SqL.of L9⟩, i_cons (u_heard T9 (hD.ext E9) (fun H1 E' Q' e1 told => ?_) (fun tt3 F3 e3 t3 h3 => ?_))⟩)
    · exact i_op (i_var rfl (i_var rfl (i_cmp T (r5.extN (E9.trans e1)).1 (hO.ext (E9.trans e1)).nv ⟨x, _, _, v, none, rfl, (r5.extN (E9.trans e1)).1, (hO.ext (E9.trans e1)).nv, told⟩)))
    have l3 : F3 LL = some (.lst [.ref tt1, .ref tt2]) := e3 _ _ L9 (fun _ z => by cases z)
    refine i_nil ⟨LL, _, _, rfl, rfl, l3, size_lt rfl, ?_⟩
    rw [show (([V.ref tt1, V.ref tt2] : List V) ++ [V.ref tt3]) = [V.ref tt1, V.ref tt2, V.ref tt3] from rfl]
    have n3 : tt3 ≠ LL := ne_of h3 l3 (fun z => by cases z)
    have E10 : ExtN H5 (upd F3 LL (.lst [.ref tt1, .ref tt2, .ref tt3])) := extN_put (E9.trans e3) e6 hLL
    have T10 : Tabs (Tt K) (upd F3 LL (.lst [.ref tt1, .ref tt2, .ref tt3])) := Tabs.put t3 l3 (fun _ z => by cases z) (fun _ _ z => by unfold CodeO at z; cases z)
    have A1 : (upd F3 LL (.lst [.ref tt1, .ref tt2, .ref tt3])) tt1 = some (.tup [.str "ratio", .str dt.shown]) := get_put n1 (e3 _ _ A1 (fun _ z => by cases z))
    have A2 : (upd F3 LL (.lst [.ref tt1, .ref tt2, .ref tt3])) tt2 = some (.tup [.str "ratio", .str dt.shown]) := get_put n2 (e3 _ _ A2 (fun _ z => by cases z))
    have A3 : (upd F3 LL (.lst [.ref tt1, .ref tt2, .ref tt3])) tt3 = some (.tup [.str "ratio", .str dt.shown]) := get_put n3 h3
    have L10 : (upd F3 LL (.lst [.ref tt1, .ref tt2, .ref tt3])) LL = some (.lst [.ref tt1, .ref tt2, .ref tt3]) := upd_same
    generalize hG : upd F3 LL (.lst [.ref tt1, .ref tt2, .ref tt3]) = G10 at A1 A2 A3 E10 T10 L10 ⊢
    clear hG t3 h3 l3 e3 T9 E9 L9
    walk_at "rz"
    refine i_bm (i_var rfl ⟨.inl ⟨rfl, _, SqL.of L10⟩, i_cons (u_heard T10 (hD.ext E10) (fun H1 E' Q' e1 told => ?_) (fun tt4 F4 e4 t4 h4 => ?_))⟩)
    · exact i_op (i_var rfl (i_var rfl (i_cmp T (r5.extN (E10.trans e1)).1 (hO.ext (E10.trans e1)).nv ⟨x, _, _, v, none, rfl, (r5.extN (E10.trans e1)).1, (hO.ext (E10.trans e1)).nv, told⟩)))
    have l4 : F4 LL = some (.lst [.ref tt1, .ref tt2, .ref tt3]) := e4 _ _ L10 (fun _ z => by cases z)
    refine i_nil ⟨LL, _, _, rfl, rfl, l4, size_lt rfl, ?_⟩
    rw [show (([V.ref tt1, V.ref tt2, V.ref tt3] : List V) ++ [V.ref tt4]) = [V.ref tt1, V.ref tt2, V.ref tt3, V.ref tt4] from rfl]
    have n4 : tt4 ≠ LL := ne_of h4 l4 (fun z => by cases z)
    have E11 : ExtN H5 (upd F4 LL (.lst [.ref tt1, .ref tt2, .ref tt3, .ref tt4])) := extN_put (E10.trans e4) e6 hLL
    have T11 : Tabs (Tt K) (upd F4 LL (.lst [.ref tt1, .ref tt2, .ref tt3, .ref tt4])) := Tabs.put t4 l4 (fun _ z => by cases z) (fun _ _ z => by unfold CodeO at z; cases z)
    have A1 : (upd F4 LL (.lst [.ref tt1, .ref tt2, .ref tt3, .ref tt4])) tt1 = some (.tup [.str "ratio", .str dt.shown]) := get_put n1 (e4 _ _ A1 (fun _ z => by cases z))
    have A2 : (upd F4 LL (.lst [.ref tt1, .ref tt2, .ref tt3, .ref tt4])) tt2 = some (.tup [.str "ratio", .str dt.shown]) := get_put n2 (e4 _ _ A2 (fun _ z => by cases z))
    have A3 : (upd F4 LL (.lst [.ref tt1, .ref tt2, .ref tt3, .ref tt4])) tt3 = some (.tup [.str "ratio", .str dt.shown]) := get_put n3 (e4 _ _ A3 (fun _ z => by cases z))
    have A4 : (upd F4 LL (.lst [.ref tt1, .ref tt2, .ref tt3, .ref tt4])) tt4 = some (.tup [.str "ratio", .str dt.shown]) := get_put n4 h4
    have L11 : (upd F4 LL (.lst [.ref tt1, .ref tt2, .ref tt3, .ref tt4])) LL = some (.lst [.ref tt1, .ref tt2, .ref tt3, .ref tt4]) := upd_same
    generalize hG : upd F4 LL (.lst [.ref tt1, .ref tt2, .ref tt3, .ref tt4]) = G11 at A1 A2 A3 A4 E11 T11 L11 ⊢
    clear hG t4 h4 l4 e4 T10 E10 L10
    walk_at "rz"
    refine i_rep (hD.ext E11) ?_
    walk_at "rz"
    rename_i TP hTP LP hLP
    refine ⟨LP, 4, _, rfl, rfl, upd_same, by decide, by decide, size_ok rfl, fun L6 h6 => ?_⟩
    have q1 : Same G11 (upd (upd (upd G11 TP (.tup [.str "ratio", .str dt.shown])) LP (.lst [.ref TP])) L6 (.lst (List.replicate (Int.toNat 4) [V.ref TP]).flatten)) := by walk_at "sm"
    have B1 := q1 _ _ A1
    have B2 := q1 _ _ A2
    have B3 := q1 _ _ A3
    have B4 := q1 _ _ A4
    have BL := q1 _ _ L11
    have BT : (upd (upd (upd G11 TP (.tup [.str "ratio", .str dt.shown])) LP (.lst [.ref TP])) L6 (.lst (List.replicate (Int.toNat 4) [V.ref TP]).flatten)) TP = some (.tup [.str "ratio", .str dt.shown]) := by walk_at "hget"
    have dp : ∀ {tt : Addr}, (upd (upd (upd G11 TP (.tup [.str "ratio", .str dt.shown])) LP (.lst [.ref TP])) L6 (.lst (List.replicate (Int.toNat 4) [V.ref TP]).flatten)) tt = some (.tup [.str "ratio", .str dt.shown]) → Dp K (upd (upd (upd G11 TP (.tup [.str "ratio", .str dt.shown])) LP (.lst [.ref TP])) L6 (.lst (List.replicate (Int.toNat 4) [V.ref TP]).flatten)) (.ref tt) (.tuple [.str "ratio", .str dt.shown]) := fun h => .tup (SqT.of h) (.cons (.str _) (.cons (.str _) .nil))
    refine ⟨.list [.tuple [.str "ratio", .str dt.shown], .tuple [.str "ratio", .str dt.shown], .tuple [.str "ratio", .str dt.shown], .tuple [.str "ratio", .str dt.shown]], .list [.tuple [.str "ratio", .str dt.shown], .tuple [.str "ratio", .str dt.shown], .tuple [.str "ratio", .str dt.shown], .tuple [.str "ratio", .str dt.shown]],
      .lst (SqL.of BL) (.cons (dp B1) (.cons (dp B2) (.cons (dp B3) (.cons (dp B4) .nil)))), .lst (SqL.of upd_same) (.cons (dp BT) (.cons (dp BT) (.cons (dp BT) (.cons (dp BT) .nil)))), shp4 (by decide +kernel) hok, shp4 (by decide +kernel) hok, true, congrArg V.bl (eqv4 (by decide +kernel) hok), i_b2 (fun _ => ?_) (fun h => by cases h)⟩
    have E12 := E11.trans (.of q1)
    have T12 := T11.ext q1
    clear dp B1 B2 B3 B4 BL BT
    walk_at "rz"
    refine u_eqN (a := p) (b := q) T (r5.extN E12) (hO.ext E12).nv fun H13 z13 => ?_
    walk_at "rz"
    refine ⟨false, false, rfl, rfl, true, rfl, i_b2 (fun _ => ?_) (fun h => by cases h)⟩
    have E13 := E12.trans (.of z13)
    walk_at "rz"
    refine u_neN (a := p) (b := q) T (r5.extN E13) (hO.ext E13).nv fun H14 z14 => ?_
    walk_at "rz"
    refine ⟨true, true, rfl, rfl, ?_⟩
    exact k _ (P5.extN (E13.trans (.of z14))) ((T12.ext z13).ext z14)
end
end Az

namespace Az
open PySem PySem.Spec PyProof.Rows L2 AzX LamX Hz He
def spLaw (K : PySem.W.Frag) : Sp := fun vs H Q _ => ∃ (s : Addr) (ns : List Int), vs = [.ref s] ∧ SqL K H s (ns.map V.int) ∧ Tabs (Tt K) H ∧ ∀ H', Q (.bl true) H'
section
variable {P : Program} {w : World} {K : PySem.W.Frag} {mg : Str → Option Value} {base : Heap}
theorem ok_law {fd : FuncData} (M : MT mg K) (T : RT K (RA K)) (O : OrdT P w K mg base) (DPen : Dn P w K mg base CX0 1 (a__law_pen K) ["_law_script"] [] (spPen K)) (DDr : Dn P w K mg base CX0 1 (a__law_draw K) ["_law_pen_here", "_law_many"] [] spDraw) (DInt : Dn P w K mg base CX0 3 (a__law_int K) ["_law_pen_here"] [] spLInt) (DPair : Dn P w K mg base CX0 4 (a__law_pair K) ["_law_pen_here"] [] spLPair)
    (DOr : DnG P w K mg base CX0 10 (a__law_order_right K) ["_law_first", "_law_last", "_law_whole"] [] spOrd) (DRf : DnG P w K mg base CX0 12 (a__law_refused_right K) ["_law_pen_here", "_law_one"] [] (spRef K)) (F : FnP K d_law fd) : FnG P w K mg base CX0 13 (a_law K) fd ["_law_script"] (spLaw K) := by
  obtain ⟨MR, DIni, DLt, DGt, DLe, DGe, DEq, DBo, DSt, DFl, DCe, CLt, CGt, CLe, CGe, CEq, CBo, CSt, NE, MFl, MCe⟩ := O
  refine okG (fun_of F rfl) sc_law (fun vs H Q E h => ?_) (fun cdv A outer s H vs Q E hr hgd h => ?_)
  · obtain ⟨s, ns, rfl, _⟩ := h
    rfl
  · obtain ⟨sa, ns, rfl, hS, tb, k⟩ := h
    refine ⟨_, (pss_cons (ps_set (i := 1) sc_law.nd rfl (Or.inl rfl) (pe_callD DPen (hr.mono (by decide)) rfl M.g__law_pen pass0 (pa_cons (pv 0) pa_nil)))
      (pss_cons (ps_for PassesOwn.never rfl (pi_range1 (by rfl) M.f_range (pa_cons pe_int pa_nil)) (pg_name (i := 2) sc_law.nd rfl (Or.inl rfl))
          (pss_cons (ps_par3 (i := 3) (j := 4) (l := 5) (by rfl) sc_law.nd rfl rfl rfl (by decide) (by decide) (by decide) rfl rfl rfl (pa_cons (pe_callD DPair (hr.mono (by decide)) rfl M.g__law_pair pass0 (pa_cons (pv 1) pa_nil)) (pa_cons (pe_callD DPair (hr.mono (by decide)) rfl M.g__law_pair pass0 (pa_cons (pv 1) pa_nil)) (pa_cons (pe_callD DInt (hr.mono (by decide)) rfl M.g__law_int pass0 (pa_cons (pv 1) pa_nil)) pa_nil))) (by rfl))
          (C8.pss_cut (ps_if (pt_cmpR op_eq (pe_callD DDr (hr.mono (by decide)) rfl M.g__law_draw pass0 (pa_cons (pv 1) (pa_cons pe_int pa_nil))) pe_int (nomark _))
              (pss_one (ps_set (i := 4) sc_law.nd rfl (Or.inl rfl) (pe_tup (pa_cons (pe_op op_sub (pe_op op_add (pe_op op_mulW (pe_ix ix_tup (pv 3) pe_int (fun _ _ => rfl)) (pe_ix ix_tup (pv 4) pe_int (fun _ _ => rfl))) (pe_callD DDr (hr.mono (by decide)) rfl M.g__law_draw pass0 (pa_cons (pv 1) (pa_cons pe_int pa_nil)))) pe_int) (pa_cons (pe_op op_mulW (pe_ix ix_tup (pv 3) pe_int (fun _ _ => rfl)) (pe_ix ix_tup (pv 4) pe_int (fun _ _ => rfl))) pa_nil)))))
              pss_nil)
          (C8.pss_cut (ps_if (pt_cmpR op_eq (pe_callD DDr (hr.mono (by decide)) rfl M.g__law_draw pass0 (pa_cons (pv 1) (pa_cons pe_int pa_nil))) pe_int (nomark _))
              (pss_one (ps_set (i := 5) sc_law.nd rfl (Or.inl rfl) (pe_op op_add (pe_op op_fdivNW (pe_ix ix_tup (pv 3) pe_int (fun _ _ => rfl)) (pe_ix ix_tup (pv 3) pe_int (fun _ _ => rfl))) (pe_callD DDr (hr.mono (by decide)) rfl M.g__law_draw pass0 (pa_cons (pv 1) (pa_cons pe_int pa_nil))))))
              pss_nil)
          (pss_one (ps_if (PW.pt (pw_or (pt_not (pt_val (pe_callGD DOr (hr.mono (by decide)) hgd rfl M.g__law_order_right pass0 (pa_cons (pv 3) (pa_cons (pv 4) (pa_cons (pv 5) pa_nil)))))) (pw_or1 (pt_not (pt_val (pe_callGD DRf (hr.mono (by decide)) hgd rfl M.g__law_refused_right pass0 (pa_cons (pv 1) (pa_cons (pe_makeD (dv := []) MR DIni 1 (hr.mono (by decide)) rfl M.g_Ratio passL (pa_cons (pe_ix ix_tup (pv 4) pe_int (fun _ _ => rfl)) (pa_cons (pe_ix ix_tup (pv 4) pe_int (fun _ _ => rfl)) pa_nil))) pa_nil))))))))
            (pss_one (ps_ret pe_bl))
            pss_nil))))))
      (pss_cons (ps_set (i := 6) sc_law.nd rfl (Or.inl rfl) (pe_lst (pa_cons (pe_cmpR (eq_ownD CEq DEq (hr.mono (by decide)) pass0) (pe_makeD (dv := [V.int (1)]) MR DIni 0 (hr.mono (by decide)) rfl M.g_Ratio passL (pa_cons pe_int pa_nil)) pe_int (nomark _)) (pa_cons (pe_cmpR (eq_ownD CEq DEq (hr.mono (by decide)) pass0) (pe_makeD (dv := [V.int (1)]) MR DIni 0 (hr.mono (by decide)) rfl M.g_Ratio passL (pa_cons pe_int pa_nil)) pe_bl (nomark _)) (pa_cons (pe_cmpR (eq_ownD CEq DEq (hr.mono (by decide)) pass0) (pe_makeD (dv := [V.int (1)]) MR DIni 0 (hr.mono (by decide)) rfl M.g_Ratio passL (pa_cons pe_int pa_nil)) pe_bl (nomark _)) (pa_cons (pe_methD0 (pe_makeD (dv := []) MR DIni 1 (hr.mono (by decide)) rfl M.g_Ratio passL (pa_cons (pe_un un_neg pe_int) (pa_cons pe_int pa_nil))) T.cls MFl DFl (hr.mono (by decide)) pass0) (pa_cons (pe_methD0 (pe_makeD (dv := []) MR DIni 1 (hr.mono (by decide)) rfl M.g_Ratio passL (pa_cons (pe_un un_neg pe_int) (pa_cons pe_int pa_nil))) T.cls MCe DCe (hr.mono (by decide)) pass0) (pa_cons (pe_cmpR (eq_ownD CEq DEq (hr.mono (by decide)) pass0) (pe_makeD (dv := [V.int (1)]) MR DIni 0 (hr.mono (by decide)) rfl M.g_Ratio passL (pa_cons pe_int pa_nil)) pe_int (nomark _)) pa_nil))))))))
      (pss_one (ps_ret (pe_and (pe_cmpR (op_eqD hr.units) (pv 6) (pe_lst (pa_cons pe_bl (pa_cons pe_bl (pa_cons pe_bl (pa_cons (pe_un un_neg pe_int) (pa_cons (pe_un un_neg pe_int) (pa_cons pe_bl pa_nil))))))) (nomark _)) (pe_and (pe_notTr (tru_ownD CBo DBo (hr.mono (by decide)) pass0) (pe_makeD (dv := [V.int (1)]) MR DIni 0 (hr.mono (by decide)) rfl M.g_Ratio passL (pa_cons pe_int pa_nil))) (pe_one (pe_chain (gt_ownRD CLt T.noInt DLt (hr.mono (by decide)) passL) (ge_ownD CGe DGe (hr.mono (by decide)) passL) pe_int (pe_makeD (dv := []) MR DIni 1 (hr.mono (by decide)) rfl M.g_Ratio passL (pa_cons pe_int (pa_cons pe_int pa_nil))) (pe_makeD (dv := []) MR DIni 1 (hr.mono (by decide)) rfl M.g_Ratio passL (pa_cons pe_int (pa_cons pe_int pa_nil)))))))))))), ?_⟩
    walk_at "rz"
    refine ⟨sa, ns, rfl, hS, fun a c cs H1 _ _ z1 Pn => ?_⟩
    walk_at "rx1"
    refine ⟨10, rfl, by decide, by decide, for_range (lo := 0) (n := 10) (fun n σ H' => (∃ x2 x3 x4 x5 : Option V, σ = [some (.ref sa), some (.ref a), x2, x3, x4, x5, none]) ∧ Pen H' a c cs (20 * n) ∧ Tabs (Tt K) H') ⟨⟨_, _, _, _, rfl⟩, Pn.le (by omega), tb.ext z1⟩ ?_ ?_⟩
    · rintro n σ H2 hn ⟨⟨x2, x3, x4, x5, rfl⟩, P2, T2⟩
      walk_at "rz"
      refine ⟨a, c, cs, 20 * n, rfl, P2, by omega, fun i1 j1 t1 H3 hi1 hj1 hk1 e3 P3 g1 n1 => ?_⟩
      walk_at "rz"
      refine ⟨a, c, cs, 20 * n + 6, rfl, P3, by omega, fun i2 j2 t2 H4 hi2 hj2 hk2 e4 P4 g2 n2 => ?_⟩
      walk_at "rz"
      refine ⟨a, c, cs, 20 * n + 6 + 6, rfl, P4, by omega, fun w1 H5 hw1 e5 P5 => ?_⟩
      have g1 := ext_tup e5 P4 (ext_tup e4 P3 g1)
      have g2 := ext_tup e5 P4 g2
      have T5 := Az.Tabs.extP (Az.Tabs.extP (Az.Tabs.extP T2 e3 P2) e4 P3) e5 P4
      walk_at "rz"
      have hI1 : Sm i1 := sm_le hi1 (by decide)
      have hJ1 : Sm j1 := sm_le hk1 (by decide)
      have hI2 : Sm i2 := sm_le hi2 (by decide)
      have hJ2 : Sm j2 := sm_le hk2 (by decide)
      refine ⟨fun σ' H' => (∃ (t2' : Addr) (c2 d2 : Int), σ' = [some (.ref sa), some (.ref a), some (.int (0 + (n : Int))), some (.ref t1), some (.ref t2'), some (.int w1), none] ∧ H' t2' = some (.tup [.int c2, .int d2]) ∧ 0 < d2 ∧ c2.natAbs < 2 ^ 260 ∧ d2.natAbs < 2 ^ 260) ∧ H' t1 = some (.tup [.int i1, .int j1]) ∧ Pen H' a c cs (20 * n + 17) ∧ Tabs (Tt K) H', ?_, ?_⟩
      · walk_at "rz"
        refine ⟨a, c, cs, 20 * n + 6 + 6 + 3, 3, rfl, P5, by omega, by decide, by decide, fun r H6 r0 r1 e6 P6 => ?_⟩
        have g1' := ext_tup e6 P5 g1
        have g2' := ext_tup e6 P5 g2
        have T6 := Az.Tabs.extP T5 e6 P5
        walk_at "rz"
        refine i_dec (fun _ => ?_) (fun _ => ?_)
        · walk_at "rz"
          refine ⟨a, c, cs, 20 * n + 6 + 6 + 3 + 1, 3, rfl, P6, by omega, by decide, by decide, fun r2 H7 r20 r21 e7 P7 => ?_⟩
          have g1'' := ext_tup e7 P6 g1'
          have g2'' := ext_tup e7 P6 g2'
          have T7 := Az.Tabs.extP T6 e7 P6
          walk_at "rz"
          rename_i tN htN
          have sn : Same H7 (upd H7 tN (.tup [.int (i1 * j2 + r2 - 1), .int (j1 * j2)])) := same_new (Same.refl _) htN
          refine ⟨⟨tN, _, _, rfl, upd_same, Int.mul_pos hj1 hj2, ?_, lt_up (lt_mul hk1 hk2) (by decide)⟩, sn _ _ g1'', P7.mono sn (by omega), T7.ext sn⟩
          have b1 : (i1 * j2).natAbs < 2 ^ 256 := lt_mul hi1 hk2
          have b2 : (r2 - 1).natAbs < 2 ^ 256 := Nat.lt_of_le_of_lt (show (r2 - 1).natAbs ≤ 3 by omega) (by decide +kernel)
          have b3 := lt_up (m := 260) (lt_add b1 b2) (by decide)
          rw [show i1 * j2 + r2 - 1 = i1 * j2 + (r2 - 1) by omega]
          exact b3
        · walk_at "rz"
          exact ⟨⟨t2, i2, j2, rfl, g2', hj2, lt_up hi2 (by decide), lt_up hk2 (by decide)⟩, g1', P6.le (by omega), T6⟩
      clear g1 g2 P5 T5
      rintro σ' H6 ⟨⟨t2', c2, d2, rfl, g2, hd2, hc2, hdd2⟩, g1, P6, T6⟩
      refine ⟨fun σ' H' => (∃ w2 : Int, σ' = [some (.ref sa), some (.ref a), some (.int (0 + (n : Int))), some (.ref t1), some (.ref t2'), some (.int w2), none] ∧ w2.natAbs < 2 ^ 260) ∧ H' t2' = some (.tup [.int c2, .int d2]) ∧ H' t1 = some (.tup [.int i1, .int j1]) ∧ Pen H' a c cs (20 * n + 19) ∧ Tabs (Tt K) H', ?_, ?_⟩
      · walk_at "rz"
        refine ⟨a, c, cs, 20 * n + 17, 4, rfl, P6, by omega, by decide, by decide, fun r H7 r0 r1 e7 P7 => ?_⟩
        have g1' := ext_tup e7 P6 g1
        have g2' := ext_tup e7 P6 g2
        have T7 := Az.Tabs.extP T6 e7 P6
        walk_at "rz"
        refine i_dec (fun _ => ?_) (fun _ => ?_)
        · walk_at "rz"
          refine i_I ⟨Int.ne_of_gt hj1, log_lt (lt_up hk1 (by decide))⟩ ?_
          walk_at "rz"
          refine ⟨a, c, cs, 20 * n + 17 + 1, 2, rfl, P7, by omega, by decide, by decide, fun r2 H8 r20 r21 e8 P8 => ?_⟩
          walk_at "rz"
          refine ⟨⟨_, rfl, ?_⟩, ext_tup e8 P7 g2', ext_tup e8 P7 g1', P8.le (by omega), Az.Tabs.extP T7 e8 P7⟩
          have b1 : (i1.fdiv j1).natAbs < 2 ^ 128 := Nat.lt_of_le_of_lt (fdiv_abs hj1) hi1
          have b2 : r2.natAbs < 2 ^ 128 := Nat.lt_of_le_of_lt (show r2.natAbs ≤ 3 by omega) (by decide +kernel)
          exact lt_up (lt_add b1 b2) (by decide)
        · walk_at "rz"
          exact ⟨⟨w1, rfl, lt_up hw1 (by decide)⟩, g2', g1', P7.le (by omega), T7⟩
      clear g1 g2 P6 T6
      rintro σ' H7 ⟨⟨w2, rfl, hw2⟩, g2, g1, P7, T7⟩
      walk_at "rz"
      refine ⟨t1, t2', i1, j1, c2, d2, w2, rfl, g1, g2, hj1, hd2, lt_up hi1 (by decide), lt_up hk1 (by decide), lt_up hc2 (by decide), lt_up hdd2 (by decide), lt_up hw2 (by decide), fun H8 z8 => ?_⟩
      walk_at "rz"
      refine i_b2 (fun h => by cases h) (fun _ => ?_)
      walk_at "rz"
      refine u_rat hd2 (sm_le hdd2 (by decide)) fun x3 H9 z9 r3 => ?_
      walk_at "rz"
      refine ⟨a, c, cs, 20 * n + 19, x3, c2, d2, rfl, P7.mono (z8.trans z9) (Int.le_refl _), by omega, r3, (T7.ext z8).ext z9, fun H10 P10 T10 => ?_⟩
      walk_at "rz"
      refine i_b2 (fun h => by cases h) (fun _ => ?_)
      walk_at "rz"
      exact ⟨⟨_, _, _, _, rfl⟩, P10.le (by omega), T10⟩
    · rintro σ H2 ⟨⟨x2, x3, x4, x5, rfl⟩, P2, T2⟩
      have sn : ∀ {z : Int}, z.natAbs ≤ 10 → Sm z := fun h => Nat.lt_of_le_of_lt h (by decide +kernel)
      walk_at "rz"
      refine u_rat1 fun y1 J1 z1 r1 => ?_
      walk_at "rz"
      refine u_eq (a := 2) (b := 1) (c := 2) (d := 1) (r := true) T r1 (.int 2) rfl fun J2 z2 => ?_
      walk_at "rz"
      refine u_rat1 fun y2 J3 z3 r2 => ?_
      walk_at "rz"
      refine u_eqN (a := 1) (b := 1) T r2 (.odd rfl (by simp [oddTys])) fun J4 z4 => ?_
      walk_at "rz"
      refine u_rat1 fun y3 J5 z5 r3 => ?_
      walk_at "rz"
      refine u_eqN (a := 0) (b := 1) T r3 (.odd rfl (by simp [oddTys])) fun J6 z6 => ?_
      walk_at "rz"
      refine u_rat (a := -7) (b := 2) (by decide) (sn (by decide)) fun y4 J7 z7 r4 => ?_
      walk_at "rz"
      refine i_atR r4.1 (i_nil ⟨y4, _, _, rfl, r4.1, smal_rU (by decide) (sn (by decide)), ?_⟩)
      dsimp only
      rw [show (rO (-7) 2).fdiv (rU (-7) 2) = -4 by decide +kernel]
      walk_at "rz"
      refine u_rat (a := -7) (b := 2) (by decide) (sn (by decide)) fun y5 J8 z8 r5 => ?_
      walk_at "rz"
      refine i_atR r5.1 (i_nil ⟨y5, _, _, rfl, r5.1, smal_rU (by decide) (sn (by decide)), ?_⟩)
      dsimp only
      rw [show -(-rO (-7) 2).fdiv (rU (-7) 2) = -3 by decide +kernel]
      walk_at "rz"
      refine u_rat1 fun y6 J9 z9 r6 => ?_
      walk_at "rz"
      refine u_eq (a := 0) (b := 1) (c := 0) (d := 1) (r := true) T r6 (.int 0) rfl fun J10 z10 => ?_
      walk_at "rz"
      rename_i L1 hL1 L2 hL2
      have pl : PlAll [.bl true, .bl false, .bl false, .int (-4), .int (-3), .bl true] [.bool true, .bool false, .bool false, .int (-4), .int (-3), .bool true] := .cons (.bl _) (.cons (.bl _) (.cons (.bl _) (.cons (.int _) (.cons (.int _) (.cons (.bl _) .nil)))))
      refine ⟨.list [.bool true, .bool false, .bool false, .int (-4), .int (-3), .bool true], .list [.bool true, .bool false, .bool false, .int (-4), .int (-3), .bool true], .lst (SqL.of (by walk_at "hget")) pl.dp, .lst (SqL.of (by walk_at "hget")) pl.dp, by decide +kernel, by decide +kernel, true, by decide +kernel, i_b2 (fun _ => ?_) (fun h => by cases h)⟩
      walk_at "rz"
      refine i_notR ?_
      walk_at "rz"
      refine u_rat1 fun y7 J11 z11 r7 => ?_
      refine i_truO r7.1 ⟨y7, _, _, rfl, r7.1, trivial, false, by rw [rO_one]; rfl, true, rfl, i_b2 (fun _ => ?_) (fun h => by cases h)⟩
      walk_at "rz"
      refine u_rat (a := 5) (b := 2) (by decide) (sn (by decide)) fun y8 J12 z12 r8 => ?_
      walk_at "rz"
      refine u_cmpR (a := 5) (b := 2) (r := true) r8 (sn (by decide)) (sn (by decide)) (sn (by decide)) ((rgt1 (by decide)).trans (by decide)) fun J13 z13 => ⟨true, rfl, i_b2 (fun _ => ?_) (fun h => by cases h)⟩
      walk_at "rz"
      refine u_rat (a := 5) (b := 2) (by decide) (sn (by decide)) fun y9 J14 z14 r9 => ?_
      refine u_cmp (a := 5) (b := 2) (c := 5) (d := 2) (r := true) T (by walk_at "fact") (.rat r9) (sn (by decide)) (sn (by decide)) (sn (by decide)) (sn (by decide)) ((dge (by decide) (by decide)).trans (by decide)) fun J15 z15 => ?_
      exact k _
end
end Az

/-! Facts of the top as Bools, and the law's end over them. -/
namespace Hz
open PySem PySem.Spec PyProof.Rows L2 He Az AzX
/-- C.m is a staticmethod -/
def smB (K : PySem.W.Frag) (C m : Str) : Bool := (match PySem.W.findCls K (.ref (ga K C)) (.type "type") m with
  | some (.get g a o t) => decide (g = .builtin "staticmethod.__get__") && (decide (a = .ref (ma K (ga K C) m)) && (decide (o = .none) && decide (t = .ref (ga K C))))
  | _ => false) && ((match PySem.W.recIn K (ma K (ga K C) m) "staticmethod" with
  | some (.ref g :: _) => g == sAd K C m
  | _ => false) && PySem.W.keepIn K (.ref (sAd K C m)))
theorem smB_ok {K : PySem.W.Frag} {C m : Str} (h : smB K C m = true) : SMet K (ga K C) (.type "type") m (ma K (ga K C) m) (sAd K C m) := by
  obtain ⟨h1, h⟩ := ba h
  obtain ⟨h2, h3⟩ := ba h
  refine ⟨?_, ?_, h3⟩
  · split at h1
    · rename_i g a o t e
      obtain ⟨a1, h1⟩ := ba h1
      obtain ⟨a2, h1⟩ := ba h1
      obtain ⟨a3, a4⟩ := ba h1
      rw [e, of_decide_eq_true a1, of_decide_eq_true a2, of_decide_eq_true a3, of_decide_eq_true a4]
    · cases h1
  · split at h2
    · rename_i g r e
      exact ⟨r, by rw [e, beq_iff_eq.mp h2]⟩
    · cases h2
def crB (K : PySem.W.Frag) (C : Str) : Bool := PySem.W.readsIn K (ga K C) (.type "type") && decide (PySem.W.specialIn K (.ref (ga K C)) "__getattribute__" = some (some (.builtin "type.__getattribute__")))
theorem crB_ok {K : PySem.W.Frag} {C : Str} (h : crB K C = true) : ClX.CRead K (ga K C) (.type "type") := by
  obtain ⟨h1, h2⟩ := ba h
  exact ⟨h1, of_decide_eq_true h2⟩
def rtB (K : PySem.W.Frag) (x : Str) : Bool := (Fa.cls x).ok K && ((Fa.noat x "over").ok K && ((Fa.noat x "under").ok K && (decide (PySem.W.findIn K (.ref (ga K x)) "__class__" = some (some (.builtin "object.__class__"))) &&
  (decide (PySem.W.specialIn K (.builtin "object.__class__") "__get__" = some (some (.builtin "getset_descriptor.__get__"))) && (decide (PySem.W.takesIn K (.builtin "object.__class__") = some true) && (decide (PySem.W.mroIn K (ga K x) (.type "object") = some true) &&
  (decide (PySem.W.kitOne K (.ref (ga K x)) (.ref (ga K x)) = some true) && (decide (PySem.W.kitOne K (.ref (ga K x)) (.type "int") = some false) && ((("int" :: oddTys).all fun t => decide (PySem.W.kitOne K (.type t) (.ref (ga K x)) = some false)) &&
  ((("int" :: oddTys).all fun t => decide (PySem.W.subIn K (.type t) (.ref (ga K x)) = some false)) && decide (PySem.W.subIn K (.ref (ga K x)) (.type "int") = some false)))))))))))
theorem rtB_ok {K : PySem.W.Frag} {x : Str} (h : rtB K x = true) : RT K (ga K x) := by
  obtain ⟨h1, h⟩ := ba h
  obtain ⟨h2, h⟩ := ba h
  obtain ⟨h3, h⟩ := ba h
  obtain ⟨h4, h⟩ := ba h
  obtain ⟨h5, h⟩ := ba h
  obtain ⟨h6, h⟩ := ba h
  obtain ⟨h7, h⟩ := ba h
  obtain ⟨h8, h⟩ := ba h
  obtain ⟨h9, h⟩ := ba h
  obtain ⟨h10, h⟩ := ba h
  obtain ⟨h11, h12⟩ := ba h
  exact ⟨cls_ok h1, noat_ok h2, noat_ok h3, of_decide_eq_true h4, of_decide_eq_true h5, of_decide_eq_true h6, of_decide_eq_true h7, of_decide_eq_true h8, of_decide_eq_true h9, fun t ht => of_decide_eq_true (List.all_eq_true.mp h10 t ht), fun t ht => of_decide_eq_true (List.all_eq_true.mp h11 t ht), of_decide_eq_true h12⟩
def neB (K : PySem.W.Frag) (x : Str) : Bool := decide (PySem.W.mroIn K (ga K x) (.type "object") = some true) && (decide (PySem.W.findIn K (.ref (ga K x)) "__ne__" = some (some (.builtin "object.__ne__"))) && ((Fa.meth x "__eq__").ok K && decide (PySem.W.subIn K (.ref (ga K x)) (.type "int") = some false)))
theorem neB_ok {K : PySem.W.Frag} {x : Str} (h : neB K x = true) : NeC K (ga K x) (ma K (ga K x) "__eq__") := by
  obtain ⟨h1, h⟩ := ba h
  obtain ⟨h2, h⟩ := ba h
  obtain ⟨h3, h4⟩ := ba h
  have m := meth_ok h3
  exact ⟨of_decide_eq_true h1, of_decide_eq_true h2, m.at_, m.fn, of_decide_eq_true h4⟩
theorem cm_of {K : PySem.W.Frag} {x m : Str} (h : (Fa.meth x m).ok K = true) : CmC K (ga K x) m (ma K (ga K x) m) := ⟨(meth_ok h).at_, (meth_ok h).fn⟩
/-- an own error, raised and caught -/
def catB (K : PySem.W.Frag) (S x : Str) : Bool := decide (PySem.W.exmOne K (.ref (ga K x)) (.ref (ga K S)) = some true) && (xfB K (ga K x) && (decide (PySem.W.findIn K (.ref (ga K x)) "__class__" = some (some (.builtin "object.__class__"))) &&
  (decide (PySem.W.specialIn K (.builtin "object.__class__") "__get__" = some (some (.builtin "getset_descriptor.__get__"))) && (decide (PySem.W.takesIn K (.builtin "object.__class__") = some true) && (decide (PySem.W.mroIn K (ga K x) (.type "object") = some true) &&
  (decide (PySem.W.kitOne K (.ref (ga K x)) (.ref (ga K x)) = some true) && decide (PySem.W.typeIn K (.ref (ga K x)) = some (.type "type"))))))))
theorem catB_ok {K : PySem.W.Frag} {S x : Str} (h : catB K S x = true) : CatchT K (ga K S) (ga K x) ∧ PySem.W.kitOne K (.ref (ga K x)) (.ref (ga K x)) = some true ∧ PySem.W.typeIn K (.ref (ga K x)) = some (.type "type") := by
  obtain ⟨h1, h⟩ := ba h
  obtain ⟨h2, h⟩ := ba h
  obtain ⟨h3, h⟩ := ba h
  obtain ⟨h4, h⟩ := ba h
  obtain ⟨h5, h⟩ := ba h
  obtain ⟨h6, h⟩ := ba h
  obtain ⟨h7, h8⟩ := ba h
  have xf := xfB_ok h2
  exact ⟨⟨of_decide_eq_true h1, ⟨xf.ga, xf.gg, xf.exC, xf.hdC, of_decide_eq_true h3, of_decide_eq_true h4, of_decide_eq_true h5, of_decide_eq_true h6⟩, xf⟩, of_decide_eq_true h7, of_decide_eq_true h8⟩
theorem mOf1 {f : Str} {v : Value} : mOf [f] [v] = fun y => if y = f then some v else none := by
  funext y
  show List.lookup y [(f, v)] = _
  by_cases h : y = f
  · rw [if_pos h, h]; simp [List.lookup]
  · rw [if_neg h]
    have e : (y == f) = false := beq_eq_false_iff_ne.mpr h
    simp [List.lookup, e]
end Hz
namespace Az
open PySem PySem.Spec PyProof.Rows L2 LamX
/-- a law's end: the written part is told by the Hook -/
theorem walk_ofGE {l : PySem.W.OpenLaw} {n k : Nat} {q : Program} {loose : List Str} {XP : (Str → Option Value) → Heap → Prop} {YP : World → Heap → Prop} {d : DefRec} {CX : World → CXT} {x : Str}
    (hn : l.most = some n) (hn2 : n ≤ sizeLine) (hdf : d.params.defaults = []) (hr : Room k callerA)
    (F : ∀ (w : World) (mg : Str → Option Value) (fa : Addr) (h : Heap), YP w h → h.Ns mainGlobals mg → mg d.name = some (.ref fa) → ∃ K : PySem.W.Frag, K.In h ∧ LawAtG l w K (CX w) k n x mg fa h)
    (hCX : ∀ (w : World) (H : Hp) (s : Shared) (e : Value) (s' : Shared), CX w [] H s (fun _ _ _ => False) e s' → False) :
    PySem.W.WalkO q loose XP YP l.row.toRowW d [] (fun f vs => PySem.call f vs) := by
  refine Att.attach_callB hn hdf fun w s₀ s₁ mg mb fa o pm cd doc a vs ns G Y ho hd hcd hmg hobj hints hlen hbits hg => ?_
  obtain ⟨K, KX, fd, cs, sp, hT, nT, C, hb, hsp, hF⟩ := F w mg fa _ Y G.T.g hmg
  exact law_callG KX G.T.g G.T.b G.T.builtins G.T.nolimit hg hT nT C G.T.bmain hobj hints (Nat.le_trans hlen hn2) hr hF hb (fun H hH hS => hsp H a ns hlen hbits hH hS) fun H e s' => hCX w H s₁ e s'
end Az

set_option maxHeartbeats 0
namespace Az
open PySem PySem.Spec PyProof.Rows L2 He Hz AzX LamX
def fz : List DefZ := [d_is_integer, d_divisor, d_is_number, d_Ratio___init__, d_Ratio_of, d_Ratio___lt__, d_Ratio___gt__, d_Ratio___le__, d_Ratio___ge__, d_Ratio___eq__, d_Ratio___bool__, d_Ratio___str__, d_Ratio_floor, d_Ratio_ceiling, d_is_same, d_BadRatio___init__, d__law_pen, d__law_draw, d__law_pick, d__law_int, d__law_pair, d__law_heard, d__law_order_right, d__law_refused_right, d_law]
def tf : List Defn := [("_law_refused_right", none)]
def names0 : List PySem.Str := ["_wall", "__name__", "SnapError", "BadRatio", "BadText", "FIGURES", "integer_in", "Words", "is_integer", "divisor", "is_number", "Ratio", "is_same", "some_numbers", "ratio_in", "take_ratio", "_law_pen", "_law_draw", "_law_pick", "_law_int", "_law_pair", "_law_is", "_law_heard", "_law_order_right", "_law_refused_right"]
def names : List PySem.Str := names0
def ex0 (K : PySem.W.Frag) : List Bool := [(Fa.glo "_wall").ok K, (Fa.glo "SnapError").ok K, (Fa.glo "BadRatio").ok K, (Fa.glo "BadText").ok K, (Fa.glo "integer_in").ok K, (Fa.glo "Words").ok K, (Fa.glo "is_integer").ok K, (Fa.glo "divisor").ok K, (Fa.glo "is_number").ok K, (Fa.glo "Ratio").ok K, (Fa.glo "is_same").ok K, (Fa.glo "some_numbers").ok K, (Fa.glo "ratio_in").ok K, (Fa.glo "take_ratio").ok K, (Fa.glo "_law_pen").ok K, (Fa.glo "_law_draw").ok K, (Fa.glo "_law_pick").ok K, (Fa.glo "_law_int").ok K, (Fa.glo "_law_pair").ok K, (Fa.glo "_law_is").ok K, (Fa.glo "_law_heard").ok K, (Fa.glo "_law_order_right").ok K, (Fa.glo "_law_refused_right").ok K, (Fa.glo "law").ok K, (Fa.free "ValueError").ok K]
def ex1 (K : PySem.W.Frag) : List Bool := [(Fa.free "abs").ok K, (Fa.free "all").ok K, (Fa.free "bool").ok K, (Fa.free "classmethod").ok K, (Fa.free "int").ok K, (Fa.free "isinstance").ok K, (Fa.free "len").ok K, (Fa.free "list").ok K, (Fa.free "property").ok K, (Fa.free "range").ok K, (Fa.free "repr").ok K, (Fa.free "staticmethod").ok K, (Fa.free "str").ok K, (Fa.free "super").ok K, (Fa.free "tuple").ok K, rtB K "Ratio", crB K "Ratio", smB K "Ratio" "of", (Fa.mkr "Ratio").ok K, (Fa.meth "Ratio" "__lt__").ok K, (Fa.meth "Ratio" "__gt__").ok K, (Fa.meth "Ratio" "__le__").ok K, (Fa.meth "Ratio" "__ge__").ok K, (Fa.meth "Ratio" "__eq__").ok K, (Fa.meth "Ratio" "__bool__").ok K]
def ex2 (K : PySem.W.Frag) : List Bool := [(Fa.meth "Ratio" "__str__").ok K, (Fa.meth "Ratio" "floor").ok K, (Fa.meth "Ratio" "ceiling").ok K, neB K "Ratio", errB (PySem.Challenge.pw_allzooms_k04_ratios_in_order.main.file : Str) K "BadRatio" ["value"], catB K "SnapError" "BadRatio"]
def ex (K : PySem.W.Frag) : List Bool := ex0 K ++ ex1 K ++ ex2 K
abbrev RW : PySem.W.OpenRow := PySem.W.OpenLaw.row PySem.Challenge.rw_allzooms_k04_ratios_in_order
abbrev hk : PySem.W.Hook := hookZ 6 fz tf ex
def ob (s : PySem.W.SharedT) : AlZ := obsZ 6 fz tf ex (HandSHeadRun.getT s)
theorem ob_eq (s : PySem.W.SharedT) : ob s = hk.obs s.abs := obsZ_eq (HandSHeadRun.getT_eq s)
theorem run (w : World) : HandSHeadRun.RunEq RW (PySem.W.view RW.prog [28]) hk ob 6000 names w := by
  intro os
  kernel_rfl
theorem mks_BadRatio {P : Program} {w : World} {K : PySem.W.Frag} {mg : Str → Option Value} {C fI : Addr} (T : AzX.ExK P K mg C fI (defArgs s_BadRatio___init__) (defBody s_BadRatio___init__) (defScope s_BadRatio___init__)) (no : PySem.W.findIn K (.ref C) "value" = some none) (base : Heap) (us : List Value) (hl : us.length = 1) : Makes P w K mg base C ⟨us, []⟩ (mOf ["value"] us) := by
  match us, hl with
  | [v], _ =>
  refine makes_of T (size_ok rfl) ?_
  intro A s R x t0 M kb hlim hx hnx hroom hq
  rw [mOf1] at hq
  exact init1 (f := "value") (v := v) T (by decide +kernel) no ⟨fun _ _ _ _ => ⟨_, rfl⟩, fun _ _ _ _ => rfl⟩ (fun _ _ _ _ => rfl) M kb hlim hx hnx hroom (fun fd h => by obtain ⟨_, _, _, _, _, _, _, _, rfl⟩ := h; exact .of_eq rfl) hq
theorem mt_of {K : PySem.W.Frag} {h : Heap} {mg : Str → Option Value} (KX : K.In h) (G : h.Ns mainGlobals mg) (c : Says fz tf ex h K) : MT mg K :=
  ⟨glo_ok KX G (c.fact 0 rfl), glo_ok KX G (c.fact 1 rfl), glo_ok KX G (c.fact 2 rfl), glo_ok KX G (c.fact 3 rfl), glo_ok KX G (c.fact 4 rfl), glo_ok KX G (c.fact 5 rfl), glo_ok KX G (c.fact 6 rfl), glo_ok KX G (c.fact 7 rfl), glo_ok KX G (c.fact 8 rfl), glo_ok KX G (c.fact 9 rfl), glo_ok KX G (c.fact 10 rfl), glo_ok KX G (c.fact 11 rfl), glo_ok KX G (c.fact 12 rfl), glo_ok KX G (c.fact 13 rfl), glo_ok KX G (c.fact 14 rfl), glo_ok KX G (c.fact 15 rfl), glo_ok KX G (c.fact 16 rfl), glo_ok KX G (c.fact 17 rfl), glo_ok KX G (c.fact 18 rfl), glo_ok KX G (c.fact 19 rfl), glo_ok KX G (c.fact 20 rfl), glo_ok KX G (c.fact 21 rfl), glo_ok KX G (c.fact 22 rfl), glo_ok KX G (c.fact 23 rfl), free_ok KX G (c.fact 24 rfl), free_ok KX G (c.fact 25 rfl), free_ok KX G (c.fact 26 rfl), free_ok KX G (c.fact 27 rfl), free_ok KX G (c.fact 28 rfl), free_ok KX G (c.fact 29 rfl), free_ok KX G (c.fact 30 rfl), free_ok KX G (c.fact 31 rfl), free_ok KX G (c.fact 32 rfl), free_ok KX G (c.fact 33 rfl), free_ok KX G (c.fact 34 rfl), free_ok KX G (c.fact 35 rfl), free_ok KX G (c.fact 36 rfl), free_ok KX G (c.fact 37 rfl), free_ok KX G (c.fact 38 rfl), free_ok KX G (c.fact 39 rfl)⟩
theorem end_of {w : World} {K : PySem.W.Frag} {h : Heap} {mg : Str → Option Value} {fa : Addr} (KX : K.In h) (G : h.Ns mainGlobals mg) (hmg : mg "law" = some (.ref fa)) (c : Says fz tf ex h K) : LawAtG PySem.Challenge.rw_allzooms_k04_ratios_in_order w K CX0 13 63 "_law_script" mg fa h := by
  have M := mt_of KX G c
  have e := hmg.symm.trans M.g_law
  cases e
  have T : RT K (RA K) := rtB_ok (c.fact 40 rfl)
  have CR := crB_ok (c.fact 41 rfl)
  have SO := smB_ok (c.fact 42 rfl)
  have MR : Mk K (RA K) (a_Ratio___init__ K) := mkr_ok (c.fact 43 rfl)
  obtain ⟨Ct, kitB, tyB⟩ := catB_ok (c.fact 55 rfl)
  obtain ⟨EX, noV⟩ := exk_of (P := (PySem.Challenge.rw_allzooms_k04_ratios_in_order).prog) (mg := mg) (x := "BadRatio") (fs := ["value"]) (d := d_BadRatio___init__) rfl rfl rfl (c.at 15 rfl).1 (c.at 15 rfl).2 (c.fact 54 rfl) M.f_super (by decide +kernel)
  have noB := noV "value" (by simp)
  have B : ErrT (PySem.Challenge.rw_allzooms_k04_ratios_in_order).prog w K mg (BA K) ["value"] := ⟨fun base us hl => mks_BadRatio EX noB base us hl, Ct.xf.exC, tyB, EX.kC⟩
  obtain ⟨fd0, F0⟩ := c.def_ 0 (d := d_is_integer) rfl rfl
  obtain ⟨fd1, F1⟩ := c.def_ 1 (d := d_divisor) rfl rfl
  obtain ⟨fd2, F2⟩ := c.def_ 2 (d := d_is_number) rfl rfl
  obtain ⟨fd3, F3⟩ := c.def_ 3 (d := d_Ratio___init__) rfl rfl
  obtain ⟨fd4, F4⟩ := c.def_ 4 (d := d_Ratio_of) rfl rfl
  obtain ⟨fd5, F5⟩ := c.def_ 5 (d := d_Ratio___lt__) rfl rfl
  obtain ⟨fd6, F6⟩ := c.def_ 6 (d := d_Ratio___gt__) rfl rfl
  obtain ⟨fd7, F7⟩ := c.def_ 7 (d := d_Ratio___le__) rfl rfl
  obtain ⟨fd8, F8⟩ := c.def_ 8 (d := d_Ratio___ge__) rfl rfl
  obtain ⟨fd9, F9⟩ := c.def_ 9 (d := d_Ratio___eq__) rfl rfl
  obtain ⟨fd10, F10⟩ := c.def_ 10 (d := d_Ratio___bool__) rfl rfl
  obtain ⟨fd11, F11⟩ := c.def_ 11 (d := d_Ratio___str__) rfl rfl
  obtain ⟨fd12, F12⟩ := c.def_ 12 (d := d_Ratio_floor) rfl rfl
  obtain ⟨fd13, F13⟩ := c.def_ 13 (d := d_Ratio_ceiling) rfl rfl
  obtain ⟨fd14, F14⟩ := c.def_ 14 (d := d_is_same) rfl rfl
  obtain ⟨fd16, F16⟩ := c.def_ 16 (d := d__law_pen) rfl rfl
  obtain ⟨fd17, F17⟩ := c.def_ 17 (d := d__law_draw) rfl rfl
  obtain ⟨fd18, F18⟩ := c.def_ 18 (d := d__law_pick) rfl rfl
  obtain ⟨fd19, F19⟩ := c.def_ 19 (d := d__law_int) rfl rfl
  obtain ⟨fd20, F20⟩ := c.def_ 20 (d := d__law_pair) rfl rfl
  obtain ⟨fd21, F21⟩ := c.def_ 21 (d := d__law_heard) rfl rfl
  obtain ⟨fd22, F22⟩ := c.def_ 22 (d := d__law_order_right) rfl rfl
  obtain ⟨fd23, F23⟩ := c.def_ 23 (d := d__law_refused_right) rfl rfl
  obtain ⟨fd24, F24⟩ := c.def_ 24 (d := d_law) rfl rfl
  refine ⟨fd24, [cT K ("_law_refused_right", none)], spLaw K, ?_, ?_, ?_, fun s u => ?_, fun H a ns _ _ hH hS => ⟨a, ns, rfl, hS, ?_, fun _ => rfl⟩, fun base KB GB TB => ?_⟩
  · intro p hp
    rcases List.mem_cons.mp hp with rfl | hp
    · exact c.empty _ (List.mem_cons_self ..)
    · cases hp
  · intro p hp
    rcases List.mem_cons.mp hp with rfl | hp
    · exact c.out _ (List.mem_cons_self ..)
    · cases hp
  · intro p hp
    rcases List.mem_cons.mp hp with rfl | hp
    · exact PySem.W.codeHd_of_K KX (c.hd _ (List.mem_cons_self ..))
    · cases hp
  · exact FunD.bindsA (ps := ["_law_script"]) F24 (fun _ _ _ _ _ _ us hl => match us, hl with | [_], _ => rfl) s [u] rfl
  · intro p hp
    rcases List.mem_cons.mp hp with rfl | hp
    · exact TabS.nil (hH _ (List.mem_cons_self ..))
    · cases hp
  · have tb := TB _ (List.mem_cons_self ..)
    have DI := ok_isI (P := (PySem.Challenge.rw_allzooms_k04_ratios_in_order).prog) (w := w) (base := base) M T F0
    have DD := ok_divi (P := (PySem.Challenge.rw_allzooms_k04_ratios_in_order).prog) (w := w) (base := base) M F1
    have DN := ok_num M T DI F2
    have DIni := ok_ini M T B DI DD F3
    have DOf := ok_of M T B MR DN DIni F4
    have DLt := ok_lt M T CR SO DOf F5
    have DGt := ok_gt M T CR SO DOf F6
    have CLt := cm_of (c.fact 44 rfl)
    have CGt := cm_of (c.fact 45 rfl)
    have DLe := ok_le M T CGt DGt F7
    have DGe := ok_ge M T CLt DLt F8
    have DSame := ok_same (P := (PySem.Challenge.rw_allzooms_k04_ratios_in_order).prog) (w := w) (base := base) M T F14
    have DEq := ok_eq M T CR SO DOf DN DSame F9
    have O : OrdT (PySem.Challenge.rw_allzooms_k04_ratios_in_order).prog w K mg base := ⟨MR, DIni, DLt, DGt, DLe, DGe, DEq, ok_bool M T F10, ok_str M T F11, ok_floor M T F12, ok_ceil M T F13, CLt, CGt, cm_of (c.fact 46 rfl), cm_of (c.fact 47 rfl), cm_of (c.fact 48 rfl), cm_of (c.fact 49 rfl), cm_of (c.fact 50 rfl), neB_ok (c.fact 53 rfl), meth_ok (c.fact 51 rfl), meth_ok (c.fact 52 rfl)⟩
    have DPen := ok_pen (P := (PySem.Challenge.rw_allzooms_k04_ratios_in_order).prog) (w := w) (base := base) M F16
    have DDr := ok_draw (P := (PySem.Challenge.rw_allzooms_k04_ratios_in_order).prog) (w := w) (base := base) M F17
    have DPk := ok_pick M DDr F18
    have DInt := ok_lint M DDr DPk F19
    have DPair := ok_lpair M DDr DPk DInt F20
    exact ok_law M T O DPen DDr DInt DPair (ok_order M T O F22) (ok_refused M T O DPk Ct kitB noB tb F21 F23) F24
end Az
open PySem PySem.W PySem.Calls PyProof.Rows
theorem PySem.Challenge.cw_allzooms_k04_ratios_in_order_holds : PySem.Challenge.rw_allzooms_k04_ratios_in_order.Holds := by
  w_on; o_law
  refine HandSHeadRun.head_any (r := OpenLaw.row PySem.Challenge.rw_allzooms_k04_ratios_in_order) (q := view (OpenLaw.row PySem.Challenge.rw_allzooms_k04_ratios_in_order).prog [28]) (H := Az.hk) (ob := Az.ob) (M := 6000) (loose := Az.names) (d := HandSHeadRun.topDef (OpenLaw.row PySem.Challenge.rw_allzooms_k04_ratios_in_order).prog 28) (kwd := []) Az.ob_eq
    (by kernel_rfl) (fun s => by kernel_rfl) Az.run (by kernel_rfl) (by kernel_rfl) (by kernel_rfl) (by rfl) (by first | assumption | decide +kernel) (by decide +kernel) ⟨rfl, rfl, rfl, rfl, rfl, by decide +kernel⟩ ?az_w ?az_c
  case az_w => w_witness2
  case az_c =>
    refine Az.walk_ofGE (l := PySem.Challenge.rw_allzooms_k04_ratios_in_order) (n := 63) (k := 13) (x := "_law_script") (CX := fun _ => L2.CX0) rfl (by decide) (by kernel_rfl) ⟨rfl, by decide, by decide⟩ ?az_F (fun _ _ _ _ _ z => z)
    intro w mg fa h Y G hmg0
    obtain ⟨K, KX, c⟩ := Y
    have hmg : mg ("law" : PySem.Str) = some (.ref fa) := by
      have e : (HandSHeadRun.topDef (OpenLaw.row PySem.Challenge.rw_allzooms_k04_ratios_in_order).prog 28).name = ("law" : PySem.Str) := by kernel_rfl
      rw [← e]
      exact hmg0
    exact ⟨K, KX, Az.end_of KX G hmg c⟩
#print axioms PySem.Challenge.cw_allzooms_k04_ratios_in_order_holds
