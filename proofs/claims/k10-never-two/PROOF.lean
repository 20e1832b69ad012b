import PyProof.Rows.All
import Wide.All
import OpenK.AllK
import Wide.FinOn
import PyProof.EqAt
import PyProof.EqKinds
import PyProof.TupleCall
import HandS.ForMost
import HandS.ForExc
import HandS.DictTup
import HandS.Conv
import HandS.SortKw
import HandS.IsInst
import HandS.ExcIs
import HandS.Style
import HandS.TupLe
import HandS.Flow
import HandS.SetFor
import HandS.Walk
import HandS.ExcValue
import KE.KDictKeyed
import KE.KDictSum
import KE.KDictWalk
import HandS.Deep
import KE.DataFind
import PySem.Challenge.RW_leasehold_k10_whole_never_two
set_option Elab.async false
set_option linter.all false
set_option maxRecDepth 100000
set_option maxHeartbeats 4000000
namespace Lh
open PySem PySem.Spec PyProof.Rows L2

/-! ### readings, by name: each lemma takes one combinator off -/
/-- a known boolean's two ways -/
def BIf (c : Bool) (A B : Prop) : Prop := if c = true then A else B
theorem bif_t {A B : Prop} (h : A) : BIf true A B := h
theorem bif_f {A B : Prop} (h : B) : BIf false A B := h
theorem bif2 {c : Bool} {A B : Prop} (h1 : c = true → A) (h2 : c = false → B) : BIf c A B := by
  cases c
  · exact h2 rfl
  · exact h1 rfl
theorem bif_d {p : Prop} [Decidable p] {A B : Prop} (h1 : p → A) (h2 : ¬p → B) : BIf (decide p) A B := by
  by_cases h : p
  · rw [decide_eq_true h]; exact h1 h
  · rw [decide_eq_false h]; exact h2 h
theorem bif_nd {p : Prop} [Decidable p] {A B : Prop} (h1 : p → B) (h2 : ¬p → A) : BIf (!decide p) A B := by
  by_cases h : p
  · rw [decide_eq_true h]; exact h1 h
  · rw [decide_eq_false h]; exact h2 h
theorem bif_n {c : Bool} {A B : Prop} (h : BIf c B A) : BIf (!c) A B := by
  cases c <;> exact h
def IsB (x : V) (H : Hp) (Q : Bool → Hp → Prop) : Prop := ∃ k, x = .bl k ∧ Q k H
theorem isb {k : Bool} {H : Hp} {Q : Bool → Hp → Prop} (q : Q k H) : IsB (.bl k) H Q := ⟨k, rfl, q⟩
def FldK (K : PySem.W.Frag) (f : Str) (x : V) (H : Hp) (Q : VK) : Prop := ∃ a C dx fs v, x = .ref a ∧ H a = some (.ins C dx fs) ∧ Cls K C ∧ NoAttr K C f ∧ fs.lookup f = some v ∧ Q v H
theorem fldk {K : PySem.W.Frag} {f : Str} {a C dx : Addr} {fs : List (Str × V)} {v : V} {H : Hp} {Q : VK} (h : H a = some (.ins C dx fs)) (c : Cls K C) (n : NoAttr K C f) (l : fs.lookup f = some v) (q : Q v H) : FldK K f (.ref a) H Q := ⟨a, C, dx, fs, v, rfl, h, c, n, l, q⟩
def MthK (C : Addr) (m : Str) (x : V) (H : Hp) (G : Prop) : Prop := ∃ a dx fs, x = .ref a ∧ H a = some (.ins C dx fs) ∧ fs.lookup m = none ∧ G
theorem mthk {C : Addr} {m : Str} {a dx : Addr} {fs : List (Str × V)} {H : Hp} {G : Prop} (h : H a = some (.ins C dx fs)) (l : fs.lookup m = none) (g : G) : MthK C m (.ref a) H G := ⟨a, dx, fs, rfl, h, l, g⟩
section
variable {K : PySem.W.Frag} {σ : L2.St} {H : Hp} {Q : VK} {QT : Bool → Hp → Prop} {QA : List V → Hp → Prop} {ta tb tc te : TE} {t u : TT} {tA tr : TA} {v x y : V} {r r' : R2} {n : L2.St → Hp → Prop} {rt : VK} {bk ct : L2.St → Hp → Prop} {i : Nat} {s1 s2 : TS}
theorem rd_var (h : σ[i]? = some (some v)) (q : Q v H) : tVar i σ H Q := ⟨v, h, q⟩
theorem rd_c (q : Q v H) : tC v σ H Q := q
theorem rd_op (h : ta σ H fun x H1 => tb σ H1 fun y H2 => r x y H2 Q) : tOp r ta tb σ H Q := h
theorem rd_un {f : V → Hp → VK → Prop} (h : ta σ H fun x H1 => f x H1 Q) : tUn f ta σ H Q := h
theorem rd_I0 {g : Int → Int → V} {a b : Int} (q : Q (g a b) H) : rI0 g (.int a) (.int b) H Q := ⟨a, b, rfl, rfl, q⟩
theorem rd_I {C : Int → Int → Prop} {g : Int → Int → V} {a b : Int} (c : C a b) (q : Q (g a b) H) : rI C g (.int a) (.int b) H Q := ⟨a, b, rfl, rfl, c, q⟩
theorem rd_U {g : Int → V} {a : Int} (q : Q (g a) H) : rU g (.int a) H Q := ⟨a, rfl, q⟩
theorem rd_eq (h : scal x y = true) (q : Q (.bl (decide (x = y))) H) : rEq x y H Q := ⟨h, q⟩
theorem rd_ne (h : scal x y = true) (q : Q (.bl (!decide (x = y))) H) : rNe x y H Q := ⟨h, q⟩
theorem rd_fld {f : Str} (h : ta σ H fun x H1 => FldK K f x H1 Q) : tFld K ta f σ H Q := h
theorem rd_test (h : te σ H fun x H1 => IsB x H1 QT) : tTest te σ H QT := h
theorem rd_B (h : te σ H fun x H1 => IsB x H1 QT) : tB te σ H QT := h
theorem rd_and (h : t σ H fun c H1 => BIf c (u σ H1 QT) (QT false H1)) : tAnd t u σ H QT := h
theorem rd_or (h : t σ H fun c H1 => BIf c (QT true H1) (u σ H1 QT)) : tOr t u σ H QT := h
theorem rd_not (h : t σ H fun c H1 => QT (!c) H1) : tNot t σ H QT := h
theorem rd_andV (h : ta σ H fun x H1 => IsB x H1 fun c H2 => BIf c (tb σ H2 Q) (Q (.bl false) H2)) : tAndV ta tb σ H Q := by
  have e : tAndV ta tb σ H Q = ta σ H fun x H1 => ∃ c, x = .bl c ∧ if c = true then tb σ H1 Q else Q (.bl false) H1 := rfl
  rw [e]; exact h
theorem rd_orV (h : ta σ H fun x H1 => IsB x H1 fun c H2 => BIf c (Q (.bl true) H2) (tb σ H2 Q)) : tOrV ta tb σ H Q := h
theorem rd_notV (h : ta σ H fun x H1 => IsB x H1 fun c H2 => Q (.bl (!c)) H2) : tNotV ta σ H Q := h
theorem rd_ifE (h : t σ H fun c H1 => BIf c (ta σ H1 Q) (tb σ H1 Q)) : tIf t ta tb σ H Q := h
theorem rd_chain (h : ta σ H fun x H1 => tb σ H1 fun y H2 => r x y H2 fun z H3 => IsB z H3 fun k H4 => BIf k (tc σ H4 fun w H5 => r' y w H5 Q) (Q (.bl false) H4)) : tChain r r' ta tb tc σ H Q := h
theorem rd_meth {C : Addr} {m : Str} {sp : Sp} {dvs : List V} {E : XK} (h : ta σ H fun x H1 => MthK C m x H1 (tA σ H1 fun vs H2 => sp (x :: (vs ++ dvs)) H2 Q E)) : tMeth C m sp dvs E ta tA σ H Q := h
theorem rd_call {sp : Sp} {dvs : List V} {E : XK} (h : tA σ H fun vs H1 => sp (vs ++ dvs) H1 Q E) : tCall sp dvs E tA σ H Q := h
theorem rd_callS {sp : Sp} {E : L2.St → XK} (h : tA σ H fun vs H1 => sp vs H1 Q (E σ)) : tCallS sp E tA σ H Q := h
theorem rd_make {C : Addr} {sp : Sp} {dvs : List V} {E : XK} (h : tA σ H fun vs H1 => ∀ x dx, H1 x = none → H1 dx = none → dx ≠ x → sp (.ref x :: (vs ++ dvs)) (upd (upd H1 dx (.own x)) x (.ins C dx [])) (fun v H2 => v = .non ∧ Q (.ref x) H2) E) : tMake C sp dvs E tA σ H Q := h
theorem rd_cb {f : List V → Hp → VK → Prop} (h : tA σ H fun vs H1 => f vs H1 Q) : tCB f tA σ H Q := h
theorem rd_nil (q : QA [] H) : tNil σ H QA := q
theorem rd_cons (h : ta σ H fun x H1 => tr σ H1 fun xs H2 => QA (x :: xs) H2) : tCons ta tr σ H QA := h
theorem rd_tup (h : tA σ H fun xs H1 => xs.length ≤ sizeLine ∧ ∀ p, H1 p = none → Q (.ref p) (upd H1 p (.tup xs))) : tTup tA σ H Q := h
theorem rd_lst (h : tA σ H fun xs H1 => xs.length ≤ sizeLine ∧ ∀ p, H1 p = none → Q (.ref p) (upd H1 p (.lst xs))) : tLst tA σ H Q := h
theorem rd_dget (h : ta σ H fun x H1 => tb σ H1 fun y H2 => ∃ a v, x = .ref a ∧ DGet H2 a y (some v) ∧ Q v H2) : tDGet ta tb σ H Q := h
/-! statements -/
theorem rd_next (q : n σ H) : tNext ⟨n, rt, bk, ct⟩ σ H := q
theorem rd_seq (h : s1 ⟨s2 ⟨n, rt, bk, ct⟩, rt, bk, ct⟩ σ H) : tSeq s1 s2 ⟨n, rt, bk, ct⟩ σ H := h
theorem rd_asg (h : te σ H fun v H1 => n (σ.set i (some v)) H1) : tAsg te (gName i) ⟨n, rt, bk, ct⟩ σ H := h
theorem rd_asgG {g : TG} (h : te σ H fun v H1 => g v σ H1 n) : tAsg te g ⟨n, rt, bk, ct⟩ σ H := h
theorem rd_drop (h : te σ H fun _ H1 => n σ H1) : tDrop te ⟨n, rt, bk, ct⟩ σ H := h
theorem rd_ret (h : te σ H rt) : tRet te ⟨n, rt, bk, ct⟩ σ H := h
theorem rd_retN (h : rt .non H) : tRetN ⟨n, rt, bk, ct⟩ σ H := h
theorem rd_ifS (h : t σ H fun c H1 => BIf c (s1 ⟨n, rt, bk, ct⟩ σ H1) (s2 ⟨n, rt, bk, ct⟩ σ H1)) : tIfS t s1 s2 ⟨n, rt, bk, ct⟩ σ H := h
def SFldK (K : PySem.W.Frag) (f : Str) (x y : V) (H : Hp) (G : Hp → Prop) : Prop := ∃ a C dx fs, x = .ref a ∧ H a = some (.ins C dx fs) ∧ Cls K C ∧ NoAttr K C f ∧ fs.length < 1000 ∧ G (upd H a (.ins C dx (putF f y fs)))
theorem sfldk {f : Str} {a C dx : Addr} {fs fs' : List (Str × V)} {G : Hp → Prop} (h : H a = some (.ins C dx fs)) (c : Cls K C) (na : NoAttr K C f) (l : fs.length < 1000) (e : putF f y fs = fs') (q : G (upd H a (.ins C dx fs'))) : SFldK K f (.ref a) y H G := ⟨a, C, dx, fs, rfl, h, c, na, l, e ▸ q⟩
theorem rd_sfld {f : Str} (h : tb σ H fun y H1 => ta σ H1 fun x H2 => SFldK K f x y H2 fun H3 => n σ H3) : sFld K ta tb f ⟨n, rt, bk, ct⟩ σ H := h
end
theorem ne_symm' {a b : Addr} (h : a ≠ b) : b ≠ a := fun e => h e.symm
theorem lt1000 {n : Nat} (h : n ≤ 100) : n < 1000 := by omega
theorem sz_le {n : Nat} (h : n ≤ 10000000) : n ≤ sizeLine := Nat.le_trans h (by decide)
theorem sz_lt {n : Nat} (h : n ≤ 10000000) : n < sizeLine := Nat.lt_of_le_of_lt h (by decide)

/-! ### a chain of three comparisons -/
def tChain3 (r1 r2 r3 : R2) (ta tb tc td : TE) : TT := fun σ H Q => ta σ H fun x H1 => tb σ H1 fun y H2 => r1 x y H2 fun z H3 => IsB z H3 fun k H4 =>
  BIf k (tc σ H4 fun w H5 => r2 y w H5 fun z H6 => IsB z H6 fun k H7 => BIf k (td σ H7 fun w' H8 => r3 w w' H8 fun z H9 => IsB z H9 Q) (Q false H7)) (Q false H4)
section
variable {X : Cx} {a b c d : Expr} {pos : Pos} {ta tb tc td : TE}
theorem pt_chain3 {op op' op'' : CmpOp} {r r' r'' : R2} (ho : OpR X (compareOp op) r) (ho' : OpR X (compareOp op') r') (ho'' : OpR X (compareOp op'') r'') (ha : PE X a ta) (hb : PE X b tb) (hc : PE X c tc) (hd : PE X d td)
    (hm : lastMarks [op, op', op''] [b, c, d] = false := by with_unfolding_all rfl) : PT X (.Compare a [op, op', op''] [b, c, d] pos) (tChain3 r r' r'' ta tb tc td) := by
  refine ⟨fun pins s σ H Q I h => ?_⟩
  refine isTrue_chain (thn (ha.run pins s σ H _ I h) fun v s1 ⟨x, H1, I1, r1, q1⟩ => test_link (thn (hb.run pins s1 σ H1 _ I1 q1) fun u s2 ⟨y, H2, I2, r2, q2⟩ =>
    thn (ho pins s2 σ H2 x y v u _ I2 r1 r2 q2) fun d s3 ⟨z, H3, I3, r3, k, e, q3⟩ => ?_)) hm
  subst e
  cases r3
  refine wpAny_truthy_bool ?_
  cases k with
  | false => exact ite_ff ⟨H3, I3, q3⟩
  | true =>
    refine ite_tt (test_link (thn (hc.run pins s3 σ H3 _ I3 q3) fun w' s4 ⟨z', H4, I4, r4, q4⟩ => thn (ho' pins s4 σ H4 y z' u w' _ I4 r2 r4 q4) fun d' s5 ⟨z2, H5, I5, r5, k2, e2, q5⟩ => ?_))
    subst e2
    cases r5
    refine wpAny_truthy_bool ?_
    cases k2 with
    | false => exact ite_ff ⟨H5, I5, q5⟩
    | true =>
      refine ite_tt (test_last (thn (hd.run pins s5 σ H5 _ I5 q5) fun w2 s6 ⟨z3, H6, I6, r6, q6⟩ => thn (ho'' pins s6 σ H6 z' z3 w' w2 _ I6 r4 r6 q6) fun d2 s7 ⟨z4, H7, I7, r7, k3, e3, q7⟩ => ?_))
      subst e3
      cases r7
      exact wpAny_truthy_bool ⟨H7, I7, q7⟩
end
section
variable {ta tb tc td : TE} {r1 r2 r3 : R2} {σ : L2.St} {H : Hp} {Q : Bool → Hp → Prop}
theorem rd_chain3 (h : ta σ H fun x H1 => tb σ H1 fun y H2 => r1 x y H2 fun z H3 => IsB z H3 fun k H4 =>
  BIf k (tc σ H4 fun w H5 => r2 y w H5 fun z H6 => IsB z H6 fun k H7 => BIf k (td σ H7 fun w' H8 => r3 w w' H8 fun z H9 => IsB z H9 Q) (Q false H7)) (Q false H4)) : tChain3 r1 r2 r3 ta tb tc td σ H Q := h
end

/-! ### methods and new instances where what is raised is wished for at the caller's slots -/
section
variable {X : Cx} {CX : CXT} {k : Nat} {f C : Addr} {fd : FuncData} {ps : List Str} {sp : Sp} {E : L2.St → XK} {x m : Str} {p pos apos : Pos} {e o : Expr} {es : List Expr} {ta : TE} {t : TA}
def tMethS (C : Addr) (m : Str) (sp : Sp) (E : L2.St → XK) (ta : TE) (t : TA) : TE := fun σ H Q => ta σ H fun x H1 => MthK C m x H1 (t σ H1 fun vs H2 => sp (x :: vs) H2 Q (E σ))
theorem pe_methT {pl : Sem Bool} (he : PE X o ta) (c : Cls X.K C) (hm : Meth X.K C m f) (F : FnOk X.prog X.w X.K X.mg X.base CX k f fd ps sp) (hr : Room k X.A) (hb : Binds X.K fd ps []) (hx : ∀ σ, PassesAt CX X σ (E σ)) (ha : PA X (e :: es) t)
    (hst : starEach (e :: es) X.env = (false, eval e X.env) :: starEach es X.env := by rfl) (hpl : (backTo pos (starEach es X.env)).any (·.1) = false := by rfl)
    (ht : eval (.Call (.Attribute o m apos) (e :: es) [] pos) X.env = (do
      let ov ← eval o X.env
      standAt apos.atName
      let (f, first) ← holding [ov] (getMethod ov m pl)
      callWith pos f first (backTo pos (starEach (e :: es) X.env)) (backToKw pos (keywordEach [] X.env))) := by rfl) :
    PE X (.Call (.Attribute o m apos) (e :: es) [] pos) (tMethS C m sp E ta t) := by
  refine ⟨fun pins s σ H Q I h => ?_⟩
  refine PySem.W.methodCall_KW (pl := pl) (thn (he.run pins s σ H _ I h) fun u s1 ⟨x, H1, I1, rx, a, dx, fs, ex, ea, l, q⟩ => ?_) ht
  subst ex
  obtain rfl : u = Value.ref a := rx
  refine getmeth_ok I1 ea c hm l ?_
  refine PySem.W.callWith_K (first := [.ref a]) (h₀ := X.base) I.ok.mod.kin hm.kp (thn (ha.run pos pins s1 σ H1 _ I1 q) fun us s2 ⟨vs, H2, I2, r, q2⟩ => ⟨I2.kIn, ?_⟩) hst hpl
  exact run_fnS (us := .ref a :: us) (vs := .ref a :: vs) F hr hb (hx σ) I2 (.cons rfl r) q2
theorem run_makeS {pins : List (Addr × Obj)} {σ : L2.St} {H : Hp} {s : Shared} {Q : VK} {us : List Value} {vs : List V} (M : Mk X.K C f) (F : FnOk X.prog X.w X.K X.mg X.base CX k f fd ps sp) (hr : Room (k + 1) X.A) (hb : Binds X.K fd ps [])
    (hx : PassesAt CX X σ (E σ)) (I : Inv X pins σ H s) (r : Vals vs us)
    (h : ∀ x dx, H x = none → H dx = none → dx ≠ x → sp (.ref x :: vs) (upd (upd H dx (.own x)) x (.ins C dx [])) (fun v H2 => v = .non ∧ Q (.ref x) H2) (E σ)) :
    wpAny (model X.prog X.w) X.A (call (.ref C) us) (EP X pins σ Q) X.xe s := by
  have hq := h (s.heap.objs.size + 1) s.heap.objs.size (I.hok.fresh (Nat.le_succ _)) (I.hok.fresh (Nat.le_refl _)) (Nat.ne_of_lt (Nat.lt_succ_self _))
  have I2 := Inv.made (C := C) I
  have r2 : Vals (V.ref (s.heap.objs.size + 1) :: vs) (Value.ref (s.heap.objs.size + 1) :: us) := .cons rfl r
  have hl : (Value.ref (s.heap.objs.size + 1) :: us).length = ps.length := by
    have e := r2.length
    rw [F.len _ _ _ _ hq] at e
    exact e.symm
  have hb2 := hb
  refine wpAny_call (make_map (f := f) I.kIn M.makes M.init (beq_iff_eq.mp M.fn) (codeAny_mono (F.run _ X.stack _ _ ⟨Value.ref (s.heap.objs.size + 1) :: us, []⟩ (Value.ref (s.heap.objs.size + 1) :: us) _ _ (E σ) (hr.make C us [])
    (I2.env0.make C us []) (by have z := hb _ (Value.ref (s.heap.objs.size + 1) :: us) I2.kIn (by rw [List.append_nil]; exact hl); rw [List.append_nil] at z; exact z) r2 hq) fun r s' hq' => ?_))
  cases r with
  | error e => exact hx pins _ _ e s' I2 hq'
  | ok fl =>
    cases fl with
    | ret u =>
      obtain ⟨v, H', I3, rv, ev, q3⟩ := I2.after hq'
      subst ev
      exact ⟨rv, ⟨V.ref (s.heap.objs.size + 1), H', I3, rfl, q3⟩⟩
    | next => exact False.elim hq'
    | brk => exact False.elim hq'
    | cont => exact False.elim hq'
def tMakeS (C : Addr) (sp : Sp) (E : L2.St → XK) (t : TA) : TE := fun σ H Q => t σ H fun vs H1 => ∀ x dx, H1 x = none → H1 dx = none → dx ≠ x → sp (.ref x :: vs) (upd (upd H1 dx (.own x)) x (.ins C dx [])) (fun v H2 => v = .non ∧ Q (.ref x) H2) (E σ)
theorem pe_makeT (M : Mk X.K C f) (F : FnOk X.prog X.w X.K X.mg X.base CX k f fd ps sp) (hr : Room (k + 1) X.A) (hg : Gl X x) (hm : X.mg x = some (.ref C)) (hb : Binds X.K fd ps []) (hx : ∀ σ, PassesAt CX X σ (E σ))
    (ha : PA X (e :: es) t) (hdb : (x == ("__debug__" : Str)) = false := by decide) (he : starEach (e :: es) X.env = (false, eval e X.env) :: starEach es X.env := by rfl) (hpl : (backTo pos (starEach es X.env)).any (·.1) = false := by rfl) :
    PE X (.Call (.Name x p) (e :: es) [] pos) (tMakeS C sp E t) := by
  refine ⟨fun pins s σ H Q I h => ?_⟩
  refine wpAny_Call_Name_kw (ld_glob I hg hm ?_ hdb)
  refine PySem.W.callWith_K (h₀ := X.base) I.ok.mod.kin M.kp (thn (ha.run pos pins s σ H _ I h) fun us s1 ⟨vs, H1, I1, r, q⟩ => ⟨I1.kIn, ?_⟩) he hpl
  exact run_makeS M F hr hb (hx σ) I1 r q
end
section
variable {σ : L2.St} {H : Hp} {Q : VK} {ta : TE} {tA : TA}
theorem rd_methS {C : Addr} {m : Str} {sp : Sp} {E : L2.St → XK} (h : ta σ H fun x H1 => MthK C m x H1 (tA σ H1 fun vs H2 => sp (x :: vs) H2 Q (E σ))) : tMethS C m sp E ta tA σ H Q := h
theorem rd_makeS {C : Addr} {sp : Sp} {E : L2.St → XK} (h : tA σ H fun vs H1 => ∀ x dx, H1 x = none → H1 dx = none → dx ≠ x → sp (.ref x :: vs) (upd (upd H1 dx (.own x)) x (.ins C dx [])) (fun v H2 => v = .non ∧ Q (.ref x) H2) (E σ)) : tMakeS C sp E tA σ H Q := h
end

/-! ### try: body, except x as n: suite, where the error is kept behind the suite -/
/-- a caught error of the class cls, without a dict, known by its class -/
def ExK (cls : Value) (a : Addr) : HO := .ext fun h => ∃ oe, h.get? a = some oe ∧ Zc cls none oe ∧ ∃ vs, oe.data = .fields vs
theorem exK_ok {P : Program} {w : World} {H : Hp} {h : Heap} {a : Addr} {cls : Value} {oe : Obj} (e : h.get? a = some oe) (z : Zc cls none oe) (d : ∃ vs, oe.data = .fields vs) : ObjOk P w H h a (ExK cls a) :=
  ⟨⟨oe, e, z, d⟩, ⟨oe, e⟩, fun _ _ ⟨o, q, r⟩ k => ⟨o, k o q, r⟩⟩
theorem hok_track {P : Program} {w : World} {H : Hp} {h : Heap} {a : Addr} {o : HO} (x : HOk P w H h) (hn : H a = none) (new : ObjOk P w (upd H a o) h a o) : HOk P w (upd H a o) h := fun b u e => by
  by_cases hb : b = a
  · subst hb
    rw [upd_same] at e
    cases e
    exact new
  · rw [upd_ne hb] at e
    exact (x b u e).stay (fun c v _ q => q) (fun c q => by rw [upd_ne (ne_of_none q hn)]; exact q) fun c xs q => by rw [upd_ne (ne_of_none q hn)]; exact q
section
variable {X : Cx} {pins : List (Addr × Obj)} {σ : L2.St} {H : Hp} {s : Shared}
/-- an untracked record of ours is tracked from now on -/
theorem Inv.track {a : Addr} {o : HO} {ob : Obj} {vs : Array Value} (I : Inv X pins σ H s) (hn : H a = none) (h0 : X.s_0.heap.get? a = none) (hg : s.heap.get? a = some ob) (hd : ob.data = .fields vs) (nL : a ≠ X.env.locals) (np : ∀ p ∈ X.pn ++ pins, p.1 ≠ a)
    (new : ObjOk X.prog X.w (upd H a o) s.heap a o) : Inv X pins σ (upd H a o) s := by
  have ne0 : ∀ b u, X.s_0.heap.get? b = some u → b ≠ a := fun b u e z => by
    rw [z, h0] at e
    cases e
  refine ⟨I.ok, I.os, I.bare, ⟨I.base.keep, I.base.slot, fun b u e n hx => ?_, I.base.there, fun b xs e => ?_, fun b u xs e => ?_, fun b ps e => ?_⟩, I.loc, I.cell, ?_, fun x c e => ?_, fun p hp => ?_, hok_track I.hok hn new, I.len⟩
  · rw [upd_ne (ne0 b u e)]
    exact I.base.free b u e n hx
  · have q := I.base.tups b xs e
    rw [upd_ne (ne_of_none q hn)]
    exact q
  · have q := I.base.frzs b u xs e
    rw [upd_ne (ne_of_none q hn)]
    exact q
  · obtain ⟨m, q⟩ := I.base.tbls b ps e
    exact ⟨m, by rw [upd_ne (ne_of_none q hn)]; exact q⟩
  · rw [upd_ne (Ne.symm nL)]
    exact I.free
  · obtain ⟨v, oc, ho, hc⟩ := I.cell x c e
    have hne : c ≠ a := fun z => by
      rw [z, hg] at ho
      cases ho
      rw [hd] at hc
      cases hc
    rw [upd_ne hne]
    exact I.freeC x c e
  · obtain ⟨e, n, ne, nf, d⟩ := I.pin p hp
    exact ⟨e, by rw [upd_ne (np p hp)]; exact n, ne, nf, d⟩
end
/-- what the clause 'except x as n' wishes of an exception of the body, where the error is tracked behind the suite -/
def wAsK (K : PySem.W.Frag) (c : Value) (i : Nat) (ts : Addr → Value → Option Addr → TS) (D : Ends) : WX := fun cls d σ H =>
  d = none ∧ PySem.W.exmOne K cls c = some true ∧ ∀ a, H a = none → ts a cls d { nx := fun σ' H' => D.nx (σ'.set i none) (upd H' a (ExK cls a)), rt := fun _ _ => False, bk := fun _ _ => False, ct := fun _ _ => False } (σ.set i (some (.ref a))) H
section
variable {X : Cx} {x n : Str} {c : Value} {i : Nat} {body suite : List Stmt} {b₀ : Stmt} {np pos pos' : Pos} {tb : WX → TS} {ts : Addr → Value → Option Addr → TS}
theorem ps_try_keep (hs : X.stack = X.env :: X.outer) (hf : X.env.frame = some X.env.locals) (hex : X.ex = []) (hN : X.N.Nodup) (hi : X.N[i]? = some n) (hln : X.env.kindOf n = some .local) (hc : Names X x c)
    (hb : ∀ (W : WX) (pn : List (Addr × Obj)) (xe : Value → Shared → Prop), Takes (X.tr pn xe) W → PassesOwn (model X.prog X.w) X.A X.env xe → PSs (X.tr pn xe) body (tb W))
    (hsu : ∀ (a : Addr) (oe : Obj) (cls : Value) (d : Option Addr) (pn : List (Addr × Obj)), Zc cls d oe → (∃ vs, oe.data = .fields vs) → PSs (X.suite a ((a, oe) :: pn)) (b₀ :: suite) (ts a cls d)) :
    PS X (.Try body [.ExceptHandler (some (.Name x np)) (some n) (b₀ :: suite) pos'] [] [] pos) (fun D σ H => tb (wAsK X.K c i ts D) D σ H) := by
  refine ⟨fun pins s σ H D I h => ?_⟩
  have ok := I.ok
  have hfr : X.A.frames = some (X.env :: X.outer) := by rw [ok.frames, hs]
  have hloc : Loc X.env.scope n := .inl hln
  refine wpAny_Try_except ?_
  refine wpAny_mono ((hb (wAsK X.K c i ts D) (X.pn ++ pins) (fun e s₁ => wpAny (model X.prog X.w) X.A (noteFrame e X.env) (fun _ s₂ => wpAny (model X.prog X.w) X.A (setFlight e none) (fun _ s₃ =>
    wpAny (model X.prog X.w) X.A (handleBy e X.env [.ExceptHandler (some (.Name x np)) (some n) (b₀ :: suite) pos']) (SP X pins D) X.xe s₃) X.xe s₂) X.xe s₁) (fun u s' xx => ?_) PassesOwn.looking).run [] s σ H D (I.toTry _) h) (fun f s1 hsp => ?_) (fun e s1 he => he)
  · -- the catch
    obtain ⟨a, B, sI, pins', σ', H', cls, d, rfl, J', nb, up, sky, na, os, ag, hdn, hb1, hyes⟩ := xx
    subst hdn
    have J : Inv X pins σ' H' sI := J'.ofTry ok
    have sky' : Sky B (X.env :: X.outer) a (Zc cls none) X.env.locals s'.heap := by rw [← hs]; exact sky
    show wpAny (model X.prog X.w) X.A (noteFrame (.ref a) X.env) _ _ _
    refine Sky.land Zc.steady hfr hf sky' fun h3 fl3 up3 => ?_
    have J3 : Inv X pins σ' H' { s' with heap := h3 } := J.landed nb fl3.1 (up.trans up3) os ag
    obtain ⟨oe3, vs3, he3, hz3, hd3⟩ := fl3.there
    have notFr : ∀ {h : Heap} {o : Obj} {vs : Array Value}, h.FunFrames B (X.env :: X.outer) → h.get? a = some o → o.data = .fields vs → a ∉ frs (X.env :: X.outer) := fun {h o vs} ff e dd hm => by
      obtain ⟨_, o', e', hnf⟩ := ff.mem hm
      rw [e] at e'; cases e'
      exact hnf _ dd
    have nfr := notFr fl3.2.2.1 he3 hd3
    have nL : a ≠ X.env.locals := fun z => nfr (List.mem_filterMap.mpr ⟨X.env, List.mem_cons_self, by rw [hf, z]⟩)
    have nF : a ∉ X.fs := fun hm => by
      obtain ⟨e, he, q⟩ := List.mem_filterMap.mp hm
      exact nfr (List.mem_filterMap.mpr ⟨e, List.mem_cons_of_mem _ he, q⟩)
    have nS : a ∉ frs X.stack := by rw [hs]; exact nfr
    have nB : B.get? a = none := fl3.2.1
    have nI : sI.heap.get? a = none := by
      cases e : sI.heap.get? a with
      | none => rfl
      | some o =>
        have z := nb a o e nS
        rw [nB] at z
        cases z
    have n0 : X.s_0.heap.get? a = none := by
      cases e : X.s_0.heap.get? a with
      | none => rfl
      | some o =>
        obtain ⟨o', z⟩ := J.base.there a o e (by rw [hex]; exact fun z => nomatch z)
        rw [nI] at z
        cases z
    have npin : ∀ p ∈ X.pn ++ pins, p.1 ≠ a := fun p hp z => by
      obtain ⟨e, _⟩ := J.pin p hp
      rw [z, nI] at e
      cases e
    have S3 := J3.suite he3 hd3 na nL nF
    refine wpAny_handleBy_cons (codeAny_handlers_test ?_) (by intro q; cases q)
    have LT : PySem.W.Looks (model X.prog X.w) h3 (typeOf (.ref a)) cls := fun A Q E s k q => wpAny_typeOf_ref (k _ _ he3) (by rw [hz3.1]; exact q)
    have LM := PySem.W.exm_one (M := model X.prog X.w) (J3.kIn) LT hb1
    have test : ∀ {Q : Value → Shared → Prop} {E : Value → Shared → Prop}, Q c { s' with heap := h3 } → wpAny (model X.prog X.w) (X.A.mark (some (.ref a))) (eval (.Name x np) X.env) Q E { s' with heap := h3 } := fun {Q E} q => by
      obtain ⟨hg, hdbg, hm | ⟨hm, hv, hnn⟩⟩ := hc
      · exact ld_glob (X := X.suite a ((a, oe3) :: (X.pn ++ pins))) S3 hg hm q hdbg
      · exact ld_blt (X := X.suite a ((a, oe3) :: (X.pn ++ pins))) S3 hg hm hv q hnn hdbg
    refine test (LM.here ?_)
    refine codeAny_handlers_suite_as ?_
    refine HandSPX.lands_againZ fl3 fun h4 fl4 up4 => ?_
    have J4 : Inv X pins σ' H' { s' with heap := h4 } := J.landed nb fl4.1 ((up.trans up3).trans up4) os ag
    obtain ⟨oe4, vs4, he4, hz4, hd4⟩ := fl4.there
    have S4 := J4.suite he4 hd4 na nL nF
    refine store_ok (X := X.suite a ((a, oe4) :: (X.pn ++ pins))) (v := .ref a) S4 hN hi hloc rfl (fun s5 S5 => ?_) (.inr hln)
    refine wpAny_mono ((hsu a oe4 cls none (X.pn ++ pins) hz4 ⟨_, hd4⟩).run [] s5 _ H' _ S5 (hyes a na)) (fun f s6 hsp => ?_) (fun _ _ z => False.elim z)
    cases f with
    | next =>
      obtain ⟨σ6, H6, S6, q6⟩ := hsp
      have S6' : Inv X ((a, oe4) :: pins) σ6 H6 s6 := ⟨ok, S6.os, S6.bare, S6.base, S6.loc, S6.cell, S6.free, S6.freeC, fun p hp => S6.pin p (by
        rcases List.mem_append.mp hp with z | z
        · exact List.mem_append_left _ (List.mem_cons_of_mem _ (List.mem_append_left _ z))
        · rcases List.mem_cons.mp z with z | z
          · rw [z]; exact List.mem_append_left _ List.mem_cons_self
          · exact List.mem_append_left _ (List.mem_cons_of_mem _ (List.mem_append_right _ z))), S6.hok, S6.len⟩
      refine gone_ok (Q := fun _ s7 => SP X pins D .next s7) S6' hN hi hln fun s7 J7 => ?_
      obtain ⟨pa, pb, _, _, _⟩ := J7.pin (a, oe4) (List.mem_append_right _ List.mem_cons_self)
      have J8 : Inv X pins (σ6.set i none) H6 s7 := ⟨ok, J7.os, J7.bare, J7.base, J7.loc, J7.cell, J7.free, J7.freeC, fun p hp => J7.pin p (by
        rcases List.mem_append.mp hp with z | z
        · exact List.mem_append_left _ z
        · exact List.mem_append_right _ (List.mem_cons_of_mem _ z)), J7.hok, J7.len⟩
      exact ⟨_, _, Inv.track J8 pb n0 pa hd4 nL npin (exK_ok pa hz4 ⟨_, hd4⟩), q6⟩
    | brk =>
      obtain ⟨σ6, H6, S6, q6⟩ := hsp
      exact q6.elim
    | cont =>
      obtain ⟨σ6, H6, S6, q6⟩ := hsp
      exact q6.elim
    | ret u =>
      obtain ⟨v6, σ6, H6, S6, r6, q6⟩ := hsp
      exact q6.elim
  · cases f with
    | next =>
      obtain ⟨σ', H', J', q⟩ := hsp
      exact wpAny_execs_nil ⟨σ', H', J'.ofTry ok, q⟩
    | brk =>
      obtain ⟨σ', H', J', q⟩ := hsp
      exact ⟨σ', H', J'.ofTry ok, q⟩
    | cont =>
      obtain ⟨σ', H', J', q⟩ := hsp
      exact ⟨σ', H', J'.ofTry ok, q⟩
    | ret u =>
      obtain ⟨v, σ', H', J', r, q⟩ := hsp
      exact ⟨v, σ', H', J'.ofTry ok, r, q⟩
end
/-! isinstance of a kept error -/
def rIsX (K : PySem.W.Frag) : List V → Hp → VK → Prop := fun xs H Q => ∃ (a D : Addr) (c : V) (u : Value) (b : Bool), xs = [.ref a, c] ∧ ClsV c u ∧ H a = some (ExK (.ref D) a) ∧ ExcC K D ∧ PySem.W.kitOne K (.ref D) u = some b ∧ Q (.bl b) H
def rIsXT (K : PySem.W.Frag) : List V → Hp → VK → Prop := fun xs H Q => ∃ (a D tp : Addr) (cs : List V) (us : List Value) (b : Bool), xs = [.ref a, .ref tp] ∧ H tp = some (.tup cs) ∧ Paired ClsV cs us ∧ H a = some (ExK (.ref D) a) ∧ ExcC K D ∧ PySem.W.kitAny K (.ref D) us = some b ∧ Q (.bl b) H
section
variable {X : Cx}
theorem instAt_exK {pins : List (Addr × Obj)} {σ : L2.St} {H : Hp} {s : Shared} {a D : Addr} (I : Inv X pins σ H s) (h : H a = some (ExK (.ref D) a)) : ∃ oe, PySem.W.InstAt s.heap a oe D none := by
  obtain ⟨⟨oe, hget, hz, vs, hv⟩, _⟩ := I.hok a _ h
  refine ⟨oe, ?_⟩
  obtain ⟨oc, od, oda, osl⟩ := oe
  obtain ⟨h1, h2⟩ := hz
  dsimp only at h1 h2 hv
  subst h1 h2 hv
  exact ⟨hget, rfl, rfl, trivial⟩
theorem call_isX : CallR X (.builtin "isinstance") (rIsX X.K) := by
  intro pins s σ H xs us Q I r h
  obtain ⟨a, D, c, u, b, rfl, k, ha, C, e, q⟩ := h
  obtain ⟨u1, u2, rfl, r1, r2⟩ := vals2 r
  cases r1
  have e2 := k.eq r2
  subst e2
  obtain ⟨oe, J⟩ := instAt_exK I ha
  exact PySem.W.kia_one (PySem.W.handS_kitx_exc C.hg C.hk C.hs C.hd C.ha C.hn C.ht C.hm) I.kIn J e (fun z => nomatch z) fun tk => ⟨.bl b, H, I.kept (t' := tk) fun _ _ z => z, rfl, q⟩
theorem call_isXT : CallR X (.builtin "isinstance") (rIsXT X.K) := by
  intro pins s σ H xs us Q I r h
  obtain ⟨a, D, tp, cs, ws, b, rfl, hT, k, ha, C, e, q⟩ := h
  obtain ⟨u1, u2, rfl, r1, r2⟩ := vals2 r
  cases r1
  cases (show u2 = Value.ref tp from r2)
  obtain ⟨oe, J⟩ := instAt_exK I ha
  obtain ⟨_, its, rv, o, h1, h2, n, h3⟩ := (show ObjOk X.prog X.w H s.heap tp (.tup cs) from I.hok tp _ hT)
  have e3 := ClsV.all k rv
  subst e3
  obtain ⟨oc, od, dt, sl⟩ := o
  simp only at h2 h3
  subst h2 h3
  exact PySem.W.kia_tup (PySem.W.handS_kitx_exc C.hg C.hk C.hs C.hd C.ha C.hn C.ht C.hm) I.kIn J h1 e (fun z => nomatch z) fun tk => ⟨.bl b, H, I.kept (t' := tk) fun _ _ z => z, rfl, q⟩
end
/-! ### named forms of rules whose readings are bare functions -/
def rLen (K : PySem.W.Frag) : List V → Hp → VK → Prop := fun xs H Q => ∃ p ys, xs = [.ref p] ∧ (SqL K H p ys ∨ SqT K H p ys) ∧ Q (.int ys.length) H
def rMax2 : List V → Hp → VK → Prop := fun xs H Q => ∃ i j, xs = [.int i, .int j] ∧ Q (.int (if j > i then j else i)) H
def rMin2 : List V → Hp → VK → Prop := fun xs H Q => ∃ i j, xs = [.int i, .int j] ∧ Q (.int (if j < i then j else i)) H
def rInt1 : List V → Hp → VK → Prop := fun xs H Q => (∃ i, xs = [.int i] ∧ Q (.int i) H) ∨ ∃ k, xs = [.bl k] ∧ Q (.int (if k then 1 else 0)) H
def TruK (K : PySem.W.Frag) (x : V) (H : Hp) (Q : Bool → Hp → Prop) : Prop := ∃ k, TruV K x H k ∧ Q k H
def tTruth (K : PySem.W.Frag) (ta : TE) : TT := fun σ H Q => ta σ H fun x H' => TruK K x H' Q
def b2n (k : Bool) : Int := if k then 1 else 0
def DgK (x y : V) (H : Hp) (Q : VK) : Prop := ∃ a v, x = .ref a ∧ DGet H a y (some v) ∧ Q v H
def NewL (xs : List V) (H : Hp) (Q : VK) : Prop := xs.length ≤ sizeLine ∧ ∀ p, H p = none → Q (.ref p) (upd H p (.lst xs))
def NewT (xs : List V) (H : Hp) (Q : VK) : Prop := xs.length ≤ sizeLine ∧ ∀ p, H p = none → Q (.ref p) (upd H p (.tup xs))
def DinK (x y : V) (H : Hp) (Q : VK) : Prop := ∃ a o, x = .ref a ∧ DGet H a y o ∧ Q (.bl o.isSome) H
def DputK (x y v : V) (H : Hp) (G : Hp → Prop) : Prop := ∃ a H4, x = .ref a ∧ DPut H a y v H4 ∧ G H4
section
variable {X : Cx} {a : Expr} {ta : TE}
theorem cr_len : CallR X (.builtin "len") (rLen X.K) := call_len_seq
theorem cr_max2 (hc : X.calm = true) : CallR X (.builtin "max") rMax2 := call_max2 hc
theorem cr_min2 (hc : X.calm = true) : CallR X (.builtin "min") rMin2 := call_min2 hc
theorem cr_int1 : CallR X (.type "int") rInt1 := call_int1
theorem pt_tru (ha : PE X a ta) (he : ∀ whole, isTrue a X.env whole = (do let v ← whole; standAt a.pos; holding [v] (truthy v)) := by intro _; rfl) : PT X a (tTruth X.K ta) := pt_truth ha he
end
section
variable {K : PySem.W.Frag} {σ : L2.St} {H : Hp} {Q : VK} {QT : Bool → Hp → Prop} {ta tb tc : TE} {tA : TA} {p a : Addr} {xs : List V} {x y v : V} {n : L2.St → Hp → Prop} {rt : VK} {bk ct : L2.St → Hp → Prop}
theorem rd_len (h : SqL K H p xs) (q : Q (.int xs.length) H) : rLen K [.ref p] H Q := ⟨p, xs, rfl, .inl h, q⟩
theorem rd_max2 {i j : Int} (q : Q (.int (max i j)) H) : rMax2 [.int i, .int j] H Q := ⟨i, j, rfl, by
  have e : (if j > i then j else i) = max i j := by split <;> omega
  rw [e]; exact q⟩
theorem rd_min2 {i j : Int} (q : Q (.int (min i j)) H) : rMin2 [.int i, .int j] H Q := ⟨i, j, rfl, by
  have e : (if j < i then j else i) = min i j := by split <;> omega
  rw [e]; exact q⟩
theorem rd_intB {k : Bool} (q : Q (.int (b2n k)) H) : rInt1 [.bl k] H Q := .inr ⟨k, rfl, q⟩
theorem rd_truth (h : ta σ H fun x H1 => TruK K x H1 QT) : tTruth K ta σ H QT := h
theorem trul (h : SqL K H p xs) (q : QT (!xs.isEmpty) H) : TruK K (.ref p) H QT := ⟨_, .inl ⟨xs, h, rfl⟩, q⟩
theorem rd_dget' (h : ta σ H fun x H1 => tb σ H1 fun y H2 => DgK x y H2 Q) : tDGet ta tb σ H Q := h
theorem dgk (h : DGet H a y (some v)) (q : Q v H) : DgK (.ref a) y H Q := ⟨a, v, rfl, h, q⟩
theorem dgi {kvs : List (Key × V)} {i : Int} (h : H a = some (.dK kvs)) (e : valV kvs (Sum.inl i : Key) = some v) (q : Q v H) : DgK (.ref a) (.int i) H Q := ⟨a, v, rfl, by rw [← e]; exact DGet.k (k := Sum.inl i) h, q⟩
theorem dgs {kvs : List (Key × V)} {z : Str} (h : H a = some (.dK kvs)) (e : valV kvs (Sum.inr z : Key) = some v) (q : Q v H) : DgK (.ref a) (.str z) H Q := ⟨a, v, rfl, by rw [← e]; exact DGet.k (k := Sum.inr z) h, q⟩
theorem rd_din (h : ta σ H fun y H1 => tb σ H1 fun x H2 => DinK x y H2 Q) : tDIn ta tb σ H Q := h
theorem rd_dput (h : tc σ H fun v H1 => ta σ H1 fun x H2 => tb σ H2 fun y H3 => DputK x y v H3 fun H4 => n σ H4) : sDPut ta tb tc ⟨n, rt, bk, ct⟩ σ H := h
theorem dputs {kvs kvs' : List (Key × V)} {z : Str} {G : Hp → Prop} (h : H a = some (.dK kvs)) (hl : kvs.length < sizeLine) (e : putK kvs (Sum.inr z : Key) v = kvs') (q : G (upd H a (.dK kvs'))) : DputK (.ref a) (.str z) v H G := ⟨a, _, rfl, DPut.k (k := Sum.inr z) h hl, e ▸ q⟩
theorem dputi {kvs kvs' : List (Key × V)} {i : Int} {G : Hp → Prop} (h : H a = some (.dK kvs)) (hl : kvs.length < sizeLine) (e : putK kvs (Sum.inl i : Key) v = kvs') (q : G (upd H a (.dK kvs'))) : DputK (.ref a) (.int i) v H G := ⟨a, _, rfl, DPut.k (k := Sum.inl i) h hl, e ▸ q⟩
theorem rd_lst' (h : tA σ H fun xs H1 => NewL xs H1 Q) : tLst tA σ H Q := h
theorem rd_tup' (h : tA σ H fun xs H1 => NewT xs H1 Q) : tTup tA σ H Q := h
theorem newl (h : xs.length ≤ 10000000) (q : ∀ p H1, H p = none → H1 = upd H p (.lst xs) → Q (.ref p) H1) : NewL xs H Q := ⟨sz_le h, fun p hp => q p _ hp rfl⟩
theorem newt (h : xs.length ≤ 10000000) (q : ∀ p H1, H p = none → H1 = upd H p (.tup xs) → Q (.ref p) H1) : NewT xs H Q := ⟨sz_le h, fun p hp => q p _ hp rfl⟩
/-- a new object that is read and dropped: all that is known of the heap behind it is that the old stands -/
theorem newl_s (h : xs.length ≤ 10000000) (q : ∀ p H1, H p = none → Same H H1 → H1 p = some (.lst xs) → Q (.ref p) H1) : NewL xs H Q := ⟨sz_le h, fun p hp => q p _ hp (fun b o e => by rw [upd_ne (ne_of_none e hp)]; exact e) upd_same⟩
theorem newt_s (h : xs.length ≤ 10000000) (q : ∀ p H1, H p = none → Same H H1 → H1 p = some (.tup xs) → Q (.ref p) H1) : NewT xs H Q := ⟨sz_le h, fun p hp => q p _ hp (fun b o e => by rw [upd_ne (ne_of_none e hp)]; exact e) upd_same⟩
theorem rd_ixL {i : Int} (h : SqL K H p xs) (e : atI xs i = some v) (q : Q v H) : rIxL K (.ref p) (.int i) H Q := ⟨p, xs, i, v, rfl, rfl, h, e, q⟩
theorem rd_ixT {i : Int} (h : SqT K H p xs) (e : atI xs i = some v) (q : Q v H) : rIxT K (.ref p) (.int i) H Q := ⟨p, xs, i, v, rfl, rfl, h, e, q⟩
theorem at_mem {i : Int} (h0 : 0 ≤ i) (h1 : i < xs.length) : ∃ v, atI xs i = some v ∧ v ∈ xs := by
  obtain ⟨j, rfl⟩ : ∃ j : Nat, i = (j : Int) := ⟨i.toNat, by omega⟩
  have hj : j < xs.length := by omega
  exact ⟨xs[j], atI_nat (List.getElem?_eq_getElem hj), List.getElem_mem hj⟩
def isI : V → Bool
  | .int _ => true
  | _ => false
theorem at_int {i : Int} (h0 : 0 ≤ i) (h1 : i < xs.length) (hx : xs.all isI = true) : ∃ z, atI xs i = some (V.int z) := by
  obtain ⟨v, e, m⟩ := at_mem h0 h1
  have q := List.all_eq_true.mp hx v m
  cases v <;> first | exact ⟨_, e⟩ | exact absurd q Bool.false_ne_true
/-- an item of a menu of ints, the menu laid and dropped -/
theorem rd_menu {i : Int} (h : SqL K H p xs) (hi : 0 ≤ i ∧ i < xs.length) (hx : xs.all isI = true) (q : ∀ z, V.int z ∈ xs → Q (.int z) H) : rIxL K (.ref p) (.int i) H Q := by
  obtain ⟨v, e, m⟩ := at_mem hi.1 hi.2
  have z := List.all_eq_true.mp hx v m
  cases v with
  | int z0 => exact rd_ixL h e (q z0 m)
  | _ => exact absurd z Bool.false_ne_true
theorem Same.rd {H H' : Hp} {p : Addr} {o : HO} (s : Same H H') (h : H p = some o) : H' p = some o := s p o h
theorem Same.upd {H : Hp} {p : Addr} {o : HO} (h : H p = none) : Same H (L2.upd H p o) := fun b u e => by rw [upd_ne (ne_of_none e h)]; exact e
end
/-! ### bundles: a def, a method, a class that is made -/
section
variable (P : Program) (w : World) (K : PySem.W.Frag) (mg : Str → Option Value) (base : Heap)
def FnB (CX : CXT) (k : Nat) (x : Str) (ps : List Str) (sp : Sp) : Prop := ∃ f fd, FnOk P w K mg base CX k f fd ps sp ∧ mg x = some (.ref f) ∧ PySem.W.keepIn K (.ref f) = true ∧ Binds K fd ps []
def MtB (CX : CXT) (k : Nat) (C : Addr) (m : Str) (ps : List Str) (sp : Sp) : Prop := ∃ f fd, FnOk P w K mg base CX k f fd ps sp ∧ Meth K C m f ∧ Binds K fd ps []
def MkB (CX : CXT) (k : Nat) (x : Str) (C : Addr) (ps : List Str) (sp : Sp) : Prop := ∃ f fd, FnOk P w K mg base CX k f fd ps sp ∧ Mk K C f ∧ mg x = some (.ref C) ∧ Binds K fd ps []
end
/-- what the top has written of an own error class -/
structure ExT (K : PySem.W.Frag) (mg : Str → Option Value) (x : Str) (C : Addr) : Prop where
  g : mg x = some (.ref C)
  k : PySem.W.keepIn K (.ref C) = true
  q : PySem.W.excIn K C [.type "ValueError", .type "Exception", .type "BaseException", .type "object"] "ValueError.__new__" = true
  sb : PySem.W.subIn K (.ref C) (.type "BaseException") = some true
  ty : PySem.W.typeIn K (.ref C) = some (.type "type")
  ec : ExcC K C
def Kp (p : Addr) (H H' : Hp) : Prop := ∀ b o, b ≠ p → H b = some o → H' b = some o
theorem kp_upd {p : Addr} {H : Hp} {o : HO} : Kp p H (upd H p o) := fun b u hb e => by rw [upd_ne hb]; exact e
theorem Kp.trans {p : Addr} {H H1 H2 : Hp} (a : Kp p H H1) (b : Kp p H1 H2) : Kp p H H2 := fun c o hc e => b c o hc (a c o hc e)
theorem Same.kp {p : Addr} {H H' : Hp} (s : Same H H') : Kp p H H' := fun b o _ e => s b o e
section
variable {K : PySem.W.Frag} {H : Hp} {Q : VK}
theorem rd_isi {x c : V} {t u : Value} {b : Bool} (k : ClsV c u) (ty : TyX K H x t) (e : PySem.W.kitOne K t u = some b) (q : Q (.bl b) H) : rIsi K [x, c] H Q := ⟨x, c, t, u, b, rfl, k, ty, e, q⟩
theorem rd_isX {a D : Addr} {c : V} {u : Value} {b : Bool} (k : ClsV c u) (h : H a = some (ExK (.ref D) a)) (ec : ExcC K D) (e : PySem.W.kitOne K (.ref D) u = some b) (q : Q (.bl b) H) : rIsX K [.ref a, c] H Q := ⟨a, D, c, u, b, rfl, k, h, ec, e, q⟩
theorem rd_isXT {a D tp : Addr} {cs : List V} {us : List Value} {b : Bool} (ht : H tp = some (.tup cs)) (k : Paired ClsV cs us) (h : H a = some (ExK (.ref D) a)) (ec : ExcC K D) (e : PySem.W.kitAny K (.ref D) us = some b) (q : Q (.bl b) H) : rIsXT K [.ref a, .ref tp] H Q := ⟨a, D, tp, cs, us, b, rfl, ht, k, h, ec, e, q⟩
def rIsNo : R2 := fun x y H Q => y = .non ∧ Q (.bl (decide (x = .non))) H
def rNotNo : R2 := fun x y H Q => y = .non ∧ Q (.bl (!decide (x = .non))) H
theorem rd_isno {x : V} (q : Q (.bl (decide (x = .non))) H) : rIsNo x .non H Q := ⟨rfl, q⟩
theorem rd_notno {x : V} (q : Q (.bl (!decide (x = .non))) H) : rNotNo x .non H Q := ⟨rfl, q⟩
theorem rd_isnoR {a : Addr} (q : Q (.bl false) H) : rIsNo (.ref a) .non H Q := ⟨rfl, q⟩
theorem rd_notnoR {a : Addr} (q : Q (.bl true) H) : rNotNo (.ref a) .non H Q := ⟨rfl, q⟩
theorem rd_isnoN (q : Q (.bl true) H) : rIsNo .non .non H Q := ⟨rfl, q⟩
theorem rd_notnoN (q : Q (.bl false) H) : rNotNo .non .non H Q := ⟨rfl, q⟩
theorem rd_isnoI {i : Int} (q : Q (.bl false) H) : rIsNo (.int i) .non H Q := ⟨rfl, q⟩
theorem rd_notnoI {i : Int} (q : Q (.bl true) H) : rNotNo (.int i) .non H Q := ⟨rfl, q⟩
end
section
variable {X : Cx}
theorem op_isno : OpR X (compareOp .Is) rIsNo := op_isN
theorem op_notno : OpR X (compareOp .IsNot) rNotNo := op_notN
end
section
variable {σ : L2.St} {H : Hp} {Q : VK} {ta : TE} {tA : TA}
theorem rd_call0 {sp : Sp} {E : XK} (h : tA σ H fun vs H1 => sp vs H1 Q E) : tCall sp [] E tA σ H Q := by
  have e : (fun (vs : List V) (H1 : Hp) => sp (vs ++ []) H1 Q E) = fun vs H1 => sp vs H1 Q E := by
    funext vs H1
    rw [List.append_nil]
  show tA σ H fun vs H1 => sp (vs ++ []) H1 Q E
  rw [e]
  exact h
theorem rd_meth0 {C : Addr} {m : Str} {sp : Sp} {E : XK} (h : ta σ H fun x H1 => MthK C m x H1 (tA σ H1 fun vs H2 => sp (x :: vs) H2 Q E)) : tMeth C m sp [] E ta tA σ H Q := by
  have e : (fun (x : V) (H1 : Hp) => MthK C m x H1 (tA σ H1 fun vs H2 => sp (x :: (vs ++ [])) H2 Q E)) = fun x H1 => MthK C m x H1 (tA σ H1 fun vs H2 => sp (x :: vs) H2 Q E) := by
    funext x H1
    simp only [List.append_nil]
  show ta σ H fun x H1 => MthK C m x H1 (tA σ H1 fun vs H2 => sp (x :: (vs ++ [])) H2 Q E)
  rw [e]
  exact h
theorem rd_make0 {C : Addr} {sp : Sp} {E : XK} (h : tA σ H fun vs H1 => ∀ x dx, H1 x = none → H1 dx = none → dx ≠ x → sp (.ref x :: vs) (upd (upd H1 dx (.own x)) x (.ins C dx [])) (fun v H2 => v = .non ∧ Q (.ref x) H2) E) : tMake C sp [] E tA σ H Q := by
  have e : (fun (vs : List V) (H1 : Hp) => ∀ x dx, H1 x = none → H1 dx = none → dx ≠ x → sp (.ref x :: (vs ++ [])) (upd (upd H1 dx (.own x)) x (.ins C dx [])) (fun v H2 => v = .non ∧ Q (.ref x) H2) E) =
    fun vs H1 => ∀ x dx, H1 x = none → H1 dx = none → dx ≠ x → sp (.ref x :: vs) (upd (upd H1 dx (.own x)) x (.ins C dx [])) (fun v H2 => v = .non ∧ Q (.ref x) H2) E := by
    funext vs H1
    simp only [List.append_nil]
  show tA σ H _
  rw [← e] at h
  exact h
end
theorem hp_ne {H : Hp} {a b : Addr} {o : HO} {u : Option HO} (hne : a ≠ b) (hh : H a = u) : L2.upd H b o a = u := (upd_ne hne).trans hh
theorem hp_same {H H' : Hp} {p : Addr} {o : HO} (hs : Same H H') (hh : H p = some o) : H' p = some o := hs p o hh
theorem sq_l {K : PySem.W.Frag} {H : Hp} {a : Addr} {xs : List V} (hh : H a = some (.lst xs)) : SqL K H a xs := SqL.of hh
theorem sq_t {K : PySem.W.Frag} {H : Hp} {a : Addr} {xs : List V} (hh : H a = some (.tup xs)) : SqT K H a xs := SqT.of hh
theorem sq_s {K : PySem.W.Frag} {H H' : Hp} {a : Addr} {xs : List V} (hs : Same H H') (hh : SqL K H a xs) : SqL K H' a xs := hs.seq hh
theorem ne_n1 {H : Hp} {a b : Addr} {o : HO} (h1 : H a = some o) (h2 : H b = none) : a ≠ b := ne_of_none h1 h2
theorem ne_n2 {H : Hp} {a b : Addr} {o : HO} (h1 : H a = some o) (h2 : H b = none) : b ≠ a := (ne_of_none h1 h2).symm
/-! ### isinstance of an own class's instance: the answers -/
theorem kit_self {K : PySem.W.Frag} {C : Addr} : PySem.W.kitOne K (.ref C) (.ref C) = some true := by
  unfold PySem.W.kitOne
  rw [if_pos (beq_self_eq_true _)]
theorem kit_type {K : PySem.W.Frag} {C : Addr} {T : String} {b : Bool} (hm : PySem.W.kitMeta T = true) (h : PySem.W.subIn K (.ref C) (.type T) = some b) : PySem.W.kitOne K (.ref C) (.type T) = some b := by
  unfold PySem.W.kitOne
  rw [if_neg (by simp)]
  show (if PySem.W.kitMeta T = true then PySem.W.subIn K (.ref C) (.type T) else none) = some b
  rw [if_pos hm]
  exact h
theorem kit_ref {K : PySem.W.Frag} {C D : Addr} {b : Bool} (hd : (Value.ref C == Value.ref D) = false) (hc : PySem.W.hasDictIn K D = true) (ht : PySem.W.typeIn K (.ref D) = some (.type "type")) (h : PySem.W.subIn K (.ref C) (.ref D) = some b) : PySem.W.kitOne K (.ref C) (.ref D) = some b := by
  unfold PySem.W.kitOne
  rw [if_neg (by rw [hd]; exact Bool.false_ne_true)]
  obtain ⟨cd, hcd, _⟩ := PySem.W.any_some hc
  have e2 : ((PySem.W.clsIn K D).isSome && PySem.W.typeIn K (.ref D) == some (.type "type")) = true := by rw [hcd, ht] <;> rfl
  show (if ((PySem.W.clsIn K D).isSome && PySem.W.typeIn K (.ref D) == some (.type "type")) = true then PySem.W.subIn K (.ref C) (.ref D) else none) = some b
  rw [if_pos e2]
  exact h
theorem kit_none3 {K : PySem.W.Frag} {t a b c : Value} (h1 : PySem.W.kitOne K t a = some false) (h2 : PySem.W.kitOne K t b = some false) (h3 : PySem.W.kitOne K t c = some false) : PySem.W.kitAny K t [a, b, c] = some false :=
  kitAny_cons h1 (fun _ => kitAny_cons h2 (fun _ => kitAny_cons h3 (fun _ => kitAny_nil) (fun z => nomatch z)) (fun z => nomatch z)) (fun z => nomatch z)
/-! ### pairs of whole numbers compared -/
section
variable {X : Cx} {K : PySem.W.Frag} {H : Hp} {Q : VK}
def PairAt (K : PySem.W.Frag) (H : Hp) (a : Addr) (i j : Int) : Prop := SqT K H a [.int i, .int j]
def rPair (K : PySem.W.Frag) (f : Int → Int → Int → Int → Bool) : R2 := fun x y H Q => ∃ (a b : Addr) (i j k l : Int), x = .ref a ∧ y = .ref b ∧ PairAt K H a i j ∧ PairAt K H b k l ∧ Q (.bl (f i j k l)) H
def fLtP (i j k l : Int) : Bool := decide (i < k ∨ i = k ∧ j < l)
def fGeP (i j k l : Int) : Bool := decide (¬ (i < k ∨ i = k ∧ j < l))
def fEqP (i j k l : Int) : Bool := decide (i = k ∧ j = l)
def fNeP (i j k l : Int) : Bool := !decide (i = k ∧ j = l)
theorem op_ltP (hu : X.A.units < cLine) : OpR X (compareOp .Lt) (rPair X.K fLtP) := by
  intro pins s σ H x y v u Q I rx ry h
  obtain ⟨a, b, i, j, k, l, rfl, rfl, ha, hb, q⟩ := h
  refine op_ltT hu pins s σ H _ _ v u Q I rx ry ⟨a, b, [i, j], [k, l], rfl, rfl, ha, hb, ?_⟩
  have e : HT.lexLt [i, j] [k, l] = fLtP i j k l := by
    rw [HT.lexLt_cons, HT.lexLt_cons, HT.lexLt_nil_nil]
    unfold fLtP
    by_cases h1 : i = k
    · rw [if_pos h1]
      by_cases h2 : j = l
      · rw [if_pos h2]; exact (decide_eq_false (by omega)).symm
      · rw [if_neg h2]
        by_cases h3 : j < l
        · rw [decide_eq_true h3]; exact (decide_eq_true (by omega)).symm
        · rw [decide_eq_false h3]; exact (decide_eq_false (by omega)).symm
    · rw [if_neg h1]
      by_cases h3 : i < k
      · rw [decide_eq_true h3]; exact (decide_eq_true (by omega)).symm
      · rw [decide_eq_false h3]; exact (decide_eq_false (by omega)).symm
  rw [e]
  exact q
theorem op_geP (hu : X.A.units < cLine) : OpR X (compareOp .GtE) (rPair X.K fGeP) := by
  intro pins s σ H x y v u Q I rx ry h
  obtain ⟨a, b, i, j, k, l, rfl, rfl, ha, hb, q⟩ := h
  cases rx
  cases ry
  obtain ⟨its, r1, p1, _⟩ := I.tuple ha
  obtain ⟨its2, r2, p2, _⟩ := I.tuple hb
  obtain ⟨u1, u2, rfl, e1, e2⟩ := vals2 r1
  obtain ⟨w1, w2, rfl, f1, f2⟩ := vals2 r2
  obtain ⟨t1, rfl⟩ := e1
  obtain ⟨t2, rfl⟩ := e2
  obtain ⟨t3, rfl⟩ := f1
  obtain ⟨t4, rfl⟩ := f2
  have R := Ob.RcOp.tuples_ge (A := X.A) (s := s) (e := fun n => match n with | 0 => i == k | _ => j == l) (r := fun n => match n with | 0 => decide (k ≤ i) | _ => decide (l ≤ j)) p1 p2 hu (fun n h1 h2 => by
    match n, h1 with
    | 0, _ => exact SeqAt.EqAt.int_int _ _ _ _
    | 1, _ => exact SeqAt.EqAt.int_int _ _ _ _
    | n + 2, h1 => exact absurd h1 (by simp)) (fun n h1 h2 _ => by
    match n, h1 with
    | 0, _ => exact Ob.RcOp.ge_int _ _ _ _
    | 1, _ => exact Ob.RcOp.ge_int _ _ _ _
    | n + 2, h1 => exact absurd h1 (by simp))
  have e : (Ob.lexAt (fun n => match n with | 0 => i == k | _ => j == l) (fun n => match n with | 0 => decide (k ≤ i) | _ => decide (l ≤ j)) true 0 2) = fGeP i j k l := by
    show (if (i == k) = true then (if (j == l) = true then true else decide (l ≤ j)) else decide (k ≤ i)) = fGeP i j k l
    unfold fGeP
    by_cases h1 : i = k
    · rw [if_pos (beq_iff_eq.mpr h1)]
      by_cases h2 : j = l
      · rw [if_pos (beq_iff_eq.mpr h2)]; exact (decide_eq_true (by omega)).symm
      · rw [if_neg (fun z => h2 (beq_iff_eq.mp z))]
        by_cases h3 : l ≤ j
        · rw [decide_eq_true h3]; exact (decide_eq_true (by omega)).symm
        · rw [decide_eq_false h3]; exact (decide_eq_false (by omega)).symm
    · rw [if_neg (fun z => h1 (beq_iff_eq.mp z))]
      by_cases h3 : k ≤ i
      · rw [decide_eq_true h3]; exact (decide_eq_true (by omega)).symm
      · rw [decide_eq_false h3]; exact (decide_eq_false (by omega)).symm
  have R' : wpAny (model X.prog X.w) X.A (compareOp .GtE (.ref a) (.ref b)) (EP X pins σ Q) X.xe s := R X.prog X.w X.xe (EP X pins σ Q) ⟨.bl _, H, I, rfl, by
    have z : (Ob.lexAt (fun n => match n with | 0 => i == k | _ => j == l) (fun n => match n with | 0 => decide (k ≤ i) | _ => decide (l ≤ j)) true 0 2) = fGeP i j k l := e
    exact z ▸ q⟩
  exact R'
theorem eqv_pair {i j k l : Int} : PyData.eqv (.tuple [.int i, .int j]) (.tuple [.int k, .int l]) = fEqP i j k l := by
  show ((i == k) && ((j == l) && true)) = fEqP i j k l
  unfold fEqP
  by_cases h1 : i = k <;> by_cases h2 : j = l <;> simp [h1, h2]
theorem op_eqP (hu : X.A.units + 64 < cLine) : OpR X (compareOp .Eq) (rPair X.K fEqP) := by
  intro pins s σ H x y v u Q I rx ry h
  obtain ⟨a, b, i, j, k, l, rfl, rfl, ha, hb, q⟩ := h
  exact op_eqD hu pins s σ H _ _ v u Q I rx ry ⟨.tuple [.int i, .int j], .tuple [.int k, .int l], .tup ha (.cons (.int i) (.cons (.int j) .nil)), .tup hb (.cons (.int k) (.cons (.int l) .nil)), rfl, rfl, by rw [eqv_pair]; exact q⟩
theorem op_neP (hu : X.A.units + 64 < cLine) : OpR X (compareOp .NotEq) (rPair X.K fNeP) := by
  intro pins s σ H x y v u Q I rx ry h
  obtain ⟨a, b, i, j, k, l, rfl, rfl, ha, hb, q⟩ := h
  exact op_neD hu pins s σ H _ _ v u Q I rx ry ⟨.tuple [.int i, .int j], .tuple [.int k, .int l], .tup ha (.cons (.int i) (.cons (.int j) .nil)), .tup hb (.cons (.int k) (.cons (.int l) .nil)), rfl, rfl, by rw [eqv_pair]; exact q⟩
theorem rd_pair {f : Int → Int → Int → Int → Bool} {a b : Addr} {i j k l : Int} (h1 : H a = some (.tup [.int i, .int j])) (h2 : H b = some (.tup [.int k, .int l])) (q : Q (.bl (f i j k l)) H) : rPair K f (.ref a) (.ref b) H Q := ⟨a, b, i, j, k, l, rfl, rfl, SqT.of h1, SqT.of h2, q⟩
theorem bif_lt {i j k l : Int} {A B : Prop} (h1 : (i < k ∨ i = k ∧ j < l) → A) (h2 : ¬ (i < k ∨ i = k ∧ j < l) → B) : BIf (fLtP i j k l) A B := bif_d h1 h2
theorem bif_geP {i j k l : Int} {A B : Prop} (h1 : ¬ (i < k ∨ i = k ∧ j < l) → A) (h2 : (i < k ∨ i = k ∧ j < l) → B) : BIf (fGeP i j k l) A B := bif_d h1 fun z => h2 (Decidable.not_not.mp z)
theorem bif_eqP {i j k l : Int} {A B : Prop} (h1 : (i = k ∧ j = l) → A) (h2 : ¬ (i = k ∧ j = l) → B) : BIf (fEqP i j k l) A B := bif_d h1 h2
theorem bif_neP {i j k l : Int} {A B : Prop} (h1 : ¬ (i = k ∧ j = l) → A) (h2 : (i = k ∧ j = l) → B) : BIf (fNeP i j k l) A B := bif_nd h2 h1
/-! scalars -/
theorem rd_eqI {i j : Int} (q : Q (.bl (decide (i = j))) H) : rEq (.int i) (.int j) H Q := ⟨rfl, by
  have e : decide (V.int i = V.int j) = decide (i = j) := by simp
  rw [e]; exact q⟩
theorem rd_neI {i j : Int} (q : Q (.bl (!decide (i = j))) H) : rNe (.int i) (.int j) H Q := ⟨rfl, by
  have e : decide (V.int i = V.int j) = decide (i = j) := by simp
  rw [e]; exact q⟩
theorem rd_eqNI {i : Int} (q : Q (.bl false) H) : rEq .non (.int i) H Q := ⟨rfl, q⟩
theorem rd_eqIN {i : Int} (q : Q (.bl false) H) : rEq (.int i) .non H Q := ⟨rfl, q⟩
theorem rd_neNI {i : Int} (q : Q (.bl true) H) : rNe .non (.int i) H Q := ⟨rfl, q⟩
theorem rd_neIN {i : Int} (q : Q (.bl true) H) : rNe (.int i) .non H Q := ⟨rfl, q⟩
theorem rd_eqB {i j : Bool} (q : Q (.bl (i == j)) H) : rEq (.bl i) (.bl j) H Q := ⟨rfl, by
  have e : decide (V.bl i = V.bl j) = (i == j) := by cases i <;> cases j <;> rfl
  rw [e]; exact q⟩
theorem rd_neB {i j : Bool} (q : Q (.bl (i != j)) H) : rNe (.bl i) (.bl j) H Q := ⟨rfl, by
  have e : (!decide (V.bl i = V.bl j)) = (i != j) := by cases i <;> cases j <;> rfl
  rw [e]; exact q⟩
end
/-! ### terms -/
structure Tm where
  low : Int
  high : Int
  len : Int
  kn : Int
def Tm.ok (T : Tm) : Prop := (1 ≤ T.low ∧ T.low ≤ T.high ∧ T.high ≤ 1000) ∧ (1 ≤ T.len ∧ T.len ≤ 1000000) ∧ 1 ≤ T.kn ∧ T.kn ≤ 9
def Tm.ticks (T : Tm) : Int := (T.len + T.low - 1) / T.low
def Tm.wait (T : Tm) : Int := T.high * T.ticks
def Tm.most (T : Tm) : Int := T.kn / 2 + 1
theorem Tm.ticks_ok {T : Tm} (h : T.ok) : T.len ≤ T.ticks * T.low ∧ (T.ticks - 1) * T.low < T.len ∧ 1 ≤ T.ticks := by
  obtain ⟨⟨h1, h2, h3⟩, ⟨h4, h5⟩, _⟩ := h
  have e := Int.emod_add_mul_ediv (T.len + T.low - 1) T.low
  have r1 := Int.emod_nonneg (T.len + T.low - 1) (show T.low ≠ 0 by omega)
  have r2 := Int.emod_lt_of_pos (T.len + T.low - 1) (show 0 < T.low by omega)
  have q : T.ticks = (T.len + T.low - 1) / T.low := rfl
  rw [← q] at e
  have c : T.low * T.ticks = T.ticks * T.low := Int.mul_comm _ _
  have d : (T.ticks - 1) * T.low = T.ticks * T.low - T.low := by rw [Int.sub_mul, Int.one_mul]
  refine ⟨by omega, by omega, ?_⟩
  have z : 1 ≤ (T.len + T.low - 1) / T.low := (Int.le_ediv_iff_mul_le (by omega)).mpr (by omega)
  omega
theorem Tm.most_ok (T : Tm) : T.kn < 2 * T.most ∧ 2 * (T.most - 1) ≤ T.kn := by
  have e : T.most = T.kn / 2 + 1 := rfl
  rw [e]
  omega
def tf (T : Tm) : List (Str × V) := [("low", .int T.low), ("high", .int T.high), ("length", .int T.len), ("keepers", .int T.kn)]
structure TAt (C : Addr) (H : Hp) (t : Addr) (T : Tm) : Prop where
  ok : T.ok
  at_ : ∃ dx, H t = some (.ins C dx (tf T))
theorem TAt.most1 {C : Addr} {H : Hp} {t : Addr} {T : Tm} (_ : TAt C H t T) : T.kn < 2 * T.most := (Tm.most_ok T).1
theorem TAt.most2 {C : Addr} {H : Hp} {t : Addr} {T : Tm} (_ : TAt C H t T) : 2 * (T.most - 1) ≤ T.kn := (Tm.most_ok T).2
structure TTxt (K : PySem.W.Frag) (C : Addr) : Prop where
  cl : Cls K C
  n1 : NoAttr K C "low"
  n2 : NoAttr K C "high"
  n3 : NoAttr K C "length"
  n4 : NoAttr K C "keepers"
def spT0 (C : Addr) (f : Tm → Int) : Sp := fun vs H Q _ => ∃ t T, vs = [.ref t] ∧ TAt C H t T ∧ Q (.int (f T)) H
theorem spT0_use {C : Addr} {f : Tm → Int} {t : Addr} {T : Tm} {H : Hp} {Q : VK} {E : XK} (h : TAt C H t T) (q : Q (.int (f T)) H) : spT0 C f [.ref t] H Q E := ⟨t, T, rfl, h, q⟩
def spTI (C B : Addr) : Sp := fun vs H Q E => ∃ x dx T, vs = [.ref x, .int T.low, .int T.high, .int T.len, .int T.kn] ∧ H x = some (.ins C dx []) ∧
  (T.ok → ∀ H', TAt C H' x T → Kp x H H' → Q .non H') ∧ (¬ T.ok → E (.ref B) none H)
def spCell (K : PySem.W.Frag) : Sp := fun vs H Q _ => ∃ (a : Addr) (ns : List Int) (k : Int), vs = [.ref a, .int k] ∧ SqL K H a (ns.map V.int) ∧ ∀ z, Q (.int z) H
def spMix (K : PySem.W.Frag) : Sp := fun vs H Q _ => ∃ (a : Addr) (ns : List Int) (k : Int), vs = [.ref a, .int k] ∧ SqL K H a (ns.map V.int) ∧ ∀ m, 0 ≤ m → m < 4294967231 → Q (.int m) H
theorem spMix_use {K : PySem.W.Frag} {a : Addr} {ns : List Int} {k : Int} {H : Hp} {Q : VK} {E : XK} (h : SqL K H a (ns.map V.int)) (q : ∀ m, 0 ≤ m → m < 4294967231 → Q (.int m) H) : spMix K [.ref a, .int k] H Q E := ⟨a, ns, k, rfl, h, q⟩
theorem spT0_at {C : Addr} {f : Tm → Int} {t dx : Addr} {T : Tm} {H : Hp} {Q : VK} {E : XK} (ok : T.ok) (h : H t = some (.ins C dx (tf T))) (q : Q (.int (f T)) H) : spT0 C f [.ref t] H Q E := ⟨t, T, rfl, ⟨ok, dx, h⟩, q⟩
/-! ### keepers -/
structure KSt where
  clock : Int
  ends : Int
  own : Option (Int × Int × Int)
def kf (t : Addr) (c e : Int) (nm nu : V) : List (Str × V) := [("terms", .ref t), ("clock", .int c), ("ends", .int e), ("name", nm), ("number", nu)]
def OwnAt (H : Hp) (nm nu : V) : Option (Int × Int × Int) → Prop
  | none => nm = .non ∧ nu = .non
  | some (n, a, b) => nm = .int n ∧ ∃ q, nu = .ref q ∧ H q = some (.tup [.int a, .int b])
def KAt (C : Addr) (H : Hp) (p t : Addr) (s : KSt) : Prop := ∃ dx nm nu, H p = some (.ins C dx (kf t s.clock s.ends nm nu)) ∧ OwnAt H nm nu s.own
structure KTxt (K : PySem.W.Frag) (C : Addr) : Prop where
  cl : Cls K C
  n1 : NoAttr K C "terms"
  n2 : NoAttr K C "clock"
  n3 : NoAttr K C "ends"
  n4 : NoAttr K C "name"
  n5 : NoAttr K C "number"
theorem key_ne {C C' dx dx' : Addr} {a b : Str} {v v' : V} {l l' : List (Str × V)} (h : a ≠ b) : HO.ins C dx ((a, v) :: l) ≠ HO.ins C' dx' ((b, v') :: l') := by
  intro z
  injection z with _ _ z
  injection z with z _
  injection z with z _
  exact h z
theorem tk_ne {H : Hp} {t p CT dx CK dx' t' : Addr} {T : Tm} {c e : Int} {nm nu : V} (h1 : H t = some (.ins CT dx (tf T))) (h2 : H p = some (.ins CK dx' (kf t' c e nm nu))) : t ≠ p := ne_of h1 h2 (key_ne (by decide +kernel))
theorem qp_ne {H : Hp} {q p C dx : Addr} {xs : List V} {fs : List (Str × V)} (h1 : H q = some (.tup xs)) (h2 : H p = some (.ins C dx fs)) : q ≠ p := ne_of h1 h2 (by intro z; cases z)
theorem OwnAt.to {H H' : Hp} {nm nu : V} (h : ∀ q xs, H q = some (.tup xs) → H' q = some (.tup xs)) : ∀ {o : Option (Int × Int × Int)}, OwnAt H nm nu o → OwnAt H' nm nu o
  | none, x => x
  | some (n, a, b), ⟨e, q, e2, hq⟩ => ⟨e, q, e2, h q _ hq⟩
/-- the law's own keeper, asked; freed -/
def kAsk (wt c n a b : Int) (s : KSt) : KSt × Bool :=
  if c < s.ends then
    match s.own with
    | none => (⟨c, s.ends, none⟩, false)
    | some (n', a', b') =>
      if n = n' then
        if a < a' ∨ a = a' ∧ b < b' then (⟨c, s.ends, some (n', a', b')⟩, false)
        else if a = a' ∧ b = b' then (⟨c, s.ends, some (n', a', b')⟩, true)
        else (⟨c, c + wt, some (n, a, b)⟩, true)
      else (⟨c, s.ends, some (n', a', b')⟩, false)
  else (⟨c, c + wt, some (n, a, b)⟩, true)
def kFree (c n a b : Int) (s : KSt) : KSt :=
  match s.own with
  | none => ⟨c, s.ends, none⟩
  | some (n', a', b') => if n = n' ∧ ¬ (a < a' ∨ a = a' ∧ b < b') then ⟨c, min s.ends c, some (n', a', b')⟩ else ⟨c, s.ends, some (n', a', b')⟩
def kLet (c : Int) (s : KSt) : V := if c < s.ends then (match s.own with | none => .non | some (n, _, _) => .int n) else .non
def spLookK (C B : Addr) : Sp := fun vs H Q E => ∃ p dx t c0 e nm nu c, vs = [.ref p, .int c] ∧ H p = some (.ins C dx (kf t c0 e nm nu)) ∧ (c < c0 → E (.ref B) none H) ∧ (c0 ≤ c → Q .non (upd H p (.ins C dx (kf t c e nm nu))))
theorem spLookK_use {C B p dx t : Addr} {c0 e c : Int} {nm nu : V} {H : Hp} {Q : VK} {E : XK} (h : H p = some (.ins C dx (kf t c0 e nm nu))) (he : c < c0 → E (.ref B) none H) (q : c0 ≤ c → Q .non (upd H p (.ins C dx (kf t c e nm nu)))) : spLookK C B [.ref p, .int c] H Q E := ⟨p, dx, t, c0, e, nm, nu, c, rfl, h, he, q⟩
def spIsLet (C : Addr) : Sp := fun vs H Q _ => ∃ p dx t c0 e nm nu c, vs = [.ref p, .int c] ∧ H p = some (.ins C dx (kf t c0 e nm nu)) ∧ Q (.bl (decide (c < e))) H
theorem spIsLet_use {C p dx t : Addr} {c0 e c : Int} {nm nu : V} {H : Hp} {Q : VK} {E : XK} (h : H p = some (.ins C dx (kf t c0 e nm nu))) (q : Q (.bl (decide (c < e))) H) : spIsLet C [.ref p, .int c] H Q E := ⟨p, dx, t, c0, e, nm, nu, c, rfl, h, q⟩
def spKI (C CT : Addr) : Sp := fun vs H Q _ => ∃ x dx t T c, vs = [.ref x, .ref t, .int c] ∧ H x = some (.ins C dx []) ∧ TAt CT H t T ∧ ∀ H', KAt C H' x t ⟨c, c + T.wait, none⟩ → Kp x H H' → Q .non H'
def spAsked (C CT B : Addr) : Sp := fun vs H Q E => ∃ p t st T c n q a b, vs = [.ref p, .int c, .int n, .ref q] ∧ KAt C H p t st ∧ TAt CT H t T ∧ H q = some (.tup [.int a, .int b]) ∧ (c < st.clock → E (.ref B) none H) ∧
  (st.clock ≤ c → ∀ H', KAt C H' p t (kAsk T.wait c n a b st).1 → Kp p H H' → Q (.bl (kAsk T.wait c n a b st).2) H')
def spFreed (C B : Addr) : Sp := fun vs H Q E => ∃ p t st c n q a b, vs = [.ref p, .int c, .int n, .ref q] ∧ KAt C H p t st ∧ H q = some (.tup [.int a, .int b]) ∧ (c < st.clock → E (.ref B) none H) ∧
  (st.clock ≤ c → ∀ H', KAt C H' p t (kFree c n a b st) → Kp p H H' → Q .non H')
def spLetTo (C B : Addr) : Sp := fun vs H Q E => ∃ p t st c, vs = [.ref p, .int c] ∧ KAt C H p t st ∧ (c < st.clock → E (.ref B) none H) ∧ (st.clock ≤ c → ∀ H', KAt C H' p t ⟨c, st.ends, st.own⟩ → Kp p H H' → Q (kLet c st) H')
theorem made_same {H H' : Hp} {x dx C : Addr} (hx : H x = none) (hd : H dx = none) (k : Kp x (upd (upd H dx (.own x)) x (.ins C dx [])) H') : Same H H' := fun b o e =>
  k b o (ne_of_none e hx) (by rw [upd_ne (ne_of_none e hx), upd_ne (ne_of_none e hd)]; exact e)
/-! ### loops, methods of lists and dicts, displays: named readings -/
def ForK (J : It) (g : TG) (tb : TS) (D : Ends) (σ : L2.St) (H : Hp) : Prop := ∃ W : Nat → Nat → L2.St → Hp → Prop, (∃ m, W 0 m σ H) ∧ ∀ i m σ H, W i m σ H →
  (J.stop i H ∧ D.nx σ H) ∨ (J.go i H ∧ ∃ N : L2.St → Hp → Prop, (∀ σ' H', N σ' H' → ∃ m', m' < m ∧ W (i + 1) m' σ' H') ∧ ∀ x H', J.yld i H x H' → g x σ H' fun σ2 H2 => tb { D with nx := N, ct := N, bk := D.nx } σ2 H2)
def Rng1K (vs : List V) (H : Hp) (R : It → Hp → Prop) : Prop := ∃ j : Int, vs = [.int j] ∧ -(2 ^ 62) ≤ j ∧ j < 2 ^ 62 ∧ R (Itr 0 j.toNat) H
def WhB (W : Nat → L2.St → Hp → Prop) (m : Nat) (tb : TS) (n : L2.St → Hp → Prop) (rt : VK) (σ : L2.St) (H : Hp) : Prop := ∃ N : L2.St → Hp → Prop, (∀ σ' H', N σ' H' → ∃ m', m' < m ∧ W m' σ' H') ∧ tb ⟨N, rt, n, N⟩ σ H
def TyK (K : PySem.W.Frag) (T : String) (x : V) (H : Hp) (G : Prop) : Prop := tyV K T x H ∧ G
def DspK (p : Addr) (ps : List (V × V)) (H : Hp) (Q : VK) : Prop := H p = some (.dK []) ∧ ∃ kvs : List (Key × V), ps = kvs.map (fun kv => (kV kv.1, kv.2)) ∧ kvs.length ≤ 15 ∧ Q (.ref p) (upd H p (.dK (mergeK [] kvs)))
section
variable {K : PySem.W.Frag} {σ : L2.St} {H : Hp} {Q : VK} {QT : Bool → Hp → Prop} {ta tb tc te : TE} {t u : TT} {tA : TA} {p a b : Addr} {xs : List V} {x y v : V} {n : L2.St → Hp → Prop} {rt : VK} {bk ct : L2.St → Hp → Prop} {g : TG} {ts : TS}
theorem rd_for {wi : TI} (h : wi σ H fun J H1 => ForK J g ts ⟨n, rt, bk, ct⟩ σ H1) : tFor wi g ts ⟨n, rt, bk, ct⟩ σ H := h
theorem rd_rng1 {R : It → Hp → Prop} (h : tA σ H fun vs H1 => Rng1K vs H1 R) : iRng1 tA σ H R := h
theorem rng1 {j : Int} {R : It → Hp → Prop} (h0 : 0 ≤ j) (h1 : j < 1000000) (q : R (Itr 0 j.toNat) H) : Rng1K [.int j] H R := ⟨j, rfl, by omega, by omega, q⟩
theorem forR {lo : Int} {k : Nat} (Pv : Nat → L2.St → Hp → Prop) (h0 : Pv 0 σ H) (hs : ∀ i σ H, i < k → Pv i σ H → g (.int (lo + i)) σ H fun σ2 H2 => ts ⟨Pv (i + 1), rt, n, Pv (i + 1)⟩ σ2 H2) (hd : ∀ σ H, Pv k σ H → n σ H) :
    ForK (Itr lo k) g ts ⟨n, rt, bk, ct⟩ σ H := for_range (D := ⟨n, rt, bk, ct⟩) Pv h0 hs hd
theorem forL {xs : List V} (Pv : Nat → L2.St → Hp → Prop) (h0 : Pv 0 σ H) (hl : ∀ i σ H, i ≤ xs.length → Pv i σ H → SqL K H a xs) (hs : ∀ i x σ H, xs[i]? = some x → Pv i σ H → g x σ H fun σ2 H2 => ts ⟨Pv (i + 1), rt, n, Pv (i + 1)⟩ σ2 H2) (hd : ∀ σ H, Pv xs.length σ H → n σ H) :
    ForK (Itl K a) g ts ⟨n, rt, bk, ct⟩ σ H := for_list (D := ⟨n, rt, bk, ct⟩) Pv h0 hl hs hd
theorem forT {xs : List V} (Pv : Nat → L2.St → Hp → Prop) (h0 : Pv 0 σ H) (hl : ∀ i σ H, i ≤ xs.length → Pv i σ H → SqT K H a xs) (hs : ∀ i x σ H, xs[i]? = some x → Pv i σ H → g x σ H fun σ2 H2 => ts ⟨Pv (i + 1), rt, n, Pv (i + 1)⟩ σ2 H2) (hd : ∀ σ H, Pv xs.length σ H → n σ H) :
    ForK (Itt K a) g ts ⟨n, rt, bk, ct⟩ σ H := for_tup (D := ⟨n, rt, bk, ct⟩) Pv h0 hl hs hd
theorem rd_gname {i : Nat} {R : L2.St → Hp → Prop} (q : R (σ.set i (some v)) H) : gName i v σ H R := q
theorem rd_while (W : Nat → L2.St → Hp → Prop) (m0 : Nat) (h0 : W m0 σ H) (hs : ∀ m σ H, W m σ H → t σ H fun c H1 => BIf c (WhB W m ts n rt σ H1) (n σ H1)) : tWhile t ts ⟨n, rt, bk, ct⟩ σ H := ⟨W, ⟨m0, h0⟩, hs⟩
theorem whb {W : Nat → L2.St → Hp → Prop} {m : Nat} (h : ts ⟨fun σ' H' => ∃ m', m' < m ∧ W m' σ' H', rt, n, fun σ' H' => ∃ m', m' < m ∧ W m' σ' H'⟩ σ H) : WhB W m ts n rt σ H := ⟨_, fun _ _ z => z, h⟩
theorem rd_bm {T : String} {r : V → List V → Hp → VK → Prop} (h : ta σ H fun x H1 => TyK K T x H1 (tA σ H1 fun xs H2 => r x xs H2 Q)) : tBM K T r ta tA σ H Q := h
theorem rd_bm0 {T : String} {r : V → List V → Hp → VK → Prop} (h : ta σ H fun x H1 => TyK K T x H1 (r x [] H1 Q)) : tBM0 K T r ta σ H Q := h
theorem tyk_l {G : Prop} (h : SqL K H p xs) (q : G) : TyK K "list" (.ref p) H G := ⟨.inl ⟨rfl, xs, h⟩, q⟩
theorem tyk_dK {kvs : List (Key × V)} {G : Prop} (h : H p = some (.dK kvs)) (q : G) : TyK K "dict" (.ref p) H G := ⟨.inr (.inr (.inl ⟨rfl, .inl ⟨kvs, h⟩⟩)), q⟩
theorem tyk_dT {kvs : List (List Key × V)} {G : Prop} (h : H p = some (.dT kvs)) (q : G) : TyK K "dict" (.ref p) H G := ⟨.inr (.inr (.inl ⟨rfl, .inr ⟨kvs, h⟩⟩)), q⟩
theorem rd_append (h : H p = some (.lst xs)) (hl : xs.length < sizeLine) (q : Q .non (upd H p (.lst (xs ++ [y])))) : rAppend (.ref p) [y] H Q := ⟨p, xs, y, rfl, rfl, h, hl, q⟩
theorem rd_disp {trs : List (TE × TE)} (h : ∀ p, H p = none → tPairs trs σ (upd H p (.dK [])) fun ps H2 => DspK p ps H2 Q) : tDisp trs σ H Q := h
theorem rd_pn {R : List (V × V) → Hp → Prop} (q : R [] H) : tPairs [] σ H R := q
theorem rd_pc {R : List (V × V) → Hp → Prop} {trs : List (TE × TE)} (h : ta σ H fun x H1 => tb σ H1 fun y H2 => tPairs trs σ H2 fun ps H3 => R ((x, y) :: ps) H3) : tPairs ((ta, tb) :: trs) σ H R := h
theorem dspk {ps : List (V × V)} (kvs : List (Key × V)) {kvs' : List (Key × V)} (h : H p = some (.dK [])) (e : ps = kvs.map (fun kv => (kV kv.1, kv.2))) (hl : kvs.length ≤ 15) (em : mergeK [] kvs = kvs') (q : Q (.ref p) (upd H p (.dK kvs'))) : DspK p ps H Q := ⟨h, kvs, e, hl, em ▸ q⟩
theorem rd_dnewK (h : ∀ p, H p = none → Q (.ref p) (upd H p (.dK []))) : tDNewK σ H Q := h
theorem rd_dnewT (h : ∀ p, H p = none → Q (.ref p) (upd H p (.dT []))) : tDNewT σ H Q := h
theorem rd_neD {d e : PyData} (h1 : Dp K H x d) (h2 : Dp K H y e) (s1 : SeqAt.shaped d = true) (s2 : SeqAt.shaped e = true) (q : Q (.bl (!PyData.eqv d e)) H) : rNeD K x y H Q := ⟨d, e, h1, h2, s1, s2, q⟩
end
/-- d.update(d2) -/
def rUpdK : V → List V → Hp → VK → Prop := fun x xs H Q => ∃ (a b : Addr) (kvs more : List (Key × V)), x = .ref a ∧ xs = [.ref b] ∧ H a = some (.dK kvs) ∧ H b = some (.dK more) ∧ a ≠ b ∧ kvs.length + more.length ≤ sizeLine ∧ Q .non (upd H a (.dK (mergeK kvs more)))
theorem mt_updateK {X : Cx} : MtR X "dict.update" rUpdK := by
  intro pins s σ H x xs v us Q I rx rxs h
  obtain ⟨a, b, kvs, more, rfl, rfl, ha, hb, hne, hl, q⟩ := h
  cases rx
  obtain ⟨u, rfl, r1⟩ := vals1 rxs
  cases r1
  obtain ⟨_, hd, vs, rel, dd⟩ := dk_of I.hok ha
  obtain ⟨_, hd2, ws, rel2, dd2⟩ := dk_of I.hok hb
  have hz : vs.length + ws.length ≤ sizeLine := by rw [← rel.length, ← rel2.length]; exact hl
  refine call_meetsIn PySem.F.slot_dict_update dd.typeIs PySem.F.entry_dict_update (PySem.F.args_dict_update_2 _ _) (PySem.meets_dict_update (mixKind X.prog X.w) a b hne hd2) ⟨vs, ws, dd, dd2, hz, fun h' dd' _ hs => ?_⟩
  have he : ∃ q, h'.get? a = some q := let ⟨q, _, _, hq, _⟩ := dd'; ⟨q, hq⟩
  exact ⟨.non, _, d_write I (t' := s.toks) (by rw [ha]; exact True.intro) hs he (dk_new (Nat.le_trans (length_mergeK more kvs) hl) hd (rel2.merge rel) dd'), rfl, q⟩
theorem rd_updK {a b : Addr} {kvs more kvs' : List (Key × V)} {H : Hp} {Q : VK} (h1 : H a = some (.dK kvs)) (h2 : H b = some (.dK more)) (hne : a ≠ b) (hl : kvs.length + more.length ≤ sizeLine) (e : mergeK kvs more = kvs') (q : Q .non (upd H a (.dK kvs'))) : rUpdK (.ref a) [.ref b] H Q := ⟨a, b, kvs, more, rfl, rfl, h1, h2, hne, hl, e ▸ q⟩
/-! ### the law's terms, its wait -/
def spTerms (K : PySem.W.Frag) : Sp := fun vs H Q _ => ∃ (a : Addr) (ns : List Int) (k : Int), vs = [.ref a, .int k] ∧ SqL K H a (ns.map V.int) ∧
  ∀ p H' T, Tm.ok T → T.high ≤ 5 → T.len ≤ 12 → T.kn ≤ 5 → Same H H' → H p = none → H' p = some (.tup [.int T.low, .int T.high, .int T.len, .int T.kn]) → Q (.ref p) H'
theorem spTerms_use {K : PySem.W.Frag} {a : Addr} {ns : List Int} {k : Int} {H : Hp} {Q : VK} {E : XK} (h : SqL K H a (ns.map V.int))
    (q : ∀ p H' T, Tm.ok T → T.high ≤ 5 → T.len ≤ 12 → T.kn ≤ 5 → Same H H' → H p = none → H' p = some (.tup [.int T.low, .int T.high, .int T.len, .int T.kn]) → Q (.ref p) H') : spTerms K [.ref a, .int k] H Q E := ⟨a, ns, k, rfl, h, q⟩
def spWait : Sp := fun vs H Q _ => ∃ p T, vs = [.ref p] ∧ H p = some (.tup [.int (Tm.low T), .int T.high, .int T.len, .int T.kn]) ∧ T.ok ∧ T.high ≤ 5 ∧ T.len ≤ 12 ∧ Q (.int T.wait) H
theorem spWait_use {p : Addr} {T : Tm} {H : Hp} {Q : VK} {E : XK} (h : H p = some (.tup [.int T.low, .int T.high, .int T.len, .int T.kn])) (ok : T.ok) (h5 : T.high ≤ 5) (hl : T.len ≤ 12) (q : Q (.int T.wait) H) : spWait [.ref p] H Q E := ⟨p, T, rfl, h, ok, h5, hl, q⟩
theorem Tm.ticks_is {T : Tm} (h : T.ok) {k : Int} (h1 : (k - 1) * T.low < T.len) (h2 : T.len ≤ k * T.low) : k = T.ticks := by
  obtain ⟨t1, t2, t3⟩ := Tm.ticks_ok h
  have l0 : 0 ≤ T.low := by have := h.1.1; omega
  by_cases a : k ≤ T.ticks - 1
  · have := Int.mul_le_mul_of_nonneg_right a l0
    omega
  · by_cases b : T.ticks ≤ k - 1
    · have := Int.mul_le_mul_of_nonneg_right b l0
      omega
    · omega
theorem same_none {H H' : Hp} {p : Addr} (hs : Same H H') (hh : H' p = none) : H p = none := hs.free hh
theorem rd_intB' {H : Hp} {Q : VK} {k : Bool} (q : ∀ z, 0 ≤ z → z ≤ 1 → (k = false → z = 0) → Q (.int z) H) : rInt1 [.bl k] H Q := .inr ⟨k, rfl, by
  cases k
  · exact q 0 (by omega) (by omega) (fun _ => rfl)
  · exact q 1 (by omega) (by omega) (fun z => nomatch z)⟩
/-! ### what stands when one object changes -/
theorem tup_kp {H H' : Hp} {p : Addr} {o : HO} (hp : H p = some o) (ho : ∀ xs, o ≠ .tup xs) (k : Kp p H H') : ∀ q xs, H q = some (.tup xs) → H' q = some (.tup xs) := fun q xs e => k q _ (ne_of e hp (fun z => ho xs z.symm)) e
theorem sql_kp {K : PySem.W.Frag} {H H' : Hp} {p a : Addr} {o : HO} {xs : List V} (hp : H p = some o) (h1 : ∀ xs, o ≠ .lst xs) (h2 : ∀ ob u, o ≠ .frz ob u) (k : Kp p H H') (h : SqL K H a xs) : SqL K H' a xs := by
  rcases h with (h | ⟨ob, h⟩) | h
  · exact .inl (.inl (k a _ (ne_of h hp (fun z => h1 _ z.symm)) h))
  · exact .inl (.inr ⟨ob, k a _ (ne_of h hp (fun z => h2 _ _ z.symm)) h⟩)
  · exact .inr h
theorem ins_lst {C dx : Addr} {fs : List (Str × V)} : ∀ xs, HO.ins C dx fs ≠ .lst xs := fun _ z => by cases z
theorem ins_frz {C dx : Addr} {fs : List (Str × V)} : ∀ ob u, HO.ins C dx fs ≠ .frz ob u := fun _ _ z => by cases z
theorem ins_tup {C dx : Addr} {fs : List (Str × V)} : ∀ xs, HO.ins C dx fs ≠ .tup xs := fun _ z => by cases z
theorem dk_lst {kvs : List (Key × V)} : ∀ xs, HO.dK kvs ≠ .lst xs := fun _ z => by cases z
theorem dk_frz {kvs : List (Key × V)} : ∀ ob u, HO.dK kvs ≠ .frz ob u := fun _ _ z => by cases z
theorem dk_tup {kvs : List (Key × V)} : ∀ xs, HO.dK kvs ≠ .tup xs := fun _ z => by cases z
theorem KAt.same {C p t : Addr} {H H' : Hp} {st : KSt} (s : Same H H') : KAt C H p t st → KAt C H' p t st := fun ⟨dx, nm, nu, h, o⟩ => ⟨dx, nm, nu, s _ _ h, o.to fun q xs e => s q _ e⟩
theorem TAt.same {C t : Addr} {H H' : Hp} {T : Tm} (s : Same H H') : TAt C H t T → TAt C H' t T := fun ⟨ok, dx, h⟩ => ⟨ok, dx, s _ _ h⟩
theorem TAt.kp {C t p : Addr} {H H' : Hp} {T : Tm} (hne : t ≠ p) (k : Kp p H H') : TAt C H t T → TAt C H' t T := fun ⟨ok, dx, h⟩ => ⟨ok, dx, k _ _ hne h⟩
theorem KAt.kp {C t p d : Addr} {H H' : Hp} {st : KSt} (hne : p ≠ d) (ht : ∀ q xs, H q = some (.tup xs) → H' q = some (.tup xs)) (k : Kp d H H') : KAt C H p t st → KAt C H' p t st := fun ⟨dx, nm, nu, h, o⟩ => ⟨dx, nm, nu, k _ _ hne h, o.to ht⟩
/-- the law's own keeper -/
def kStep (wt way c n a b : Int) (st : KSt) : KSt × V :=
  if c < st.clock then (st, .str "back") else if way = 0 then ((kAsk wt c n a b st).1, .bl (kAsk wt c n a b st).2) else if way = 1 then (kFree c n a b st, .non) else (⟨c, st.ends, st.own⟩, kLet c st)
def wf2 (c u : Int) (nm nu : V) : List (Key × V) := [(Sum.inr "clock", .int c), (Sum.inr "until", .int u), (Sum.inr "name", nm), (Sum.inr "number", nu)]
theorem wf2_clock {c u c' : Int} {nm nu : V} : putK (wf2 c u nm nu) (Sum.inr "clock" : Key) (.int c') = wf2 c' u nm nu := by first | rfl | kernel_rfl
theorem wf2_until {c u c' : Int} {nm nu : V} : putK (wf2 c u nm nu) (Sum.inr "until" : Key) (.int c') = wf2 c c' nm nu := by first | rfl | kernel_rfl
def up3 (u' : Int) (nm' nu' : V) : List (Key × V) := [(Sum.inr "name", nm'), (Sum.inr "number", nu'), (Sum.inr "until", .int u')]
theorem wf2_up {c u u' : Int} {nm nu nm' nu' : V} : mergeK (wf2 c u nm nu) (up3 u' nm' nu') = wf2 c u' nm' nu' := by first | rfl | kernel_rfl
theorem wf2_new {c u : Int} {nm nu : V} : mergeK [] (wf2 c u nm nu) = wf2 c u nm nu := by first | rfl | kernel_rfl
theorem up3_new {u' : Int} {nm' nu' : V} : mergeK [] (up3 u' nm' nu') = up3 u' nm' nu' := by first | rfl | kernel_rfl
def WAt2 (H : Hp) (d : Addr) (st : KSt) : Prop := ∃ nm nu, H d = some (.dK (wf2 st.clock st.ends nm nu)) ∧ OwnAt H nm nu st.own
def spAskedL2 (C CT : Addr) : Sp := fun vs H Q _ => ∃ p t T st way c n q a b, vs = [.ref p, .int way, .int c, .int n, .ref q] ∧ KAt C H p t st ∧ TAt CT H t T ∧ H q = some (.tup [.int a, .int b]) ∧
  ∀ H', KAt C H' p t (kStep T.wait way c n a b st).1 → Kp p H H' → Q (kStep T.wait way c n a b st).2 H'
def spDue2 : Sp := fun vs H Q _ => ∃ d wt st way c n q a b, vs = [.ref d, .int wt, .int way, .int c, .int n, .ref q] ∧ WAt2 H d st ∧ H q = some (.tup [.int a, .int b]) ∧ (way = 0 ∨ way = 1 ∨ way = 2) ∧
  ∀ H', WAt2 H' d (kStep wt way c n a b st).1 → Kp d H H' → Q (kStep wt way c n a b st).2 H'
def OutV (v : V) : Prop := v = .str "back" ∨ v = .non ∨ (∃ b, v = .bl b) ∨ ∃ i, v = .int i
theorem kStep_out (wt way c n a b : Int) (st : KSt) : OutV (kStep wt way c n a b st).2 := by
  unfold kStep
  split
  · exact .inl rfl
  · split
    · exact .inr (.inr (.inl ⟨_, rfl⟩))
    · split
      · exact .inr (.inl rfl)
      · show OutV (kLet c st)
        unfold kLet
        split
        · split
          · exact .inr (.inl rfl)
          · exact .inr (.inr (.inr ⟨_, rfl⟩))
        · exact .inr (.inl rfl)
theorem isb_of {K : PySem.W.Frag} {H : Hp} {v : V} (h : OutV v) : ∃ (t : Value) (b : Bool), TyX K H v t ∧ PySem.W.kitOne K t (.type "bool") = some b := by
  rcases h with rfl | rfl | ⟨b, rfl⟩ | ⟨i, rfl⟩
  · exact ⟨_, false, .base (.str _), kit_ty (by decide +kernel)⟩
  · exact ⟨_, false, .base .non, kit_ty (by decide +kernel)⟩
  · exact ⟨_, true, .base (.bl _), kit_ty (by decide +kernel)⟩
  · exact ⟨_, false, .base (.int _), kit_ty (by decide +kernel)⟩
theorem dp_of {K : PySem.W.Frag} {H : Hp} {v : V} (h : OutV v) : ∃ d, Dp K H v d ∧ SeqAt.shaped d = true ∧ PyData.eqv d d = true := by
  rcases h with rfl | rfl | ⟨b, rfl⟩ | ⟨i, rfl⟩
  · exact ⟨_, .str _, by decide +kernel, by decide +kernel⟩
  · exact ⟨_, .non, rfl, rfl⟩
  · exact ⟨_, .bl b, rfl, by cases b <;> rfl⟩
  · exact ⟨_, .int i, rfl, by show (i == i) = true; exact beq_self_eq_true i⟩
theorem same_made {H : Hp} {x dx : Addr} {o o' : HO} (hx : H x = none) (hd : H dx = none) : Same H (upd (upd H dx o) x o') := fun b u e => by
  rw [upd_ne (ne_of_none e hx), upd_ne (ne_of_none e hd)]
  exact e
theorem same_upd2 {H : Hp} {x : Addr} {o o' : HO} (hx : H x = none) : Same H (upd (upd H x o) x o') := fun b u e => by
  rw [upd_ne (ne_of_none e hx), upd_ne (ne_of_none e hx)]
  exact e
theorem WAt2.same {H H' : Hp} {d : Addr} {st : KSt} (s : Same H H') : WAt2 H d st → WAt2 H' d st := fun ⟨nm, nu, h, o⟩ => ⟨nm, nu, s _ _ h, o.to fun q xs e => s q _ e⟩
theorem WAt2.kp {H H' : Hp} {d p : Addr} {st : KSt} (hne : d ≠ p) (ht : ∀ q xs, H q = some (.tup xs) → H' q = some (.tup xs)) (k : Kp p H H') : WAt2 H d st → WAt2 H' d st := fun ⟨nm, nu, h, o⟩ => ⟨nm, nu, k _ _ hne h, o.to ht⟩
theorem bne_me (b : Bool) : (b != b) = false := by cases b <;> rfl
theorem bif_me {b : Bool} {A B : Prop} (h : B) : BIf (b != b) A B := by rw [bne_me]; exact h
theorem dspk_n {H : Hp} {p : Addr} {Q : VK} {ps : List (V × V)} (kvs : List (Key × V)) {kvs' : List (Key × V)} (hp : H p = none) (e : ps = kvs.map (fun kv => (kV kv.1, kv.2))) (hl : kvs.length ≤ 15) (em : mergeK [] kvs = kvs') (q : ∀ H', Same H H' → H' p = some (.dK kvs') → Q (.ref p) H') : DspK p ps (upd H p (.dK [])) Q :=
  dspk kvs upd_same e hl em (q _ (same_upd2 hp) upd_same)
theorem rd_intBf {H : Hp} {Q : VK} (q : Q (.int 0) H) : rInt1 [.bl false] H Q := .inr ⟨false, rfl, q⟩
theorem rd_intBt {H : Hp} {Q : VK} (q : Q (.int 1) H) : rInt1 [.bl true] H Q := .inr ⟨true, rfl, q⟩
end Lh

set_option Elab.async false
set_option linter.all false
set_option maxRecDepth 100000
set_option maxHeartbeats 4000000
namespace Lh
open PySem PySem.Spec PyProof.Rows L2
/-! ### further rules: a key popped, the values of a dict, sorted downwards -/
section
variable {X : Cx}
/-- d.pop(k), k a tuple that is there -/
def rPopT1 : V → List V → Hp → VK → Prop := fun x xs H Q => ∃ (a : Addr) (kvs : List (List Key × V)) (k : List Key) (b : Addr) (v : V), x = .ref a ∧ xs = [.ref b] ∧ H a = some (.dT kvs) ∧ H b = some (.tup (k.map kV)) ∧ valV kvs k = some v ∧ Q v (upd H a (.dT (dropK kvs k)))
theorem mt_popT1 (hu : X.A.units + 1 < cLine) : MtR X "dict.pop" rPopT1 := by
  intro pins s σ H x xs v us Q I rx rxs h
  obtain ⟨a, kvs, k, b, v0, rfl, rfl, ha, hb, hv, q⟩ := h
  cases rx
  obtain ⟨u1, rfl, r1⟩ := vals1 rxs
  cases r1
  obtain ⟨z, hd, xs', rel, dd⟩ := dt_of I.hok ha
  have hz : xs'.length ≤ sizeLine := by rw [← Paired.length rel]; exact z
  obtain ⟨w', hw, rw'⟩ := RelO.some_of (v := v0) (o := (atKey xs' k).map (·.2)) (by rw [← hv]; exact rel.val k)
  obtain ⟨p, hp, hp2⟩ := Option.map_eq_some_iff.mp hw
  refine call_pop_heap (hsz := hz) (more := []) (.inl rfl) (PySem.F.args_dict_pop_2 _ _) (tupleKind_room_in1 hu) (key_of I.hok hb) hd dd hp fun h' dd' hs => ?_
  obtain ⟨o, es, ep, hq, h2, h3, h4, _, h5⟩ := dd'
  have I2 : Inv X pins σ (upd H a (.dT (dropK kvs k))) { s with heap := h', toks := s.toks + (tupleKind (mixKind X.prog X.w)).draws k } :=
    d_write I (by rw [ha]; exact True.intro) hs ⟨o, hq⟩ ⟨Nat.le_trans (dropK_le kvs k) z, hd, _, (L2.DX.KT_drop k rel).keeps (fun c ys ec => (by rw [upd_ne (ne_of ec ha (fun z => nomatch z))]; exact ec)), o, es, ep, hq, h2, h3, h4, h5⟩
  exact ⟨v0, _, I2, by rw [hp2]; exact rw', q⟩
/-- the view d.values() at p -/
def valsO (p d : Addr) : HO := .ext fun h => h.IsValuesView p d
theorem valsO_ok {P : Program} {w : World} {H : Hp} {h : Heap} {p d : Addr} (e : h.get? p = some { cls := .type "dict_values", data := .fields #[.ref d] }) : ObjOk P w H h p (valsO p d) :=
  ⟨⟨_, e, rfl, rfl⟩, ⟨_, e⟩, fun h1 h2 x k => let ⟨o, ho, r⟩ := x; ⟨o, k o ho, r⟩⟩
def rValsK : V → List V → Hp → VK → Prop := fun x xs H Q => ∃ (a : Addr) (kvs : List (Key × V)), x = .ref a ∧ xs = [] ∧ H a = some (.dK kvs) ∧ ∀ p, H p = none → Q (.ref p) (upd H p (valsO p a))
theorem mt_valuesK : MtR X "dict.values" rValsK := by
  intro pins s σ H x xs v us Q I rx rxs h
  obtain ⟨a, kvs, rfl, rfl, ha, q⟩ := h
  cases rx
  cases rxs
  obtain ⟨z, hd, vs, rel, dd⟩ := dk_of I.hok ha
  obtain ⟨o, es, ep, ho, hx, hdat, _⟩ := id dd
  have hf : H s.heap.objs.size = none := I.hok.fresh (Nat.le_refl _)
  refine call_meetsIn PySem.F.slot_dict_values dd.typeIs PySem.F.entry_dict_values (PySem.F.args_dict_values_1 _) (meets_dict_values_raw a hd) ⟨⟨es, ep, o, ho, hx, hdat⟩, ?_⟩
  exact ⟨.ref s.heap.objs.size, upd H s.heap.objs.size (valsO s.heap.objs.size a), I.laid (t' := s.toks) (fun b u e => Heap.get?_push_of_some _ e) (Nat.le_refl _) (valsO_ok (Heap.get?_push_size _ rfl)), rfl, q _ hf⟩
theorem kv_vals : ∀ {kvs : List (Key × V)} {vs : List (Key × Value)}, KV kvs vs → Vals (kvs.map (·.2)) (vs.map (·.2))
  | _, _, .nil => .nil
  | _, _, .cons h t => .cons h.2 (kv_vals t)
/-- sorted(d.values(), reverse=True), the values whole numbers -/
def rSortVR : List V → List V → Hp → VK → Prop := fun vs zs H Q => ∃ (p a : Addr) (kvs : List (Key × V)) (ns : List Int), vs = [.ref p] ∧ zs = [.bl true] ∧ H p = some (valsO p a) ∧ H a = some (.dK kvs) ∧ kvs.map (·.2) = ns.map V.int ∧
  ∀ (ns' : List Int) (q : Addr) (H' : Hp), ns'.Perm ns → ns'.Pairwise (· ≥ ·) → Same H H' → H q = none → H' q = some (.lst (ns'.map V.int)) → Q (.ref q) H'
theorem cr_sortedValsRev (hc : X.calm = true) : CallRK X (.builtin "sorted") [Str.ofString "reverse"] rSortVR := by
  intro pins s σ H vs zs us ws Q I r rz h
  obtain ⟨p, a, kvs, ns, rfl, rfl, hp, ha, hn, q⟩ := h
  obtain rfl := Vals.ref1 r
  obtain ⟨w1, rfl, e1⟩ := vals1 rz
  obtain rfl : w1 = Value.bool true := e1
  obtain ⟨z, hd, vs0, rel, dd⟩ := dk_of I.hok ha
  obtain ⟨hview, _⟩ := I.hok p _ hp
  obtain ⟨ep, hat⟩ := dd.dictAt
  have hh : X.A.handled = none := I.ok.hd hc
  have hz : vs0.length ≤ sizeLine := by rw [← rel.length]; exact z
  have hlen : ns.length = vs0.length := by
    have h1 := congrArg List.length hn
    rw [List.length_map, List.length_map, rel.length] at h1
    exact h1.symm
  refine call_function_entry_kw kind_sorted plain_sorted entry_sorted (args_sorted_rev _ _) ?_
  unfold Builtin.«sorted»
  refine wpAny_bind (m := checkCount "sorted" 1 1 _) (wpAny_pure ?_)
  refine wpAny_bind (PySem.W.kdu_collect (A := X.A.in1) (PySem.W.kdl_values (knd := mixKind X.prog X.w) (kvs := vs0) (ep := ep)) hh ⟨hview, hat⟩ hz fun h' tk acc hk hacc => ?_)
  have hl : acc.toList.length = vs0.length := by rw [Array.length_toList]; exact hacc.1
  have ea : acc.toList = vs0.map (·.2) := by
    apply List.ext_getElem?
    intro j
    rw [List.getElem?_map]
    cases hj : acc.toList[j]? with
    | none =>
      have h1 := List.getElem?_eq_none_iff.mp hj
      rw [List.getElem?_eq_none (by omega)]
      rfl
    | some v =>
      obtain ⟨k, hkv⟩ := hacc.2 j v (by rw [← Array.getElem?_toList]; exact hj)
      rw [hkv]
      rfl
  have hv : Vals (ns.map V.int) acc.toList := by
    rw [ea, ← hn]
    exact kv_vals rel
  have hi := Vals.ints hv
  have hz2 : acc.toList.length ≤ sizeLine := by rw [hl]; exact hz
  refine wpAny_bind (wpAny_newList ?_ hz2)
  have hoL : (h'.push (seqObj "list" acc.toList.toArray 0)).get? h'.objs.size = some (seqObj "list" acc.toList.toArray 0) := Heap.get?_push_size _ rfl
  have nN : h'.get? h'.objs.size = none := Heap.get?_none_of_le (Nat.le_refl _)
  have n0 : s.heap.get? h'.objs.size = none := by
    cases e : s.heap.get? h'.objs.size with
    | none => rfl
    | some o =>
      have z := hk _ _ e
      rw [nN] at z
      cases z
  have nH : H h'.objs.size = none := I.hok.gone n0
  refine wpAny_bind (wpAny_holding (wpAny_call_entry_kw slot_list_sort ⟨_, hoL, rfl⟩ entry_list_sort ?_ (args_list_sort_rev _ _)))
  refine SrtR.list_sort_ordR (b := true) SrtO.swo_int hoL hz2 (fun h2 => SrtO.ints_sortable hi h2) fun out h1 h2 => ⟨_, rfl, ?_⟩
  refine wpAny_pure ⟨_, rfl, ?_⟩
  obtain ⟨ns', k1, k2, k3⟩ := SrtR.ints_outR hi h1 h2
  obtain ⟨ep', he'⟩ := PyProof.Rows.sortedHeap_at (vs := acc.toList) (out := out.toArray.reverse) hoL
  have hlen' : (ns'.map V.int).length ≤ sizeLine := by
    rw [List.length_map, k2.length_eq, hlen]
    exact hz
  have keep : ∀ b u, s.heap.get? b = some u → (sortedHeap (h'.push (seqObj "list" acc.toList.toArray 0)) h'.objs.size acc.toList out.toArray.reverse).get? b = some u := fun b u e => by
    have e2 := hk _ _ e
    rw [PyProof.Rows.sortedHeap_old (Nat.ne_of_lt (Heap.lt_size e2)) (by rw [size_push']; exact Nat.lt_succ_of_lt (Heap.lt_size e2))]
    exact Heap.get?_push_of_some _ e2
  have J : Inv X pins σ (upd H h'.objs.size (.lst (ns'.map V.int))) { s with heap := sortedHeap (h'.push (seqObj "list" acc.toList.toArray 0)) h'.objs.size acc.toList out.toArray.reverse, toks := tk } :=
    L2.Inv.laidN I keep n0 nH ⟨hlen', _, ep', vals_of_ints k1, by rw [Array.toArray_toList]; exact he'⟩
  exact ⟨.ref h'.objs.size, _, J, rfl, q ns' _ _ k2 k3 (Lh.Same.upd nH) nH upd_same⟩
end
/-! ### xs.count(True), xs a list of truth values -/
def eqb (k : Bool) (v : Value) : Bool := match v with
  | .bool n => n == k
  | _ => false
theorem eqb_at {A : Around} {s : Shared} {k : Bool} : ∀ {us : List Value} {bs : List Bool}, Vals (bs.map V.bl) us → ∀ y ∈ us, SeqAt.EqAt A s y (.bool k) (eqb k y)
  | [], [], _ => fun y hy => by cases hy
  | u :: us, b :: bs, r => fun y hy => by
    cases r with
    | cons r t =>
      cases r
      rcases List.mem_cons.mp hy with e | e
      · rw [e]
        exact SeqAt.EqAt.bool_bool b k
      · exact eqb_at t y e
  | _ :: _, [], r => by cases r
  | [], _ :: _, r => by cases r
theorem eqb_count {k : Bool} : ∀ {us : List Value} {bs : List Bool}, Vals (bs.map V.bl) us → us.countP (eqb k) = bs.count k
  | [], [], _ => rfl
  | u :: us, b :: bs, r => by
    cases r with
    | cons r t =>
      cases r
      have ih := eqb_count (k := k) t
      rw [List.countP_cons, List.count_cons, ih] <;> rfl
  | _ :: _, [], r => by cases r
  | [], _ :: _, r => by cases r
def rCntB (K : PySem.W.Frag) : V → List V → Hp → VK → Prop := fun x xs H Q => ∃ (p : Addr) (bs : List Bool) (k : Bool), x = .ref p ∧ xs = [.bl k] ∧ SqL K H p (bs.map V.bl) ∧ Q (.int (bs.count k : Nat)) H
section
variable {X : Cx}
theorem mt_countB : MtR X "list.count" (rCntB X.K) := by
  intro pins s σ H x xs v us Q I rx rxs h
  obtain ⟨p, bs, k, rfl, rfl, hs, q⟩ := h
  cases rx
  obtain ⟨u, rfl, ru⟩ := vals1 rxs
  cases ru
  obtain ⟨its, rv, ⟨⟨cls, dd, data, sl⟩, n, ho, hc, hdn, hd⟩, hlen⟩ := I.list hs
  simp only at hc hd
  subst hc hd
  refine call_meets PySem.F.slot_list_count ⟨_, ho, rfl⟩ PySem.F.entry_list_count (PySem.F.args_list_count_2 _ _)
    (SeqAt.list_countAt p its.toArray n dd sl (.bool k) (eqb k)) ⟨ho, fun y hy => eqb_at rv y (by simpa using hy), ?_⟩
  have ec : its.toArray.toList.countP (eqb k) = bs.count k := eqb_count rv
  refine ⟨.int (bs.count k : Nat), H, I.tok _, ⟨s.toks, ?_⟩, q⟩
  show Value.int ((its.toArray.toList.countP (eqb k) : Nat) : Int) s.toks = Value.int ((bs.count k : Nat) : Int) s.toks
  rw [ec]
theorem rd_cntB {K : PySem.W.Frag} {p : Addr} {bs : List Bool} {k : Bool} {H : Hp} {Q : VK} (h : SqL K H p (bs.map V.bl)) (q : Q (.int (bs.count k : Nat)) H) : rCntB K (.ref p) [.bl k] H Q := ⟨p, bs, k, rfl, rfl, h, q⟩
end
end Lh

set_option Elab.async false
set_option linter.all false
set_option maxRecDepth 100000
set_option maxHeartbeats 4000000
namespace Lh
open PySem PySem.Spec PyProof.Rows L2
/-! ### holders: plain lists of asks and lets -/
abbrev Num := Int × Int
section
variable {κ : Type} [DecidableEq κ]
def aGet (l : List (κ × Int)) (k : κ) : Option Int := (l.find? fun x => decide (x.1 = k)).map (·.2)
def aPut (l : List (κ × Int)) (k : κ) (v : Int) : List (κ × Int) := if (l.any fun x => decide (x.1 = k)) = true then l.map (fun x => if x.1 = k then (x.1, v) else x) else l ++ [(k, v)]
theorem aGet_cons (x : κ × Int) (l : List (κ × Int)) (k : κ) : aGet (x :: l) k = if x.1 = k then some x.2 else aGet l k := by
  unfold aGet
  rw [List.find?_cons]
  by_cases e : x.1 = k
  · simp [e]
  · simp [e]
theorem aGet_nil (k : κ) : aGet ([] : List (κ × Int)) k = none := rfl
theorem aGet_app {l1 l2 : List (κ × Int)} {k : κ} (h : ∀ x ∈ l1, x.1 ≠ k) : aGet (l1 ++ l2) k = aGet l2 k := by
  induction l1 with
  | nil => rfl
  | cons x r ih =>
    rw [List.cons_append, aGet_cons, if_neg (h x List.mem_cons_self)]
    exact ih fun y hy => h y (List.mem_cons_of_mem _ hy)
theorem aGet_mem {l : List (κ × Int)} {k : κ} {v : Int} (h : aGet l k = some v) : (k, v) ∈ l := by
  induction l with
  | nil => cases h
  | cons x r ih =>
    rw [aGet_cons] at h
    split at h
    · rename_i e
      cases h
      rw [← e]
      exact List.mem_cons_self
    · exact List.mem_cons_of_mem _ (ih h)
theorem aGet_of_mem {l : List (κ × Int)} {k : κ} {v : Int} (nd : (l.map (·.1)).Nodup) (h : (k, v) ∈ l) : aGet l k = some v := by
  induction l with
  | nil => cases h
  | cons x r ih =>
    rw [List.map_cons, List.nodup_cons] at nd
    rw [aGet_cons]
    rcases List.mem_cons.mp h with e | e
    · rw [← e, if_pos rfl]
    · rw [if_neg]
      · exact ih nd.2 e
      · intro z
        exact nd.1 (by rw [z]; exact List.mem_map.mpr ⟨_, e, rfl⟩)
theorem aGet_none {l : List (κ × Int)} {k : κ} (h : aGet l k = none) : ∀ x ∈ l, x.1 ≠ k := by
  induction l with
  | nil => intro x hx; cases hx
  | cons y r ih =>
    rw [aGet_cons] at h
    split at h
    · cases h
    · rename_i e
      intro x hx
      rcases List.mem_cons.mp hx with z | z
      · rw [z]; exact e
      · exact ih h x z
theorem aPut_new {l : List (κ × Int)} {k : κ} {v : Int} (h : ∀ x ∈ l, x.1 ≠ k) : aPut l k v = l ++ [(k, v)] := by
  unfold aPut
  rw [if_neg]
  intro z
  obtain ⟨x, hx, e⟩ := List.any_eq_true.mp z
  exact h x hx (of_decide_eq_true e)
theorem aPut_length (l : List (κ × Int)) (k : κ) (v : Int) : (aPut l k v).length ≤ l.length + 1 := by
  unfold aPut
  split
  · rw [List.length_map]; omega
  · rw [List.length_append]; simp
theorem aPut_keys (l : List (κ × Int)) (k : κ) (v : Int) : (aPut l k v).map (·.1) = if (l.any fun x => decide (x.1 = k)) = true then l.map (·.1) else l.map (·.1) ++ [k] := by
  unfold aPut
  split
  · rw [List.map_map]
    apply List.map_congr_left
    intro x _
    show (if x.1 = k then (x.1, v) else x).1 = x.1
    split <;> rfl
  · rw [List.map_append]; rfl
theorem aPut_nd {l : List (κ × Int)} {k : κ} {v : Int} (nd : (l.map (·.1)).Nodup) : ((aPut l k v).map (·.1)).Nodup := by
  rw [aPut_keys]
  split
  · exact nd
  · rename_i h
    refine nd_snoc nd fun m => h ?_
    obtain ⟨x, hx, e⟩ := List.mem_map.mp m
    exact List.any_eq_true.mpr ⟨x, hx, decide_eq_true e⟩
theorem aGet_put (l : List (κ × Int)) (k j : κ) (v : Int) : aGet (aPut l k v) j = if j = k then some v else aGet l j := by
  unfold aPut
  split
  · rename_i h
    induction l with
    | nil => cases h
    | cons x r ih =>
      rw [List.map_cons, aGet_cons, aGet_cons]
      by_cases e : x.1 = k
      · rw [if_pos e]
        show (if x.1 = j then some v else _) = _
        by_cases e2 : x.1 = j
        · rw [if_pos e2, if_pos (e2.symm.trans e)]
        · rw [if_neg e2, if_neg (fun z => e2 (e.trans z.symm)), if_neg e2]
          by_cases hr : (r.any fun x => decide (x.1 = k)) = true
          · rw [ih hr, if_neg (fun z => e2 (e.trans z.symm))]
          · have e3 : r.map (fun x => if x.1 = k then (x.1, v) else x) = r := by
              rw [List.map_congr_left (g := id), List.map_id]
              intro y hy
              rw [if_neg]; rfl
              intro z
              exact hr (List.any_eq_true.mpr ⟨y, hy, decide_eq_true z⟩)
            rw [e3]
      · have hr : (r.any fun x => decide (x.1 = k)) = true := by
          rw [List.any_cons, decide_eq_false e, Bool.false_or] at h
          exact h
        rw [if_neg e, ih hr]
        by_cases e2 : x.1 = j
        · rw [if_pos e2, if_pos e2, if_neg (fun z => e (e2.trans z))]
        · rw [if_neg e2, if_neg e2]
  · rename_i h
    by_cases e : j = k
    · rw [if_pos e, aGet_app, aGet_cons, if_pos e.symm]
      intro x hx z
      exact h (List.any_eq_true.mpr ⟨x, hx, decide_eq_true (z.trans e)⟩)
    · rw [if_neg e]
      induction l with
      | nil =>
        rw [List.nil_append, aGet_cons, if_neg (fun z => e z.symm)]
      | cons x r ih =>
        rw [List.cons_append, aGet_cons, aGet_cons, ih (fun z => h (by rw [List.any_cons, z, Bool.or_true]))]
end
/-! the same as dicts of the heap -/
section
variable {κ μ : Type} [DecidableEq κ] [DecidableEq μ] {f : κ → μ} (inj : ∀ a b, f a = f b → a = b)
def toV (f : κ → μ) (l : List (κ × Int)) : List (μ × V) := l.map fun x => (f x.1, V.int x.2)
include inj
theorem toV_get (l : List (κ × Int)) (k : κ) : valV (toV f l) (f k) = (aGet l k).map V.int := by
  induction l with
  | nil => rfl
  | cons x r ih =>
    rw [aGet_cons]
    show valV ((f x.1, V.int x.2) :: toV f r) (f k) = _
    by_cases e : x.1 = k
    · rw [if_pos e, valV_pos (p := (f x.1, V.int x.2)) (congrArg f e)]; rfl
    · rw [if_neg e, valV_neg (p := (f x.1, V.int x.2)) (fun z => e (inj _ _ z))]; exact ih
theorem toV_any (l : List (κ × Int)) (k : κ) : ((toV f l).any fun kv => decide (kv.1 = f k)) = l.any fun x => decide (x.1 = k) := by
  induction l with
  | nil => rfl
  | cons x r ih =>
    show (decide (f x.1 = f k) || (toV f r).any fun kv => decide (kv.1 = f k)) = (decide (x.1 = k) || r.any fun x => decide (x.1 = k))
    rw [ih]
    by_cases e : x.1 = k
    · rw [decide_eq_true e, decide_eq_true (congrArg f e)]
    · rw [decide_eq_false e, decide_eq_false (fun z => e (inj _ _ z))]
theorem toV_put (l : List (κ × Int)) (k : κ) (v : Int) : putK (toV f l) (f k) (.int v) = toV f (aPut l k v) := by
  unfold putK aPut
  rw [toV_any inj]
  split
  · unfold toV
    rw [List.map_map, List.map_map]
    apply List.map_congr_left
    intro x _
    show (if f x.1 = f k then (f x.1, V.int v) else (f x.1, V.int x.2)) = (f (if x.1 = k then (x.1, v) else x).1, V.int (if x.1 = k then (x.1, v) else x).2)
    by_cases e : x.1 = k
    · rw [if_pos (congrArg f e), if_pos e]
    · rw [if_neg (fun z => e (inj _ _ z)), if_neg e]
  · unfold toV
    rw [List.map_append]; rfl
theorem toV_drop (l : List (κ × Int)) (k : κ) : dropK (toV f l) (f k) = toV f (l.filter fun x => decide (x.1 ≠ k)) := by
  induction l with
  | nil => rfl
  | cons x r ih =>
    show dropK ((f x.1, V.int x.2) :: toV f r) (f k) = _
    by_cases e : x.1 = k
    · rw [dropK_pos (p := (f x.1, V.int x.2)) (congrArg f e), ih, List.filter_cons_of_neg (by simp [e])]
    · rw [dropK_neg (p := (f x.1, V.int x.2)) (fun z => e (inj _ _ z)), ih, List.filter_cons_of_pos (by simp [e])]; rfl
end
def fN (n : Num) : List Key := [Sum.inl n.1, Sum.inl n.2]
def fI (i : Int) : Key := Sum.inl i
theorem fN_inj : ∀ a b : Num, fN a = fN b → a = b := fun ⟨a1, a2⟩ ⟨b1, b2⟩ h => by
  injection h with h1 h2
  injection h2 with h2 _
  cases h1
  cases h2
  rfl
theorem fI_inj : ∀ a b : Int, fI a = fI b → a = b := fun a b h => by cases h; rfl
/-! the walk that forgets what is over -/
def keepA (len c : Int) (l : List (Num × Int)) : List (Num × Int) := l.filter fun x => decide (c < x.2 + len)
def midA (len c : Int) (l : List (Num × Int)) (i : Nat) : List (Num × Int) := keepA len c (l.take i) ++ l.drop i
theorem midA_zero {len c : Int} {l : List (Num × Int)} : midA len c l 0 = l := rfl
theorem midA_all {len c : Int} {l : List (Num × Int)} : midA len c l l.length = keepA len c l := by
  unfold midA
  rw [List.take_length, List.drop_length, List.append_nil]
theorem take_ne {l : List (Num × Int)} {i : Nat} {x : Num × Int} (nd : (l.map (·.1)).Nodup) (h : l[i]? = some x) : ∀ y ∈ l.take i, y.1 ≠ x.1 := by
  intro y hy e
  obtain ⟨j, hj, ej⟩ := List.getElem_of_mem hy
  rw [List.length_take] at hj
  have hi := (List.getElem?_eq_some_iff.mp h).1
  have h1 : (l.map (·.1))[j]? = some y.1 := by
    rw [List.getElem?_map, List.getElem?_eq_getElem (by omega)]
    rw [List.getElem_take] at ej
    rw [ej]; rfl
  have h2 : (l.map (·.1))[i]? = some y.1 := by
    rw [List.getElem?_map, h, e]; rfl
  have := nd_ix nd h1 h2
  omega
theorem midA_get {len c : Int} {l : List (Num × Int)} {i : Nat} {x : Num × Int} (nd : (l.map (·.1)).Nodup) (h : l[i]? = some x) : aGet (midA len c l i) x.1 = some x.2 := by
  obtain ⟨hi, e⟩ := List.getElem?_eq_some_iff.mp h
  unfold midA
  rw [List.drop_eq_getElem_cons hi, e, aGet_app, aGet_cons, if_pos rfl]
  intro y hy
  exact take_ne nd h y (List.mem_filter.mp hy).1
theorem midA_keep {len c : Int} {l : List (Num × Int)} {i : Nat} {x : Num × Int} (h : l[i]? = some x) (hk : c < x.2 + len) : midA len c l (i + 1) = midA len c l i := by
  obtain ⟨hi, e⟩ := List.getElem?_eq_some_iff.mp h
  unfold midA keepA
  rw [List.take_succ_eq_append_getElem hi, List.filter_append, List.drop_eq_getElem_cons hi, e, List.filter_cons_of_pos (by simpa using hk)]
  simp
theorem midA_pop {len c : Int} {l : List (Num × Int)} {i : Nat} {x : Num × Int} (nd : (l.map (·.1)).Nodup) (h : l[i]? = some x) (hk : ¬ c < x.2 + len) : midA len c l (i + 1) = (midA len c l i).filter fun y => decide (y.1 ≠ x.1) := by
  obtain ⟨hi, e⟩ := List.getElem?_eq_some_iff.mp h
  have drop_ne : ∀ y ∈ l.drop (i + 1), y.1 ≠ x.1 := by
    intro y hy z
    obtain ⟨j, hj, ej⟩ := List.getElem_of_mem hy
    rw [List.length_drop] at hj
    have h1 : (l.map (·.1))[i + 1 + j]? = some y.1 := by
      rw [List.getElem?_map, List.getElem?_eq_getElem (by omega)]
      rw [List.getElem_drop] at ej
      rw [ej]; rfl
    have h2 : (l.map (·.1))[i]? = some y.1 := by
      rw [List.getElem?_map, h, z]; rfl
    have := nd_ix nd h1 h2
    omega
  unfold midA keepA
  rw [List.take_succ_eq_append_getElem hi, List.filter_append, List.drop_eq_getElem_cons hi, e, List.filter_cons_of_neg (by simpa using hk), List.filter_nil, List.append_nil, List.filter_append,
    List.filter_cons_of_neg (by simp)]
  have e1 : ((l.take i).filter fun y => decide (c < y.2 + len)).filter (fun y => decide (y.1 ≠ x.1)) = (l.take i).filter fun y => decide (c < y.2 + len) :=
    List.filter_eq_self.mpr fun y hy => decide_eq_true (take_ne nd h y (List.mem_filter.mp hy).1)
  have e2 : (l.drop (i + 1)).filter (fun y => decide (y.1 ≠ x.1)) = l.drop (i + 1) :=
    List.filter_eq_self.mpr fun y hy => decide_eq_true (drop_ne y hy)
  rw [e1, e2]
/-! ### holders -/
structure HSt where
  life : Int
  clock : Int
  many : Int
  asks : List (Num × Int)
  lets : List (Int × Int)
def hf (t : Addr) (nm life c many : Int) (da dl : Addr) : List (Str × V) := [("terms", .ref t), ("name", .int nm), ("life", .int life), ("clock", .int c), ("many", .int many), ("asks", .ref da), ("lets", .ref dl)]
structure HAt (C : Addr) (H : Hp) (h t : Addr) (nm : Int) (da dl : Addr) (s : HSt) : Prop where
  ob : ∃ dx, H h = some (.ins C dx (hf t nm s.life s.clock s.many da dl))
  as : H da = some (.dT (toV fN s.asks))
  ls : H dl = some (.dK (toV fI s.lets))
structure WfH (s : HSt) : Prop where
  n1 : (s.asks.map (·.1)).Nodup
  n2 : (s.lets.map (·.1)).Nodup
  l1 : s.asks.length ≤ 1000
  l2 : s.lets.length ≤ 1000
structure HTxt (K : PySem.W.Frag) (C : Addr) : Prop where
  cl : Cls K C
  n1 : NoAttr K C "terms"
  n2 : NoAttr K C "name"
  n3 : NoAttr K C "life"
  n4 : NoAttr K C "clock"
  n5 : NoAttr K C "many"
  n6 : NoAttr K C "asks"
  n7 : NoAttr K C "lets"
def Kp3 (h da dl : Addr) (H H' : Hp) : Prop := ∀ b o, b ≠ h → b ≠ da → b ≠ dl → H b = some o → H' b = some o
theorem Kp3.trans {h da dl : Addr} {H H1 H2 : Hp} (a : Kp3 h da dl H H1) (b : Kp3 h da dl H1 H2) : Kp3 h da dl H H2 := fun c o h1 h2 h3 e => b c o h1 h2 h3 (a c o h1 h2 h3 e)
theorem Kp3.refl {h da dl : Addr} {H : Hp} : Kp3 h da dl H H := fun _ _ _ _ _ e => e
theorem Same.kp3 {h da dl : Addr} {H H' : Hp} (s : Same H H') : Kp3 h da dl H H' := fun b o _ _ _ e => s b o e
def hLook (len c : Int) (s : HSt) : HSt := ⟨s.life, c, s.many, keepA len c s.asks, s.lets⟩
def hAsk (len c : Int) (s : HSt) : HSt := ⟨s.life, c, s.many + 1, aPut (keepA len c s.asks) (s.life, s.many) c, s.lets⟩
def hHear (len c k : Int) (n : Num) (s : HSt) : HSt := match aGet (keepA len c s.asks) n with
  | none => hLook len c s
  | some a => ⟨s.life, c, s.many, keepA len c s.asks, aPut s.lets k (max (a + len) ((aGet s.lets k).getD (a + len)))⟩
def liveL (c : Int) (l : List (Int × Int)) : List (Int × Int) := l.filter fun x => decide (c < x.2)
def hHolds (most c : Int) (s : HSt) : Bool := decide (most ≤ ((liveL c s.lets).length : Int))
def UntilR (most c : Int) (s : HSt) (v : V) : Prop := (hHolds most c s = false ∧ v = .non) ∨ (hHolds most c s = true ∧ ∃ (ns : List Int) (e : Int), ns.Perm (s.lets.map (·.2)) ∧ ns.Pairwise (· ≥ ·) ∧ ns[(most - 1).toNat]? = some e ∧ v = .int e)
def hFree (c : Int) (s : HSt) : HSt := ⟨s.life, c, s.many, [], []⟩
theorem keepA_nd {len c : Int} {l : List (Num × Int)} (nd : (l.map (·.1)).Nodup) : ((keepA len c l).map (·.1)).Nodup := nd.sublist (List.filter_sublist.map _)
theorem keepA_le {len c : Int} {l : List (Num × Int)} : (keepA len c l).length ≤ l.length := List.length_filter_le _ _
theorem WfH.look {len c : Int} {s : HSt} (w : WfH s) : WfH (hLook len c s) := ⟨keepA_nd w.n1, w.n2, Nat.le_trans keepA_le w.l1, w.l2⟩
theorem th_ne {H : Hp} {t p CT dx CH dx' t' da dl : Addr} {T : Tm} {nm life c many : Int} (h1 : H t = some (.ins CT dx (tf T))) (h2 : H p = some (.ins CH dx' (hf t' nm life c many da dl))) : t ≠ p := ne_of h1 h2 (key_ne (by decide +kernel))
theorem toV_length {κ μ : Type} {f : κ → μ} {l : List (κ × Int)} : (toV f l).length = l.length := List.length_map _
/-! readings of dicts by tuples -/
section
variable {K : PySem.W.Frag} {σ : L2.St} {H : Hp} {Q : VK} {a b p : Addr} {v : V}
theorem dgt {kvs : List (List Key × V)} {k : List Key} (h : H a = some (.dT kvs)) (hb : H b = some (.tup (k.map kV))) (e : valV kvs k = some v) (q : Q v H) : DgK (.ref a) (.ref b) H Q := ⟨a, v, rfl, by rw [← e]; exact DGet.t h hb, q⟩
theorem dint {kvs : List (List Key × V)} {k : List Key} {o : Option V} (h : H a = some (.dT kvs)) (hb : H b = some (.tup (k.map kV))) (e : valV kvs k = o) (q : Q (.bl o.isSome) H) : DinK (.ref a) (.ref b) H Q := ⟨a, o, rfl, by rw [← e]; exact DGet.t h hb, q⟩
theorem dputt {kvs kvs' : List (List Key × V)} {k : List Key} {G : Hp → Prop} (h : H a = some (.dT kvs)) (hb : H b = some (.tup (k.map kV))) (hl : kvs.length < sizeLine) (e : putK kvs k v = kvs') (q : G (upd H a (.dT kvs'))) : DputK (.ref a) (.ref b) v H G := ⟨a, _, rfl, DPut.t h hb hl, e ▸ q⟩
theorem rd_popT1 {kvs kvs' : List (List Key × V)} {k : List Key} (h : H a = some (.dT kvs)) (hb : H b = some (.tup (k.map kV))) (e : valV kvs k = some v) (e2 : dropK kvs k = kvs') (q : Q v (upd H a (.dT kvs'))) : rPopT1 (.ref a) [.ref b] H Q := ⟨a, kvs, k, b, v, rfl, rfl, h, hb, e, e2 ▸ q⟩
def Get2K (x y z : V) (H : Hp) (Q : VK) : Prop := ∃ o a, x = .ref a ∧ DGet H a y o ∧ Q (o.getD z) H
def rListT : List V → Hp → VK → Prop := fun xs H Q => ∃ d kvs, xs = [V.ref d] ∧ Rd H d (.dT kvs) ∧ ∀ p bs, H p = none → IsKeys H kvs bs → Q (.ref p) (upd H p (.lst (bs.map V.ref)))
theorem cr_listT {X : Cx} (hc : X.calm = true) : CallR X (.type "list") rListT := call_list_dT hc
theorem isKeys_same {H H' : Hp} (s : Same H H') {kvs : List (List Key × V)} {bs : List Addr} (h : IsKeys H kvs bs) : IsKeys H' kvs bs := Paired.mapP h fun _ _ z => s _ _ z
theorem rd_listT {kvs : List (List Key × V)} (h : H a = some (.dT kvs)) (q : ∀ p bs H', H p = none → IsKeys H' kvs bs → Same H H' → H' p = some (.lst (bs.map V.ref)) → Q (.ref p) H') : rListT [.ref a] H Q :=
  ⟨a, kvs, rfl, .inl h, fun p bs hp hk => q p bs _ hp (isKeys_same (Same.upd hp) hk) (Same.upd hp) upd_same⟩
theorem paired_get {α β : Type} {R : α → β → Prop} : ∀ {l1 : List α} {l2 : List β} {i : Nat} {b : β}, Paired R l1 l2 → l2[i]? = some b → ∃ a, l1[i]? = some a ∧ R a b
  | _, _, _, _, .nil, e => by simp at e
  | _, _, 0, _, .cons r _, e => by simp at e; subst e; exact ⟨_, rfl, r⟩
  | _, _, i + 1, b, .cons _ t, e => by
    obtain ⟨a, h1, h2⟩ := paired_get (i := i) (b := b) t (by simpa using e)
    exact ⟨a, by simpa using h1, h2⟩
def ILstK (K : PySem.W.Frag) (x : V) (H : Hp) (R : It → Hp → Prop) : Prop := ∃ a, x = .ref a ∧ (∃ xs, SqL K H a xs) ∧ R (Itl K a) H
theorem rd_ilist {tl : TE} {R : It → Hp → Prop} (h : tl σ H fun x H1 => ILstK K x H1 R) : iList K tl σ H R := h
theorem ilstk {xs : List V} {R : It → Hp → Prop} (h : SqL K H a xs) (q : R (Itl K a) H) : ILstK K (.ref a) H R := ⟨a, rfl, ⟨xs, h⟩, q⟩
def ITupK (K : PySem.W.Frag) (x : V) (H : Hp) (R : It → Hp → Prop) : Prop := ∃ a, x = .ref a ∧ (∃ xs, SqT K H a xs) ∧ R (Itt K a) H
theorem rd_itup {tl : TE} {R : It → Hp → Prop} (h : tl σ H fun x H1 => ITupK K x H1 R) : iTup K tl σ H R := h
theorem ituk {xs : List V} {R : It → Hp → Prop} (h : SqT K H a xs) (q : R (Itt K a) H) : ITupK K (.ref a) H R := ⟨a, rfl, ⟨xs, h⟩, q⟩
end
end Lh

set_option Elab.async false
set_option linter.all false
set_option maxRecDepth 100000
set_option maxHeartbeats 4000000
namespace Lh
open PySem PySem.Spec PyProof.Rows L2
section
variable {K : PySem.W.Frag} {σ : L2.St} {H : Hp} {Q : VK} {a b p d : Addr} {v x y z : V} {ta tb tc : TE} {tA tB : TA}
def IsDK (x : V) (H : Hp) (G : Addr → Prop) : Prop := ∃ a, x = .ref a ∧ IsD H a ∧ G a
def Dg2 (a : Addr) (y z : V) (H : Hp) (Q : VK) : Prop := ∃ o, DGet H a y o ∧ Q (o.getD z) H
theorem rd_dget2 (h : ta σ H fun x H1 => IsDK x H1 fun a => tb σ H1 fun y H2 => tc σ H2 fun z H3 => Dg2 a y z H3 Q) : tDGet2 ta tb tc σ H Q := h
theorem isdk_dK {kvs : List (Key × V)} {G : Addr → Prop} (h : H a = some (.dK kvs)) (g : G a) : IsDK (.ref a) H G := ⟨a, rfl, .inl ⟨kvs, .inl h⟩, g⟩
theorem dg2i {kvs : List (Key × V)} {i : Int} (h : H a = some (.dK kvs)) (q : Q ((valV kvs (Sum.inl i : Key)).getD z) H) : Dg2 a (.int i) z H Q := ⟨_, DGet.k (k := Sum.inl i) h, q⟩
theorem rd_lock {t : TE} {kvs : List (Key × V)} (h : H d = some (.dK kvs)) (q : ∀ od, t σ (upd H d (.frz od (.dK kvs))) fun v H' => H' d = some (.frz od (.dK kvs)) ∧ Q v (upd H' d (.dK kvs))) : tLockE t σ H Q := ⟨d, _, h, True.intro, q⟩
def KeysI (x : V) (H : Hp) (R : It → Hp → Prop) : Prop := ∃ d o, x = .ref d ∧ ((∃ kvs, H d = some (.frz o (.dK kvs)) ∧ R (Itk d o kvs) H) ∨ ∃ kvs, H d = some (.frz o (.dT kvs)) ∧ R (Itkt d o kvs) H)
theorem rd_keys {R : It → Hp → Prop} (h : ta σ H fun x H1 => KeysI x H1 R) : iKeys ta σ H R := h
theorem keysi {kvs : List (Key × V)} {o : Obj} {R : It → Hp → Prop} (h : H d = some (.frz o (.dK kvs))) (q : R (Itk d o kvs) H) : KeysI (.ref d) H R := ⟨d, o, rfl, .inl ⟨kvs, h, q⟩⟩
theorem dgif {kvs : List (Key × V)} {o : Obj} {i : Int} (h : H a = some (.frz o (.dK kvs))) (e : valV kvs (Sum.inl i : Key) = some v) (q : Q v H) : DgK (.ref a) (.int i) H Q := ⟨a, v, rfl, .inl ⟨kvs, Sum.inl i, .inr ⟨o, h⟩, rfl, e.symm⟩, q⟩
theorem rd_ckw {r : List V → List V → Hp → VK → Prop} (h : tA σ H fun vs H1 => tB σ H1 fun zs H2 => r vs zs H2 Q) : tCKw r tA tB σ H Q := h
theorem rd_vals {kvs : List (Key × V)} (h : H a = some (.dK kvs)) (q : ∀ p H', H p = none → Same H H' → H' p = some (valsO p a) → Q (.ref p) H') : rValsK (.ref a) [] H Q := ⟨a, kvs, rfl, rfl, h, fun p hp => q p _ hp (Same.upd hp) upd_same⟩
theorem rd_sortVR {kvs : List (Key × V)} {ns : List Int} (hp : H p = some (valsO p a)) (h : H a = some (.dK kvs)) (e : kvs.map (·.2) = ns.map V.int)
    (q : ∀ (ns' : List Int) (q : Addr) (H' : Hp), ns'.Perm ns → ns'.Pairwise (· ≥ ·) → Same H H' → H q = none → H' q = some (.lst (ns'.map V.int)) → Q (.ref q) H') : rSortVR [.ref p] [.bl true] H Q := ⟨p, a, kvs, ns, rfl, rfl, hp, h, e, q⟩
end
theorem toV_vals {κ μ : Type} {f : κ → μ} {l : List (κ × Int)} : (toV f l).map (·.2) = (l.map (·.2)).map V.int := by
  unfold toV
  rw [List.map_map, List.map_map]
  rfl
/-! promises -/
def spHI (C : Addr) : Sp := fun vs H Q _ => ∃ x dx t nm life c, vs = [.ref x, .ref t, .int nm, .int life, .int c] ∧ H x = some (.ins C dx []) ∧ ∀ H' da dl, HAt C H' x t nm da dl ⟨life, c, 0, [], []⟩ → H da = none → H dl = none → da ≠ dl → Kp x H H' → Q .non H'
def spLookH (C CT B : Addr) : Sp := fun vs H Q E => ∃ h t nm da dl s T c, vs = [.ref h, .int c] ∧ HAt C H h t nm da dl s ∧ WfH s ∧ TAt CT H t T ∧ (c < s.clock → E (.ref B) none H) ∧ (s.clock ≤ c → ∀ H', HAt C H' h t nm da dl (hLook (Tm.len T) c s) → Kp3 h da dl H H' → Q .non H')
theorem spLookH_use {C CT B h t da dl : Addr} {nm c : Int} {s : HSt} {T : Tm} {H : Hp} {Q : VK} {E : XK} (h1 : HAt C H h t nm da dl s) (h2 : WfH s) (h3 : TAt CT H t T) (h4 : c < s.clock → E (.ref B) none H) (h5 : s.clock ≤ c → ∀ H', HAt C H' h t nm da dl (hLook T.len c s) → Kp3 h da dl H H' → Q .non H') : spLookH C CT B [.ref h, .int c] H Q E := ⟨h, t, nm, da, dl, s, T, c, rfl, h1, h2, h3, h4, h5⟩
def spAskH (C CT B : Addr) : Sp := fun vs H Q E => ∃ h t nm da dl s T c, vs = [.ref h, .int c] ∧ HAt C H h t nm da dl s ∧ WfH s ∧ TAt CT H t T ∧ (c < s.clock → E (.ref B) none H) ∧ (s.clock ≤ c → ∀ q H', HAt C H' h t nm da dl (hAsk (Tm.len T) c s) → Kp3 h da dl H H' → H q = none → H' q = some (.tup [.int s.life, .int s.many]) → Q (.ref q) H')
def spHearH (C CT B N : Addr) : Sp := fun vs H Q E => ∃ h t nm da dl s T c k q n, vs = [.ref h, .int c, .int k, .ref q] ∧ HAt C H h t nm da dl s ∧ WfH s ∧ TAt CT H t T ∧ H q = some (.tup [.int (Prod.fst (α := Int) (β := Int) n), .int n.2]) ∧ (¬ (0 ≤ k ∧ k < T.kn) → E (.ref N) none H) ∧
  (0 ≤ k ∧ k < T.kn → c < s.clock → E (.ref B) none H) ∧ (0 ≤ k ∧ k < T.kn → s.clock ≤ c → ∀ H', HAt C H' h t nm da dl (hHear T.len c k n s) → Kp3 h da dl H H' → Q .non H')
def spHoldsH (C CT B : Addr) : Sp := fun vs H Q E => ∃ h t nm da dl s T c, vs = [.ref h, .int c] ∧ HAt C H h t nm da dl s ∧ WfH s ∧ TAt CT H t T ∧ (c < s.clock → E (.ref B) none H) ∧ (s.clock ≤ c → ∀ H', HAt C H' h t nm da dl (hLook (Tm.len T) c s) → Kp3 h da dl H H' → Q (.bl (hHolds T.most c s)) H')
theorem spHoldsH_use {C CT B h t da dl : Addr} {nm c : Int} {s : HSt} {T : Tm} {H : Hp} {Q : VK} {E : XK} (h1 : HAt C H h t nm da dl s) (h2 : WfH s) (h3 : TAt CT H t T) (h4 : c < s.clock → E (.ref B) none H) (h5 : s.clock ≤ c → ∀ H', HAt C H' h t nm da dl (hLook T.len c s) → Kp3 h da dl H H' → Q (.bl (hHolds T.most c s)) H') : spHoldsH C CT B [.ref h, .int c] H Q E := ⟨h, t, nm, da, dl, s, T, c, rfl, h1, h2, h3, h4, h5⟩
def spUntilH (C CT B : Addr) : Sp := fun vs H Q E => ∃ h t nm da dl s T c, vs = [.ref h, .int c] ∧ HAt C H h t nm da dl s ∧ WfH s ∧ TAt CT H t T ∧ (c < s.clock → E (.ref B) none H) ∧ (s.clock ≤ c → ∀ v H', HAt C H' h t nm da dl (hLook (Tm.len T) c s) → Kp3 h da dl H H' → UntilR T.most c s v → Q v H')
def spFreeH (C CT B N : Addr) : Sp := fun vs H Q E => ∃ h t nm da dl s T c, vs = [.ref h, .int c] ∧ HAt C H h t nm da dl s ∧ WfH s ∧ TAt CT H t T ∧ (c < s.clock → E (.ref B) none H) ∧ (s.clock ≤ c → s.many = 0 → E (.ref N) none H) ∧
  (s.clock ≤ c → s.many ≠ 0 → ∀ q da' dl' H', HAt C H' h t nm da' dl' (hFree c s) → Kp3 h da dl H H' → H q = none → H da' = none → H dl' = none → da' ≠ dl' → H' q = some (.tup [.int s.life, .int (s.many - 1)]) → Q (.ref q) H')
theorem HAt.same {C h t da dl : Addr} {nm : Int} {s : HSt} {H H' : Hp} (z : Same H H') : HAt C H h t nm da dl s → HAt C H' h t nm da dl s := fun ⟨⟨dx, a⟩, b, c⟩ => ⟨⟨dx, z _ _ a⟩, z _ _ b, z _ _ c⟩
end Lh

set_option Elab.async false
set_option linter.all false
set_option maxRecDepth 100000
set_option maxHeartbeats 4000000
namespace Lh
open PySem PySem.Spec PyProof.Rows L2
/-! ### k03: the law's own holder, and that both answer alike -/
abbrev Out3 := V ⊕ Num
def OutAt (H : Hp) (v : V) : Out3 → Prop
  | .inl x => v = x
  | .inr n => ∃ q, v = .ref q ∧ H q = some (.tup [.int n.1, .int n.2])
def HStep (T : Tm) (way c k : Int) (n : Num) (s s' : HSt) (o : Out3) : Prop :=
  if way = 1 ∧ ¬ (0 ≤ k ∧ k < T.kn) then s' = s ∧ o = .inl (.str "keeper")
  else if c < s.clock then s' = s ∧ o = .inl (.str "back")
  else if way = 0 then s' = hAsk T.len c s ∧ o = .inr (s.life, s.many)
  else if way = 1 then s' = hHear T.len c k n s ∧ o = .inl .non
  else if way = 2 then s' = hLook T.len c s ∧ o = .inl (.bl (hHolds T.most c s))
  else if way = 3 then s' = hLook T.len c s ∧ ∃ v, UntilR T.most c s v ∧ o = .inl v
  else if s.many = 0 then s' = s ∧ o = .inl (.str "asked")
  else s' = hFree c s ∧ o = .inr (s.life, s.many - 1)
structure WSt where
  clock : Int
  first : Int
  life : Int
  many : Int
  asks : List (Num × Int)
  ends : List Int
def wHear (len c k : Int) (n : Num) (w : WSt) : List Int := match aGet w.asks n with
  | none => w.ends
  | some a => w.ends.set k.toNat (max (w.ends.getD k.toNat 0) (a + len))
def WStep (T : Tm) (way c k : Int) (n : Num) (w w' : WSt) (o : Out3) : Prop :=
  if way = 1 ∧ ¬ (0 ≤ k ∧ k < T.kn) then w' = w ∧ o = .inl (.str "keeper")
  else if c < w.clock then w' = w ∧ o = .inl (.str "back")
  else if way = 4 ∧ w.many = 0 then w' = w ∧ o = .inl (.str "asked")
  else if way = 0 then w' = ⟨c, w.first, w.life, w.many + 1, aPut w.asks (w.life, w.many) c, w.ends⟩ ∧ o = .inr (w.life, w.many + 1 - 1)
  else if way = 1 then w' = ⟨c, w.first, w.life, w.many, w.asks, wHear T.len c k n w⟩ ∧ o = .inl .non
  else if way = 4 then w' = ⟨c, w.first, w.life, w.many, [], List.replicate T.kn.toNat w.first⟩ ∧ o = .inr (w.life, w.many - 1)
  else w' = ⟨c, w.first, w.life, w.many, w.asks, w.ends⟩ ∧ ∃ good : List Int, good.Perm (w.ends.filter fun e => decide (c < e)) ∧ good.Pairwise (· ≤ ·) ∧
    ((way = 2 ∧ o = .inl (.bl (decide (T.kn < 2 * (good.length : Int))))) ∨ (way = 3 ∧ ((¬ T.kn < 2 * (good.length : Int) ∧ o = .inl .non) ∨ (T.kn < 2 * (good.length : Int) ∧ ∃ e, good[((good.length : Int) - T.kn / 2 - 1).toNat]? = some e ∧ o = .inl (.int e)))))
def LetOk (o : Option Int) (e c : Int) : Prop := match o with
  | some v => v ≤ e ∧ (c < e → v = e)
  | none => e ≤ c
theorem LetOk.mono {o : Option Int} {e c c' : Int} (h : LetOk o e c) (hc : c ≤ c') : LetOk o e c' := by
  cases o with
  | none => exact Int.le_trans h hc
  | some v => exact ⟨h.1, fun z => h.2 (by omega)⟩
structure Rel3 (T : Tm) (s : HSt) (w : WSt) : Prop where
  c : s.clock = w.clock
  l : s.life = w.life
  m : s.many = w.many
  a : s.asks = keepA T.len w.clock w.asks
  nd : (w.asks.map (·.1)).Nodup
  fr : ∀ x ∈ w.asks, x.1.2 < w.many
  ln : w.ends.length = T.kn.toNat
  lk : ∀ x ∈ s.lets, 0 ≤ x.1 ∧ x.1 < T.kn
  ln2 : (s.lets.map (·.1)).Nodup
  le : ∀ k : Nat, k < T.kn.toNat → LetOk (aGet s.lets (k : Int)) (w.ends.getD k 0) w.clock
  fi : w.first ≤ w.clock
theorem keepA_keepA {len c c' : Int} (h : c ≤ c') (l : List (Num × Int)) : keepA len c' (keepA len c l) = keepA len c' l := by
  unfold keepA
  rw [List.filter_filter]
  apply List.filter_congr
  intro x _
  by_cases e : c' < x.2 + len
  · simp [e]; omega
  · simp [e]
theorem aGet_keepA {len c : Int} {l : List (Num × Int)} (nd : (l.map (·.1)).Nodup) (n : Num) : aGet (keepA len c l) n = (aGet l n).bind fun a => if c < a + len then some a else none := by
  induction l with
  | nil => rfl
  | cons x r ih =>
    rw [List.map_cons, List.nodup_cons] at nd
    have ih := ih nd.2
    unfold keepA at ih ⊢
    rw [aGet_cons]
    by_cases e : x.1 = n
    · rw [if_pos e]
      by_cases h : c < x.2 + len
      · rw [List.filter_cons_of_pos (by simpa using h), aGet_cons, if_pos e]
        simp [h]
      · rw [List.filter_cons_of_neg (by simpa using h), ih]
        have z : aGet r n = none := by
          cases z : aGet r n with
          | none => rfl
          | some a => exact absurd (List.mem_map.mpr ⟨_, aGet_mem z, rfl⟩) (by rw [← e]; exact nd.1)
        rw [z]
        simp [h]
    · rw [if_neg e]
      by_cases h : c < x.2 + len
      · rw [List.filter_cons_of_pos (by simpa using h), aGet_cons, if_neg e, ih]
      · rw [List.filter_cons_of_neg (by simpa using h), ih]
theorem live_perm {lets : List (Int × Int)} {ends : List Int} {kn : Nat} {c : Int} (lk : ∀ x ∈ lets, 0 ≤ x.1 ∧ x.1 < (kn : Int)) (nd : (lets.map (·.1)).Nodup) (ln : ends.length = kn)
    (le : ∀ k : Nat, k < kn → LetOk (aGet lets (k : Int)) (ends.getD k 0) c) : ((liveL c lets).map (·.2)).Perm (ends.filter fun e => decide (c < e)) := by
  have hr : (List.range kn).map (fun i => ends.getD i 0) = ends := by
    apply List.ext_getElem?
    intro i
    rw [List.getElem?_map]
    by_cases hi : i < kn
    · rw [List.getElem?_range hi, List.getElem?_eq_getElem (by omega)]
      simp [List.getD_eq_getElem?_getD, List.getElem?_eq_getElem (show i < ends.length by omega)]
    · rw [List.getElem?_eq_none (by simpa using hi), List.getElem?_eq_none (by omega)]; rfl
  have e2 : ends.filter (fun e => decide (c < e)) = (((List.range kn).map fun i : Nat => ((i : Int), ends.getD i 0)).filter fun x => decide (c < x.2)).map (·.2) := by
    conv => lhs; rw [← hr]
    rw [List.filter_map, List.filter_map, List.map_map]
    rfl
  rw [e2]
  refine List.Perm.map _ ((List.perm_ext_iff_of_nodup ?_ ?_).mpr fun x => ?_)
  · refine List.Pairwise.filter _ (List.Pairwise.of_map (fun x : Int × Int => x.1) ?_ nd)
    intro a b h z
    exact h (congrArg _ z)
  · refine List.Pairwise.filter _ (List.Pairwise.of_map (fun x : Int × Int => x.1.toNat) (S := fun a b => a ≠ b) ?_ ?_)
    · intro a b h z
      exact h (by rw [z])
    · rw [List.map_map]
      have : ((fun x : Int × Int => x.1.toNat) ∘ fun i : Nat => ((i : Int), ends.getD i 0)) = id := by funext i; simp
      rw [this, List.map_id]
      exact List.nodup_range
  · unfold liveL
    rw [List.mem_filter, List.mem_filter]
    constructor
    · rintro ⟨h1, h2⟩
      have h2' := of_decide_eq_true h2
      obtain ⟨z1, z2⟩ := lk x h1
      refine ⟨List.mem_map.mpr ⟨x.1.toNat, List.mem_range.mpr (by omega), ?_⟩, h2⟩
      have e := le x.1.toNat (by omega)
      rw [show ((x.1.toNat : Nat) : Int) = x.1 by omega] at e ⊢
      rw [aGet_of_mem nd (show (x.1, x.2) ∈ lets from h1)] at e
      obtain ⟨e1, e2⟩ := e
      rw [← e2 (by omega)]
    · rintro ⟨h1, h2⟩
      obtain ⟨i, hi, rfl⟩ := List.mem_map.mp h1
      have hi := List.mem_range.mp hi
      have h2' := of_decide_eq_true h2
      dsimp only at h2'
      have e := le i hi
      cases z : aGet lets (i : Int) with
      | none =>
        rw [z] at e
        exact absurd h2' (by have e : _ ≤ _ := e; omega)
      | some v =>
        rw [z] at e
        have e3 := e.2 h2'
        refine ⟨?_, h2⟩
        rw [← e3]
        exact aGet_mem z
theorem desc_filter {c : Int} : ∀ {l : List Int} {i : Nat}, l.Pairwise (· ≥ ·) → i < (l.filter fun e => decide (c < e)).length → l[i]? = (l.filter fun e => decide (c < e))[i]?
  | [], i, _, h => by simp at h
  | x :: r, i, hp, h => by
    by_cases e : c < x
    · rw [List.filter_cons_of_pos (by simpa using e)] at h ⊢
      cases i with
      | zero => rfl
      | succ i =>
        rw [List.getElem?_cons_succ, List.getElem?_cons_succ]
        exact desc_filter (List.Pairwise.of_cons hp) (by simpa using h)
    · exfalso
      have hx := (List.pairwise_cons.mp hp).1
      have : (x :: r).filter (fun e => decide (c < e)) = [] := by
        rw [List.filter_eq_nil_iff]
        intro y hy
        rcases List.mem_cons.mp hy with z | z
        · rw [z]; simpa using e
        · have := hx y z
          simp; omega
      rw [this] at h
      simp at h
theorem until_same {ns good : List Int} {lets : List (Int × Int)} {c : Int} {most : Int} (h1 : ns.Perm (lets.map (·.2))) (h2 : ns.Pairwise (· ≥ ·)) (h3 : good.Perm ((liveL c lets).map (·.2))) (h4 : good.Pairwise (· ≤ ·)) (hm : 1 ≤ most) (hl : most ≤ (good.length : Int)) :
    ns[(most - 1).toNat]? = good[((good.length : Int) - most).toNat]? := by
  have p1 : (ns.filter fun e => decide (c < e)).Perm good := by
    refine (h1.filter _).trans (List.Perm.trans ?_ h3.symm)
    rw [List.filter_map]
    exact List.Perm.refl _
  have p2 : ns.filter (fun e => decide (c < e)) = good.reverse := by
    refine List.Perm.eq_of_pairwise (le := fun a b => a ≥ b) (fun a b _ _ x y => by have x : a ≥ b := x; have y : b ≥ a := y; omega) (h2.filter _) ?_ (p1.trans (List.reverse_perm good).symm)
    rw [List.pairwise_reverse]
    exact h4
  have hlen : (ns.filter fun e => decide (c < e)).length = good.length := p1.length_eq
  rw [desc_filter (c := c) h2 (by omega), p2, List.getElem?_reverse (by omega)]
  congr 1
  omega
theorem step_same {T : Tm} {way c k : Int} {n : Num} {s s' : HSt} {w w' : WSt} {o o' : Out3} (ok : T.ok) (hw : way = 0 ∨ way = 1 ∨ way = 2 ∨ way = 3 ∨ way = 4) (R : Rel3 T s w) (h1 : HStep T way c k n s s' o) (h2 : WStep T way c k n w w' o') : Rel3 T s' w' ∧ o = o' := by
  obtain ⟨⟨t1, t2, t3⟩, ⟨t4, t5⟩, t6, t7⟩ := ok
  obtain ⟨life, clock, many, asks, lets⟩ := s
  obtain ⟨wc, wf, wl, wm, wa, we⟩ := w
  obtain ⟨rc, rl, rm, ra, rnd, rfr, rln, rlk, rln2, rle, rfi⟩ := R
  dsimp only at rc rl rm ra rnd rfr rln rlk rln2 rle rfi
  subst rc rl rm ra
  unfold HStep at h1
  unfold WStep at h2
  by_cases g1 : way = 1 ∧ ¬ (0 ≤ k ∧ k < T.kn)
  · rw [if_pos g1] at h1 h2
    obtain ⟨rfl, rfl⟩ := h1
    obtain ⟨rfl, rfl⟩ := h2
    exact ⟨⟨rfl, rfl, rfl, rfl, rnd, rfr, rln, rlk, rln2, rle, rfi⟩, rfl⟩
  · rw [if_neg g1] at h1 h2
    by_cases g2 : c < clock
    · dsimp only at h1 h2
      rw [if_pos g2] at h1 h2
      obtain ⟨rfl, rfl⟩ := h1
      obtain ⟨rfl, rfl⟩ := h2
      exact ⟨⟨rfl, rfl, rfl, rfl, rnd, rfr, rln, rlk, rln2, rle, rfi⟩, rfl⟩
    · have hc : clock ≤ c := by omega
      have rle' : ∀ k : Nat, k < T.kn.toNat → LetOk (aGet lets (k : Int)) (we.getD k 0) c := fun k hk => (rle k hk).mono hc
      dsimp only at h1 h2
      rw [if_neg g2] at h1 h2
      by_cases g3 : way = 4 ∧ many = 0
      · rw [if_pos g3] at h2
        rw [if_neg (by omega), if_neg (by omega), if_neg (by omega), if_neg (by omega), if_pos g3.2] at h1
        obtain ⟨rfl, rfl⟩ := h1
        obtain ⟨rfl, rfl⟩ := h2
        exact ⟨⟨rfl, rfl, rfl, rfl, rnd, rfr, rln, rlk, rln2, rle, rfi⟩, rfl⟩
      · rw [if_neg g3] at h2
        by_cases g4 : way = 0
        · rw [if_pos g4] at h1 h2
          obtain ⟨rfl, rfl⟩ := h1
          obtain ⟨rfl, rfl⟩ := h2
          have fresh : ∀ x ∈ wa, x.1 ≠ (life, many) := fun x hx e => by
            have := rfr x hx
            rw [e] at this
            exact absurd this (Int.lt_irrefl _)
          have fresh2 : ∀ x ∈ keepA T.len c (keepA T.len clock wa), x.1 ≠ (life, many) := fun x hx => fresh x (List.mem_filter.mp (List.mem_filter.mp hx).1).1
          refine ⟨⟨rfl, rfl, rfl, ?_, aPut_nd rnd, ?_, rln, rlk, rln2, rle', by dsimp only; omega⟩, ?_⟩
          · show aPut (keepA T.len c (keepA T.len clock wa)) (life, many) c = keepA T.len c (aPut wa (life, many) c)
            rw [aPut_new fresh2, aPut_new fresh, keepA_keepA hc]
            unfold keepA
            rw [List.filter_append, List.filter_cons_of_pos (by simp; omega), List.filter_nil]
          · show ∀ x ∈ aPut wa (life, many) c, x.1.2 < many + 1
            rw [aPut_new fresh]
            intro x hx
            rcases List.mem_append.mp hx with z | z
            · have := rfr x z
              omega
            · rw [List.mem_singleton.mp z]
              show many < many + 1
              omega
          · rw [Int.add_sub_cancel]
        · rw [if_neg g4] at h1 h2
          by_cases g5 : way = 1
          · rw [if_pos g5] at h1 h2
            obtain ⟨rfl, rfl⟩ := h1
            obtain ⟨rfl, rfl⟩ := h2
            have hk : 0 ≤ k ∧ k < T.kn := by
              by_cases z : 0 ≤ k ∧ k < T.kn
              · exact z
              · exact absurd ⟨g5, z⟩ g1
            refine ⟨?_, rfl⟩
            unfold hHear wHear
            dsimp only
            rw [keepA_keepA hc, aGet_keepA rnd]
            cases hg : aGet wa n with
            | none =>
              exact ⟨rfl, rfl, rfl, keepA_keepA hc _, rnd, rfr, rln, rlk, rln2, rle', by dsimp only; omega⟩
            | some a =>
              have ln' : (we.set k.toNat (max (we.getD k.toNat 0) (a + T.len))).length = T.kn.toNat := by rw [List.length_set]; exact rln
              have gs : ∀ j : Nat, j < T.kn.toNat → (we.set k.toNat (max (we.getD k.toNat 0) (a + T.len))).getD j 0 = if j = k.toNat then max (we.getD k.toNat 0) (a + T.len) else we.getD j 0 := by
                intro j hj
                rw [List.getD_eq_getElem?_getD, List.getElem?_set]
                by_cases e : k.toNat = j
                · rw [if_pos e, if_pos (by omega), if_pos e.symm]
                  rfl
                · rw [if_neg e, if_neg (fun z => e z.symm), List.getD_eq_getElem?_getD]
              by_cases hlv : c < a + T.len
              · rw [show ((some a).bind fun a => if c < a + T.len then some a else none) = some a from by simp [hlv]]
                refine ⟨rfl, rfl, rfl, rfl, rnd, rfr, ln', ?_, aPut_nd rln2, ?_, by dsimp only; omega⟩
                · dsimp only
                  intro x hx
                  have hx1 : x.1 ∈ (aPut lets k (max (a + T.len) ((aGet lets k).getD (a + T.len)))).map (·.1) := List.mem_map.mpr ⟨x, hx, rfl⟩
                  rw [aPut_keys] at hx1
                  have : x.1 ∈ lets.map (·.1) ++ [k] := by
                    split at hx1
                    · exact List.mem_append.mpr (.inl hx1)
                    · exact hx1
                  rcases List.mem_append.mp this with z | z
                  · obtain ⟨y, hy, e⟩ := List.mem_map.mp z
                    rw [← e]
                    exact rlk y hy
                  · rw [List.mem_singleton.mp z]
                    exact hk
                · dsimp only
                  intro j hj
                  rw [gs j hj, aGet_put]
                  by_cases e : j = k.toNat
                  · rw [if_pos (by omega), if_pos e]
                    have z := rle' j hj
                    rw [e, show ((k.toNat : Nat) : Int) = k by omega] at z
                    cases hz : aGet lets k with
                    | none =>
                      rw [hz] at z
                      have z : _ ≤ _ := z
                      refine ⟨?_, fun _ => ?_⟩ <;> simp only [Option.getD_none] <;> omega
                    | some v =>
                      rw [hz] at z
                      obtain ⟨z1, z2⟩ := z
                      by_cases e3 : c < we.getD k.toNat 0
                      · have := z2 e3
                        refine ⟨?_, fun _ => ?_⟩ <;> simp only [Option.getD_some] <;> omega
                      · refine ⟨?_, fun _ => ?_⟩ <;> simp only [Option.getD_some] <;> omega
                  · rw [if_neg (by omega), if_neg e]
                    exact rle' j hj
              · rw [show ((some a).bind fun a => if c < a + T.len then some a else none) = none from by simp [hlv]]
                refine ⟨rfl, rfl, rfl, keepA_keepA hc _, rnd, rfr, ln', rlk, rln2, ?_, by dsimp only; omega⟩
                dsimp only [hLook]
                intro j hj
                rw [gs j hj]
                by_cases e : j = k.toNat
                · rw [if_pos e, ← e]
                  have z := rle' j hj
                  cases hz : aGet lets (j : Int) with
                  | none =>
                    rw [hz] at z
                    have z : _ ≤ _ := z
                    show _ ≤ _
                    omega
                  | some v =>
                    rw [hz] at z
                    obtain ⟨z1, z2⟩ := z
                    refine ⟨by omega, fun e4 => ?_⟩
                    have := z2 (by omega)
                    omega
                · rw [if_neg e]
                  exact rle' j hj
          · rw [if_neg g5] at h1 h2
            by_cases g6 : way = 4
            · rw [if_pos g6] at h2
              rw [if_neg (by omega), if_neg (by omega), if_neg (by omega)] at h1
              obtain ⟨rfl, rfl⟩ := h1
              obtain ⟨rfl, rfl⟩ := h2
              refine ⟨⟨rfl, rfl, rfl, rfl, List.nodup_nil, fun x hx => (by cases hx), List.length_replicate, fun x hx => (by cases hx), List.nodup_nil, fun j hj => ?_, (by dsimp only; omega)⟩, rfl⟩
              show (List.replicate T.kn.toNat wf).getD j 0 ≤ c
              rw [List.getD_eq_getElem?_getD, List.getElem?_replicate, if_pos hj]
              show wf ≤ c
              omega
            · rw [if_neg g6] at h2
              obtain ⟨rfl, good, hp, hs, hgo⟩ := h2
              have lp := live_perm (kn := T.kn.toNat) (fun x hx => by have := rlk x hx; omega) rln2 rln rle'
              have hlen : good.length = (liveL c lets).length := by rw [hp.length_eq, ← lp.length_eq, List.length_map]
              have hrel : ∀ a' : List (Num × Int), a' = keepA T.len c (keepA T.len clock wa) → Rel3 T ⟨life, c, many, a', lets⟩ ⟨c, wf, life, many, wa, we⟩ := fun a' e =>
                ⟨rfl, rfl, rfl, e.trans (keepA_keepA hc _), rnd, rfr, rln, rlk, rln2, rle', (by dsimp only; omega)⟩
              have hmost : T.most ≤ ((liveL c lets).length : Int) ↔ T.kn < 2 * (good.length : Int) := by
                rw [← hlen]
                unfold Tm.most
                omega
              rcases hgo with ⟨g7, rfl⟩ | ⟨g7, hgo⟩
              · rw [if_pos g7] at h1
                obtain ⟨rfl, rfl⟩ := h1
                refine ⟨hrel _ rfl, ?_⟩
                unfold hHolds
                rw [decide_eq_decide.mpr hmost]
              · rw [if_neg (by omega), if_pos g7] at h1
                obtain ⟨rfl, v, hu, rfl⟩ := h1
                refine ⟨hrel _ rfl, ?_⟩
                rcases hu with ⟨u1, rfl⟩ | ⟨u1, ns, e, u2, u3, u4, rfl⟩
                · have u1 : ¬ _ := of_decide_eq_false u1
                  dsimp only at u1
                  rcases hgo with ⟨_, rfl⟩ | ⟨z, _⟩
                  · rfl
                  · exact absurd (hmost.mpr z) u1
                · have u1 : _ := of_decide_eq_true u1
                  dsimp only at u1 u2
                  rcases hgo with ⟨z, _⟩ | ⟨z, e', he', rfl⟩
                  · exact absurd (hmost.mp u1) z
                  · have hm1 : 1 ≤ T.most := by
                      unfold Tm.most
                      omega
                    have q := until_same (most := T.most) u2 u3 (hp.trans lp.symm) hs hm1 (by rw [hlen]; exact u1)
                    rw [u4, show ((good.length : Int) - T.most).toNat = ((good.length : Int) - T.kn / 2 - 1).toNat from (by unfold Tm.most; congr 1; omega), he'] at q
                    cases q
                    rfl
end Lh

set_option Elab.async false
set_option linter.all false
set_option maxRecDepth 100000
set_option maxHeartbeats 4000000
namespace Lh
open PySem PySem.Spec PyProof.Rows L2
def wf3 (c f l m : Int) (wa we : Addr) : List (Key × V) := [(Sum.inr "clock", .int c), (Sum.inr "first", .int f), (Sum.inr "life", .int l), (Sum.inr "many", .int m), (Sum.inr "asks", .ref wa), (Sum.inr "ends", .ref we)]
theorem wf3_clock {c f l m c' : Int} {wa we : Addr} : putK (wf3 c f l m wa we) (Sum.inr "clock" : Key) (.int c') = wf3 c' f l m wa we := by first | rfl | kernel_rfl
theorem wf3_many {c f l m m' : Int} {wa we : Addr} : putK (wf3 c f l m wa we) (Sum.inr "many" : Key) (.int m') = wf3 c f l m' wa we := by first | rfl | kernel_rfl
theorem wf3_asks {c f l m : Int} {wa we wa' : Addr} : putK (wf3 c f l m wa we) (Sum.inr "asks" : Key) (.ref wa') = wf3 c f l m wa' we := by first | rfl | kernel_rfl
theorem wf3_ends {c f l m : Int} {wa we we' : Addr} : putK (wf3 c f l m wa we) (Sum.inr "ends" : Key) (.ref we') = wf3 c f l m wa we' := by first | rfl | kernel_rfl
theorem wf3_new {c f l m : Int} {wa we : Addr} : mergeK [] (wf3 c f l m wa we) = wf3 c f l m wa we := by first | rfl | kernel_rfl
structure WAt3 (H : Hp) (d wa we : Addr) (w : WSt) : Prop where
  d : H d = some (.dK (wf3 w.clock w.first w.life w.many wa we))
  a : H wa = some (.dT (toV fN w.asks))
  e : H we = some (.lst (w.ends.map V.int))
theorem WAt3.same {H H' : Hp} {d wa we : Addr} {w : WSt} (s : Same H H') : WAt3 H d wa we w → WAt3 H' d wa we w := fun ⟨a, b, c⟩ => ⟨s _ _ a, s _ _ b, s _ _ c⟩
def spAskedL3 (C CT : Addr) : Sp := fun vs H Q _ => ∃ h t nm da dl s T way c k q n, vs = [.ref h, .int way, .int c, .int k, .ref q] ∧ HAt C H h t nm da dl s ∧ WfH s ∧ TAt CT H t T ∧ H q = some (.tup [.int (Prod.fst (α := Int) (β := Int) n), .int n.2]) ∧
  ∀ s' o da' dl' v H', HStep T way c k n s s' o → HAt C H' h t nm da' dl' s' → Kp3 h da dl H H' → (da' = da ∨ H da' = none) → (dl' = dl ∨ H dl' = none) → OutAt H' v o → Q v H'
def spDue3 : Sp := fun vs H Q _ => ∃ d th wa we w T way c k q n, vs = [.ref d, .ref th, .int way, .int c, .int k, .ref q] ∧ WAt3 H d wa we w ∧ w.asks.length ≤ 1000 ∧ w.ends.length = (Tm.kn T).toNat ∧ H th = some (.tup [.int T.low, .int T.high, .int T.len, .int T.kn]) ∧ T.ok ∧
  H q = some (.tup [.int (Prod.fst (α := Int) (β := Int) n), .int n.2]) ∧ (way = 0 ∨ way = 1 ∨ way = 2 ∨ way = 3 ∨ way = 4) ∧
  ∀ w' o wa' we' v H', WStep T way c k n w w' o → WAt3 H' d wa' we' w' → Kp3 d wa we H H' → (wa' = wa ∨ H wa' = none) → (we' = we ∨ H we' = none) → OutAt H' v o → Q v H'
def P4 (H : Hp) (xs : List V) : Prop := ∀ x ∈ xs, ∃ (q : Addr) (a b c d : Int), x = .ref q ∧ H q = some (.tup [.int a, .int b, .int c, .int d]) ∧ (a = 0 ∨ a = 1 ∨ a = 3)
theorem P4.same {H H' : Hp} {xs : List V} (s : Same H H') (h : P4 H xs) : P4 H' xs := fun x hx => let ⟨q, a, b, c, d, e, h1, h2⟩ := h x hx; ⟨q, a, b, c, d, e, s _ _ h1, h2⟩
theorem P4.app {H : Hp} {xs ys : List V} (h1 : P4 H xs) (h2 : P4 H ys) : P4 H (xs ++ ys) := fun x hx => (List.mem_append.mp hx).elim (h1 x) (h2 x)
theorem P4.cut {H : Hp} {xs : List V} {lo hi : Option Int} (h : P4 H xs) : P4 H (cutV xs lo hi) := fun x hx => h x (List.mem_of_mem_drop (List.mem_of_mem_take hx))
theorem P4.nil {H : Hp} : P4 H [] := fun x hx => by cases hx
theorem P4.one {H : Hp} {q : Addr} {a b c d : Int} (h : H q = some (.tup [.int a, .int b, .int c, .int d])) (e : a = 0 ∨ a = 1 ∨ a = 3) {xs : List V} (hx : P4 H xs) : P4 H (.ref q :: xs) := fun x hm => by
  rcases List.mem_cons.mp hm with z | z
  · exact ⟨q, a, b, c, d, z, h, e⟩
  · exact hx x z
def spFirst (K : PySem.W.Frag) : Sp := fun vs H Q _ => ∃ (a th : Addr) (ns : List Int) (T : Tm), vs = [.ref a, .ref th] ∧ SqL K H a (ns.map V.int) ∧ H th = some (.tup [.int T.low, .int T.high, .int T.len, .int T.kn]) ∧ T.ok ∧
  ∀ p xs H', Same H H' → H' p = some (.lst xs) → P4 H' xs → xs.length ≤ 21 → Q (.ref p) H'
theorem HStep.wf {T : Tm} {way c k : Int} {n : Num} {s s' : HSt} {o : Out3} (h : HStep T way c k n s s' o) (n1 : (s.asks.map (·.1)).Nodup) (n2 : (s.lets.map (·.1)).Nodup) {i : Nat} (h1 : s.asks.length ≤ i) (h2 : s.lets.length ≤ i) :
    (s'.asks.map (·.1)).Nodup ∧ (s'.lets.map (·.1)).Nodup ∧ s'.asks.length ≤ i + 1 ∧ s'.lets.length ≤ i + 1 := by
  have hl : (hLook T.len c s).asks.length ≤ i := Nat.le_trans keepA_le h1
  have look : ((hLook T.len c s).asks.map (·.1)).Nodup ∧ ((hLook T.len c s).lets.map (·.1)).Nodup ∧ (hLook T.len c s).asks.length ≤ i + 1 ∧ (hLook T.len c s).lets.length ≤ i + 1 := ⟨keepA_nd n1, n2, Nat.le_succ_of_le hl, Nat.le_succ_of_le h2⟩
  have old : (s.asks.map (·.1)).Nodup ∧ (s.lets.map (·.1)).Nodup ∧ s.asks.length ≤ i + 1 ∧ s.lets.length ≤ i + 1 := ⟨n1, n2, Nat.le_succ_of_le h1, Nat.le_succ_of_le h2⟩
  unfold HStep at h
  split at h
  · rw [h.1]; exact old
  · split at h
    · rw [h.1]; exact old
    · split at h
      · rw [h.1]
        exact ⟨aPut_nd (keepA_nd n1), n2, Nat.le_trans (aPut_length _ _ _) (Nat.succ_le_succ hl), Nat.le_succ_of_le h2⟩
      · split at h
        · rw [h.1]
          unfold hHear
          split
          · exact look
          · exact ⟨keepA_nd n1, aPut_nd n2, Nat.le_succ_of_le hl, Nat.le_trans (aPut_length _ _ _) (Nat.succ_le_succ h2)⟩
        · split at h
          · rw [h.1]; exact look
          · split at h
            · rw [h.1]; exact look
            · split at h
              · rw [h.1]; exact old
              · rw [h.1]
                exact ⟨List.nodup_nil, List.nodup_nil, Nat.zero_le _, Nat.zero_le _⟩
theorem WStep.wf {T : Tm} {way c k : Int} {n : Num} {w w' : WSt} {o : Out3} (h : WStep T way c k n w w' o) {i : Nat} (h1 : w.asks.length ≤ i) : w'.asks.length ≤ i + 1 := by
  have h2 := Nat.le_succ_of_le h1
  unfold WStep at h
  split at h
  · rw [h.1]; exact h2
  · split at h
    · rw [h.1]; exact h2
    · split at h
      · rw [h.1]; exact h2
      · split at h
        · rw [h.1]
          exact Nat.le_trans (aPut_length _ _ _) (Nat.succ_le_succ h1)
        · split at h
          · rw [h.1]; exact h2
          · split at h
            · rw [h.1]; exact Nat.zero_le _
            · rw [h.1]; exact h2
/-- what either answers -/
def OutO (o : Out3) : Prop := match o with
  | .inl v => v = .str "back" ∨ v = .str "keeper" ∨ v = .str "asked" ∨ v = .non ∨ (∃ b, v = .bl b) ∨ ∃ i, v = .int i
  | .inr _ => True
theorem HStep.out {T : Tm} {way c k : Int} {n : Num} {s s' : HSt} {o : Out3} (h : HStep T way c k n s s' o) : OutO o := by
  unfold HStep at h
  split at h
  · rw [h.2]; exact .inr (.inl rfl)
  · split at h
    · rw [h.2]; exact .inl rfl
    · split at h
      · rw [h.2]; exact True.intro
      · split at h
        · rw [h.2]; exact .inr (.inr (.inr (.inl rfl)))
        · split at h
          · rw [h.2]; exact .inr (.inr (.inr (.inr (.inl ⟨_, rfl⟩))))
          · split at h
            · obtain ⟨_, v, hu, rfl⟩ := h
              rcases hu with ⟨_, rfl⟩ | ⟨_, ns, e, _, _, _, rfl⟩
              · exact .inr (.inr (.inr (.inl rfl)))
              · exact .inr (.inr (.inr (.inr (.inr ⟨_, rfl⟩))))
            · split at h
              · rw [h.2]; exact .inr (.inr (.inl rfl))
              · rw [h.2]; exact True.intro
theorem kinds_of {K : PySem.W.Frag} {o : Out3} (h : OutO o) : ∃ (t : Value) (b1 b2 : Bool), (∀ H v, OutAt H v o → TyX K H v t) ∧ PySem.W.kitOne K t (.type "bool") = some b1 ∧ PySem.W.kitOne K t (.type "tuple") = some b2 := by
  match o, h with
  | .inl v, h =>
    rcases h with rfl | rfl | rfl | rfl | ⟨b, rfl⟩ | ⟨i, rfl⟩
    · exact ⟨_, false, false, fun _ _ e => by cases e; exact .base (.str _), kit_ty (by decide +kernel), kit_ty (by decide +kernel)⟩
    · exact ⟨_, false, false, fun _ _ e => by cases e; exact .base (.str _), kit_ty (by decide +kernel), kit_ty (by decide +kernel)⟩
    · exact ⟨_, false, false, fun _ _ e => by cases e; exact .base (.str _), kit_ty (by decide +kernel), kit_ty (by decide +kernel)⟩
    · exact ⟨_, false, false, fun _ _ e => by cases e; exact .base .non, kit_ty (by decide +kernel), kit_ty (by decide +kernel)⟩
    · exact ⟨_, true, false, fun _ _ e => by cases e; exact .base (.bl _), kit_ty (by decide +kernel), kit_ty (by decide +kernel)⟩
    · exact ⟨_, false, false, fun _ _ e => by cases e; exact .base (.int _), kit_ty (by decide +kernel), kit_ty (by decide +kernel)⟩
  | .inr n, _ => exact ⟨_, false, true, fun _ _ e => by obtain ⟨q, rfl, hq⟩ := e; exact .base (.tup hq), kit_ty (by decide +kernel), kit_ty (by decide +kernel)⟩
theorem eq_of {K : PySem.W.Frag} {o : Out3} (h : OutO o) : ∃ d, (∀ H v, OutAt H v o → Dp K H v d) ∧ SeqAt.shaped d = true ∧ PyData.eqv d d = true := by
  match o, h with
  | .inl v, h =>
    rcases h with rfl | rfl | rfl | rfl | ⟨b, rfl⟩ | ⟨i, rfl⟩
    · exact ⟨_, fun _ _ e => by cases e; exact .str _, by decide +kernel, by decide +kernel⟩
    · exact ⟨_, fun _ _ e => by cases e; exact .str _, by decide +kernel, by decide +kernel⟩
    · exact ⟨_, fun _ _ e => by cases e; exact .str _, by decide +kernel, by decide +kernel⟩
    · exact ⟨_, fun _ _ e => by cases e; exact .non, rfl, rfl⟩
    · exact ⟨_, fun _ _ e => by cases e; exact .bl b, rfl, by cases b <;> rfl⟩
    · exact ⟨_, fun _ _ e => by cases e; exact .int i, rfl, by show (i == i) = true; exact beq_self_eq_true i⟩
  | .inr n, _ =>
    refine ⟨.tuple [.int n.1, .int n.2], fun _ _ e => by obtain ⟨q, rfl, hq⟩ := e; exact .tup (sq_t hq) (.cons (.int _) (.cons (.int _) .nil)), rfl, ?_⟩
    show ((n.1 == n.1) && ((n.2 == n.2) && true)) = true
    simp
theorem OutAt.kp {H H' : Hp} {v : V} {o : Out3} (h : ∀ q xs, H q = some (.tup xs) → H' q = some (.tup xs)) : OutAt H v o → OutAt H' v o := by
  match o with
  | .inl x => exact id
  | .inr n => exact fun ⟨q, e, hq⟩ => ⟨q, e, h q _ hq⟩
section
variable {K : PySem.W.Frag} {σ : L2.St} {H : Hp} {Q : VK} {a b p d : Addr} {v x y z : V} {ta tb tc te : TE} {n : L2.St → Hp → Prop} {rt : VK} {bk ct : L2.St → Hp → Prop}
theorem rd_gsub {S : TSet} {R : L2.St → Hp → Prop} (h : ta σ H fun o H1 => tb σ H1 fun i H2 => S o i v H2 fun H3 => R σ H3) : gSub ta tb S v σ H R := h
theorem setl {xs : List V} {k : Int} {j : Nat} {G : Hp → Prop} (h : H p = some (.lst xs)) (e : ixN xs.length k = some j) (q : G (upd H p (.lst (xs.set j v)))) : rSetL (.ref p) (.int k) v H G := ⟨p, xs, k, j, rfl, rfl, h, e, q⟩
theorem rd_rep {xs ys : List V} {k : Int} (h : H a = some (.lst xs)) (h1 : 0 ≤ k) (h2 : k < 1000) (hl : xs.length ≤ 1000) (e : (List.replicate k.toNat xs).flatten = ys) (q : ∀ p H', H p = none → Same H H' → H' p = some (.lst ys) → Q (.ref p) H') : rRep (.ref a) (.int k) H Q :=
  ⟨a, k, xs, rfl, rfl, h, by omega, by omega, sz_le (Nat.le_trans (Nat.mul_le_mul hl (show k.toNat ≤ 1000 by omega)) (by decide)), fun p hp => q p _ hp (Same.upd hp) (by rw [e]; exact upd_same)⟩
theorem rep_one {x : V} {n : Nat} : (List.replicate n [x]).flatten = List.replicate n x := by
  induction n with
  | zero => rfl
  | succ n ih => rw [List.replicate_succ, List.flatten_cons, ih]; rfl
theorem rd_cat {xs ys : List V} (h1 : H a = some (.lst xs)) (h2 : H b = some (.lst ys)) (hl : xs.length + ys.length ≤ 10000000) (q : ∀ p H', H p = none → Same H H' → H' p = some (.lst (xs ++ ys)) → Q (.ref p) H') : rCat (.ref a) (.ref b) H Q :=
  ⟨a, b, xs, ys, rfl, rfl, h1, h2, sz_le hl, fun p hp => q p _ hp (Same.upd hp) upd_same⟩
theorem rd_sorted {ns : List Int} (h : SqL K H a (ns.map V.int)) (hl : ns.length < 64) (q : ∀ (ns' : List Int) (p : Addr) H', ns'.Perm ns → ns'.Pairwise (· ≤ ·) → H p = none → Same H H' → H' p = some (.lst (ns'.map V.int)) → Q (.ref p) H') : rSorted K [.ref a] H Q :=
  ⟨a, ns, rfl, h, hl, fun ns' p h1 h2 hp => q ns' p _ h1 h2 hp (Same.upd hp) upd_same⟩
theorem rd_cnt3 {b1 b2 b3 : Bool} (h : SqL K H p [.bl b1, .bl b2, .bl b3]) (e : [b1, b2, b3].count true = 1) (q : Q (.int 1) H) : rCntB K (.ref p) [.bl true] H Q := ⟨p, [b1, b2, b3], true, rfl, rfl, h, by rw [e]; exact q⟩
theorem rd_ix0 {b2 b3 : Bool} (h : SqL K H p [.bl true, .bl b2, .bl b3]) (q : Q (.int 0) H) : rIndex K (.ref p) [.bl true] H Q := ⟨p, _, _, 0, .bl true, rfl, rfl, h, rfl, rfl, rfl, rfl, fun m _ hm _ => absurd hm (Nat.not_lt_zero m), q⟩
theorem rd_ix1 {b3 : Bool} (h : SqL K H p [.bl false, .bl true, .bl b3]) (q : Q (.int 1) H) : rIndex K (.ref p) [.bl true] H Q := ⟨p, _, _, 1, .bl true, rfl, rfl, h, rfl, rfl, rfl, rfl, fun m z hm e => by
  match m, hm with
  | 0, _ => cases e; rfl, q⟩
theorem rd_ix2 (h : SqL K H p [.bl false, .bl false, .bl true]) (q : Q (.int 2) H) : rIndex K (.ref p) [.bl true] H Q := ⟨p, _, _, 2, .bl true, rfl, rfl, h, rfl, rfl, rfl, rfl, fun m z hm e => by
  match m, hm with
  | 0, _ => cases e; rfl
  | 1, _ => cases e; rfl, q⟩
end
end Lh

set_option Elab.async false
set_option linter.all false
set_option maxRecDepth 100000
set_option maxHeartbeats 4000000
namespace Lh
open PySem PySem.Spec PyProof.Rows L2
section
variable {K : PySem.W.Frag} {σ : L2.St} {H : Hp} {Q : VK} {a b p d : Addr} {v x y z : V} {ta tb tc te : TE} {R : Option Int → Hp → Prop}
theorem rd_sl {r : V → Option Int → Option Int → Hp → VK → Prop} {tl th : TO} (h : te σ H fun x H1 => tl σ H1 fun l H2 => th σ H2 fun u H3 => r x l u H3 Q) : tSl r te tl th σ H Q := h
def IsI (x : V) (H : Hp) (R : Option Int → Hp → Prop) : Prop := ∃ i, x = .int i ∧ R (some i) H
theorem isi {i : Int} (q : R (some i) H) : IsI (.int i) H R := ⟨i, rfl, q⟩
theorem rd_part (h : te σ H fun x H1 => IsI x H1 R) : tPart te σ H R := h
theorem rd_nopart (h : R none H) : tNoPart σ H R := h
theorem rd_slL {xs : List V} {lo hi : Option Int} (h : SqL K H a xs) (q : ∀ p H', H p = none → Same H H' → H' p = some (.lst (cutV xs lo hi)) → Q (.ref p) H') : rSlL K (.ref a) lo hi H Q := ⟨a, xs, rfl, h, fun p hp => q p _ hp (Same.upd hp) upd_same⟩
theorem rd_yes {R : Bool → Hp → Prop} (h : R true H) : tYes σ H R := h
theorem P4.updD {xs acc acc' : List V} (hD : H d = some (.lst acc)) (h : P4 H xs) : P4 (upd H d (.lst acc')) xs := fun x hx => by
  obtain ⟨q, a, b, c, e, h1, h2, h3⟩ := h x hx
  exact ⟨q, a, b, c, e, h1, by rw [upd_ne (ne_of h2 hD (by intro z; cases z))]; exact h2, h3⟩
theorem rd_gtup {n : Nat} {t : TGs} {xs : List V} {R : L2.St → Hp → Prop} (h : SqT K H a xs) (hl : xs.length = n) (q : t xs σ H R) : gTup K n t (.ref a) σ H R := ⟨a, xs, rfl, h, hl, q⟩
theorem rd_gnil {R : L2.St → Hp → Prop} (q : R σ H) : gNil [] σ H R := ⟨rfl, q⟩
theorem rd_gcons {g : TG} {u : TGs} {xs : List V} {R : L2.St → Hp → Prop} (q : g x σ H fun σ2 H2 => u xs σ2 H2 R) : gCons g u (x :: xs) σ H R := ⟨x, xs, rfl, q⟩
end
end Lh

set_option Elab.async false
set_option linter.all false
set_option maxRecDepth 100000
set_option maxHeartbeats 4000000
namespace Lh
open PySem PySem.Spec PyProof.Rows L2
/-! ### k11: holders whose lets all end together; keepers by index -/
def ends1 (e : Int) (js : List Nat) : List (Int × Int) := js.map fun j : Nat => ((j : Int), e)
def addJ (js : List Nat) (j : Nat) : List Nat := if j ∈ js then js else js ++ [j]
theorem addJ_nd {js : List Nat} {j : Nat} (nd : js.Nodup) : (addJ js j).Nodup := by
  unfold addJ
  split
  · exact nd
  · rename_i h
    exact nd_snoc nd h
theorem addJ_le {js : List Nat} {j : Nat} : (addJ js j).length ≤ js.length + 1 := by
  unfold addJ
  split
  · omega
  · rw [List.length_append]; simp
theorem ends1_nd {e : Int} {js : List Nat} (nd : js.Nodup) : ((ends1 e js).map (·.1)).Nodup := by
  unfold ends1
  rw [List.map_map]
  refine List.Pairwise.map (R := fun a b => a ≠ b) _ (fun a b h z => h ?_) nd
  have z : (a : Int) = (b : Int) := z
  omega
theorem aGet_ends1 {e : Int} {js : List Nat} (j : Nat) : aGet (ends1 e js) (j : Int) = if j ∈ js then some e else none := by
  induction js with
  | nil => exact (if_neg (by intro z; cases z)).symm
  | cons x r ih =>
    show aGet (((x : Int), e) :: ends1 e r) (j : Int) = _
    rw [aGet_cons]
    by_cases h : x = j
    · rw [if_pos (by rw [h]), if_pos (by rw [h]; exact List.mem_cons_self)]
    · rw [if_neg (by intro z; have z : (x : Int) = (j : Int) := z; omega), ih]
      by_cases h2 : j ∈ r
      · rw [if_pos h2, if_pos (List.mem_cons_of_mem _ h2)]
      · rw [if_neg h2, if_neg (by intro z; rcases List.mem_cons.mp z with z | z; exact h z.symm; exact h2 z)]
theorem aPut_ends1 {e : Int} {js : List Nat} (j : Nat) : aPut (ends1 e js) (j : Int) e = ends1 e (addJ js j) := by
  have hm : ((ends1 e js).any fun x => decide (x.1 = (j : Int))) = true ↔ j ∈ js := by
    rw [List.any_eq_true]
    constructor
    · rintro ⟨x, hx, h⟩
      have h := of_decide_eq_true h
      obtain ⟨i, hi, rfl⟩ := List.mem_map.mp hx
      have h : (i : Int) = (j : Int) := h
      rw [show j = i by omega]
      exact hi
    · intro h
      exact ⟨((j : Int), e), List.mem_map.mpr ⟨j, h, rfl⟩, decide_eq_true rfl⟩
  unfold aPut addJ
  by_cases h : j ∈ js
  · rw [if_pos (hm.mpr h), if_pos h]
    unfold ends1
    rw [List.map_map]
    apply List.map_congr_left
    intro x _
    show (if ((x : Int)) = (j : Int) then ((x : Int), e) else ((x : Int), e)) = _
    split <;> rfl
  · rw [if_neg (fun z => h (hm.mp z)), if_neg h]
    unfold ends1
    rw [List.map_append]
    rfl
theorem live_ends1 {c e : Int} {js : List Nat} : liveL c (ends1 e js) = if c < e then ends1 e js else [] := by
  unfold liveL ends1
  rw [List.filter_map]
  by_cases h : c < e
  · rw [if_pos h, List.filter_eq_self.mpr]
    intro x _
    exact decide_eq_true h
  · rw [if_neg h, List.filter_eq_nil_iff.mpr]
    · rfl
    · intro x _ z
      exact h (of_decide_eq_true z)
theorem holds_ends1 {most c e : Int} {s : HSt} {js : List Nat} (hs : s.lets = ends1 e js) (hm : 1 ≤ most) : hHolds most c s = decide (c < e ∧ most ≤ (js.length : Int)) := by
  unfold hHolds
  rw [hs, live_ends1]
  apply decide_eq_decide.mpr
  by_cases h : c < e
  · rw [if_pos h]
    unfold ends1
    rw [List.length_map]
    exact ⟨fun z => ⟨h, z⟩, fun z => z.2⟩
  · rw [if_neg h]
    exact ⟨fun z => absurd z (by simp; omega), fun z => absurd z.1 h⟩
theorem until_ends1 {most c e : Int} {s : HSt} {v : V} {js : List Nat} (hs : s.lets = ends1 e js) (hm : 1 ≤ most) (hc : c < e) (hl : most ≤ (js.length : Int)) (hu : UntilR most c s v) : v = .int e := by
  have hh : hHolds most c s = true := by rw [holds_ends1 hs hm]; exact decide_eq_true ⟨hc, hl⟩
  rcases hu with ⟨h, _⟩ | ⟨_, ns, e', hp, _, he, rfl⟩
  · rw [hh] at h; cases h
  · have h1 := hp.mem_iff.mp (List.mem_of_getElem? he)
    rw [hs] at h1
    unfold ends1 at h1
    rw [List.map_map] at h1
    obtain ⟨_, _, h2⟩ := List.mem_map.mp h1
    have h2 : e = e' := h2
    rw [h2]
theorem hear_ends1 {len c : Int} {k : Nat} {n : Num} {s : HSt} {a : Int} {js : List Nat} (ha : aGet (keepA len c s.asks) n = some a) (hs : s.lets = ends1 (a + len) js) : hHear len c (k : Int) n s = ⟨s.life, c, s.many, keepA len c s.asks, ends1 (a + len) (addJ js k)⟩ := by
  unfold hHear
  rw [ha]
  dsimp only
  rw [hs, ← aPut_ends1, aGet_ends1]
  congr 2
  split
  · exact Int.max_self _
  · exact Int.max_self _
def WfA (s : HSt) : Prop := (s.asks.map (·.1)).Nodup ∧ (∀ x ∈ s.asks, x.1.2 < s.many) ∧ (s.asks.length : Int) ≤ s.many
theorem WfA.ask {len c : Int} {s : HSt} (w : WfA s) (hl : 1 ≤ len) : WfA (hAsk len c s) ∧ aGet (hAsk len c s).asks (s.life, s.many) = some c ∧ keepA len c (hAsk len c s).asks = (hAsk len c s).asks := by
  obtain ⟨w1, w2, w3⟩ := w
  have fresh : ∀ x ∈ keepA len c s.asks, x.1 ≠ (s.life, s.many) := fun x hx e => by
    have := w2 x (List.mem_filter.mp hx).1
    rw [e] at this
    exact absurd this (Int.lt_irrefl _)
  have e1 : (hAsk len c s).asks = keepA len c s.asks ++ [((s.life, s.many), c)] := aPut_new fresh
  refine ⟨⟨aPut_nd (keepA_nd w1), ?_, ?_⟩, ?_, ?_⟩
  · rw [e1]
    intro x hx
    show x.1.2 < s.many + 1
    rcases List.mem_append.mp hx with z | z
    · have := w2 x (List.mem_filter.mp z).1
      omega
    · rw [List.mem_singleton.mp z]
      show s.many < s.many + 1
      omega
  · rw [e1, List.length_append]
    show ((keepA len c s.asks).length + 1 : Nat) ≤ s.many + 1
    have := keepA_le (len := len) (c := c) (l := s.asks)
    omega
  · show aGet (aPut _ _ _) _ = _
    rw [aGet_put, if_pos rfl]
  · rw [e1]
    unfold keepA
    rw [List.filter_append, List.filter_filter, List.filter_cons_of_pos (by simp; omega)]
    simp
theorem WfA.look {len c : Int} {s : HSt} (w : WfA s) : WfA (hLook len c s) := ⟨keepA_nd w.1, fun x hx => w.2.1 x (List.mem_filter.mp hx).1, Int.le_trans (by have := keepA_le (len := len) (c := c) (l := s.asks); exact_mod_cast this) w.2.2⟩
def KsAt (C : Addr) (H : Hp) (t : Addr) (ps : List Addr) (ks : Nat → KSt) : Prop := ∀ i p, ps[i]? = some p → KAt C H p t (ks i)
theorem KsAt.same {C t : Addr} {H H' : Hp} {ps : List Addr} {ks : Nat → KSt} (s : Same H H') (h : KsAt C H t ps ks) : KsAt C H' t ps ks := fun i p e => (h i p e).same s
theorem KsAt.set {C t p : Addr} {H H' : Hp} {ps : List Addr} {ks : Nat → KSt} {i : Nat} {st : KSt} (nd : ps.Nodup) (h : KsAt C H t ps ks) (hi : ps[i]? = some p) (hk : KAt C H' p t st) (k : Kp p H H') (ht : ∀ q xs, H q = some (.tup xs) → H' q = some (.tup xs)) :
    KsAt C H' t ps fun j => if j = i then st else ks j := fun j q e => by
  dsimp only
  by_cases z : j = i
  · rw [if_pos z]
    rw [z, hi] at e
    cases e
    exact hk
  · rw [if_neg z]
    refine (h j q e).kp (fun w => z ?_) ht k
    rw [w] at e
    exact nd_ix nd e hi
theorem KsAt.congr {C t : Addr} {H : Hp} {ps : List Addr} {ks ks' : Nat → KSt} (h : KsAt C H t ps ks) (e : ∀ j, j < ps.length → ks' j = ks j) : KsAt C H t ps ks' := fun j q hq => by
  rw [e j (List.getElem?_eq_some_iff.mp hq).1]
  exact h j q hq
theorem kh_ne {H : Hp} {p h CK dx CH dx' t t' da dl : Addr} {c e nm life c' many : Int} {v1 v2 : V} (h1 : H p = some (.ins CK dx (kf t c e v1 v2))) (h2 : H h = some (.ins CH dx' (hf t' nm life c' many da dl))) : p ≠ h := ne_of h1 h2 (by
  intro z
  injection z with _ _ z
  injection z with _ z
  injection z with z _
  injection z with z _
  exact absurd z (by decide +kernel))
theorem KsAt.kp3 {CK CH t h da dl t' : Addr} {nm : Int} {s : HSt} {H H' : Hp} {ps : List Addr} {ks : Nat → KSt} (K : KsAt CK H t ps ks) (hH : HAt CH H h t' nm da dl s) (k : Kp3 h da dl H H') : KsAt CK H' t ps ks := fun i p e => by
  obtain ⟨dx, v1, v2, hp, ho⟩ := K i p e
  obtain ⟨⟨dx', b1⟩, b2, b3⟩ := hH
  exact ⟨dx, v1, v2, k p _ (kh_ne hp b1) (ne_of hp b2 (by intro z; cases z)) (ne_of hp b3 (by intro z; cases z)) hp, ho.to fun q xs e => k q _ (ne_of e b1 (by intro z; cases z)) (ne_of e b2 (by intro z; cases z)) (ne_of e b3 (by intro z; cases z)) e⟩
/-- all but the keepers and one holder's three stands -/
def KpG (ps : List Addr) (h da dl : Addr) (H H' : Hp) : Prop := ∀ b o, b ∉ ps → b ≠ h → b ≠ da → b ≠ dl → H b = some o → H' b = some o
theorem KpG.trans {ps : List Addr} {h da dl : Addr} {H H1 H2 : Hp} (a : KpG ps h da dl H H1) (b : KpG ps h da dl H1 H2) : KpG ps h da dl H H2 := fun c o h1 h2 h3 h4 e => b c o h1 h2 h3 h4 (a c o h1 h2 h3 h4 e)
theorem Kp3.g {ps : List Addr} {h da dl : Addr} {H H' : Hp} (k : Kp3 h da dl H H') : KpG ps h da dl H H' := fun b o _ h2 h3 h4 e => k b o h2 h3 h4 e
theorem Same.g {ps : List Addr} {h da dl : Addr} {H H' : Hp} (k : Same H H') : KpG ps h da dl H H' := fun b o _ _ _ _ e => k b o e
theorem Kp.g {ps : List Addr} {h da dl p : Addr} {H H' : Hp} (k : Kp p H H') (hp : p ∈ ps) : KpG ps h da dl H H' := fun b o h1 _ _ _ e => k b o (fun z => h1 (by rw [z]; exact hp)) e
def yesN (wt c n a b : Int) (ks : Nat → KSt) (i : Nat) : List Nat := (List.range i).filter fun j => (kAsk wt c n a b (ks j)).2
theorem yesN_succ {wt c n a b : Int} {ks : Nat → KSt} {i : Nat} : yesN wt c n a b ks (i + 1) = if (kAsk wt c n a b (ks i)).2 = true then yesN wt c n a b ks i ++ [i] else yesN wt c n a b ks i := by
  unfold yesN
  rw [List.range_succ, List.filter_append]
  by_cases h : (kAsk wt c n a b (ks i)).2 = true
  · rw [if_pos h, List.filter_cons_of_pos (p := fun j => (kAsk wt c n a b (ks j)).2) h]; rfl
  · rw [if_neg h, List.filter_cons_of_neg (p := fun j => (kAsk wt c n a b (ks j)).2) h, List.filter_nil, List.append_nil]
theorem yesN_le {wt c n a b : Int} {ks : Nat → KSt} {i : Nat} : (yesN wt c n a b ks i).length ≤ i := Nat.le_trans (List.length_filter_le _ _) (by rw [List.length_range]; exact Nat.le_refl _)
theorem foldJ_nd {js : List Nat} : ∀ {ys : List Nat}, js.Nodup → (ys.foldl addJ js).Nodup
  | [], h => h
  | y :: r, h => foldJ_nd (ys := r) (addJ_nd h)
theorem foldJ_le : ∀ {ys js : List Nat}, (ys.foldl addJ js).length ≤ js.length + ys.length
  | [], _ => Nat.le_refl _
  | y :: r, js => Nat.le_trans (foldJ_le (ys := r)) (by have := addJ_le (js := js) (j := y); rw [List.length_cons]; omega)
def spGets (CK CH CT : Addr) : Sp := fun vs H Q _ => ∃ (L h t da dl : Addr) (ps : List Addr) (ks : Nat → KSt) (s : HSt) (T : Tm) (c nm nm' rd : Int) (js : List Nat), vs = [.ref L, .int c, .ref h, .int nm, .int rd] ∧
  H L = some (.lst (ps.map V.ref)) ∧ ps.Nodup ∧ (ps.length : Int) = T.kn ∧ KsAt CK H t ps ks ∧ (∀ j, j < ps.length → (ks j).clock ≤ c) ∧ HAt CH H h t nm' da dl s ∧ WfA s ∧ s.many ≤ 100 ∧ s.lets = ends1 (rd + T.len) js ∧ js.Nodup ∧ js.length ≤ 100 ∧ s.clock ≤ rd ∧ TAt CT H t T ∧
  ∀ y H', H' y = some (.lst ((yesN T.wait c nm s.life s.many ks ps.length).map fun j : Nat => V.int (j : Int))) → KsAt CK H' t ps (fun j => (kAsk T.wait c nm s.life s.many (ks j)).1) →
    HAt CH H' h t nm' da dl ⟨s.life, rd, s.many + 1, (hAsk T.len rd s).asks, ends1 (rd + T.len) ((yesN T.wait c nm s.life s.many ks ps.length).foldl addJ js)⟩ → KpG ps h da dl H H' → H y = none → Q (.ref y) H'
end Lh

set_option Elab.async false
set_option linter.all false
set_option maxRecDepth 100000
set_option maxHeartbeats 4000000
namespace Lh
open PySem PySem.Spec PyProof.Rows L2
/-! ### k10: a list's remove, where items are data of any depth -/
theorem units65 {k : Nat} {A : Around} (hr : Room k A) : A.units + 65 < cLine := by have := hr.un; omega
def rRemD (K : PySem.W.Frag) : V → List V → Hp → VK → Prop := fun x xs H Q => ∃ (a : Addr) (y : V) (vs : List V) (d : PyData) (ds : List PyData), x = V.ref a ∧ xs = [y] ∧ H a = some (.lst vs) ∧ DpAll K H vs ds ∧ Dp K H y d ∧
  SeqAt.shaped (.list ds) = true ∧ SeqAt.shaped d = true ∧ (∃ z ∈ ds, PyData.eqv z d = true) ∧ ∀ j, j < vs.length → Q .non (upd H a (.lst (vs.eraseIdx j)))
theorem first_hit {α : Type} (p : α → Bool) : ∀ {l : List α}, (∃ z ∈ l, p z = true) → ∃ (j : Nat) (z : α), l[j]? = some z ∧ p z = true ∧ ∀ (m : Nat) (z' : α), m < j → l[m]? = some z' → p z' = false
  | [], h => by obtain ⟨z, hz, _⟩ := h; cases hz
  | x :: r, h => by
    cases e : p x with
    | true => exact ⟨0, x, rfl, e, fun m z' hm => absurd hm (Nat.not_lt_zero _)⟩
    | false =>
      obtain ⟨z, hz, q⟩ := h
      have hz : z ∈ r := by
        rcases List.mem_cons.mp hz with w | w
        · rw [w, e] at q; cases q
        · exact w
      obtain ⟨j, z1, h1, h2, h3⟩ := first_hit p ⟨z, hz, q⟩
      refine ⟨j + 1, z1, h1, h2, fun m z' hm hz' => ?_⟩
      cases m with
      | zero => cases hz'; exact e
      | succ m => exact h3 m z' (by omega) hz'
theorem mt_removeD {X : Cx} (hu : X.A.units + 65 < cLine) : MtR X "list.remove" (rRemD X.K) := by
  intro pins s σ H x xs v us Q I rx rxs h
  obtain ⟨a, y, vs, d, ds, rfl, rfl, ha, hds, hy, sl, sd, hex, q⟩ := h
  cases rx
  obtain ⟨uy, rfl, ry⟩ := vals1 rxs
  obtain ⟨bs, r1⟩ := Dp.reads I d y uy hy ry
  have hxs : PyData.canLayAll0 ds = true := SeqAt.canLay_of_shaped sl
  have hroom : X.A.units + 1 + min (PyData.depthAll ds) d.depth < cLine := room_in_shaped sd hu
  obtain ⟨hz, its, n, rv, hl, ho⟩ := I.lstM ha
  obtain ⟨as, h4⟩ := Dp.readsAll I ds _ its hds rv
  have hn : its.length = ds.length := SeqAt.ReadsAll.length ds its as h4
  have hmap : its.map (SeqAt.readOf s.heap) = ds := SeqAt.readsAll_map ds its as hxs h4
  obtain ⟨j, z, j1, j2, j3⟩ := first_hit (fun u => PyData.eqv u d) hex
  obtain ⟨hjd, _⟩ := List.getElem?_eq_some_iff.mp j1
  have hj : j < its.toArray.size := by rw [List.size_toArray]; omega
  have at_ : ∀ (m : Nat) (hm : m < its.toArray.size) (z' : PyData), ds[m]? = some z' → SeqAt.readOf s.heap its.toArray[m] = z' := by
    intro m hm z' hz'
    have hml : m < its.length := by simpa using hm
    rw [← hmap, List.getElem?_map, List.getElem?_eq_getElem hml] at hz'
    have e1 : SeqAt.readOf s.heap its[m] = z' := Option.some.inj (show some (SeqAt.readOf s.heap its[m]) = some z' from hz')
    simpa using e1
  refine call_meets PySem.F.slot_list_remove ⟨_, ho, rfl⟩ PySem.F.entry_list_remove (PySem.F.args_list_remove_2 _ _)
    (SeqAt.list_removeAt a its.toArray n none #[] uy (fun u => PyData.eqv (SeqAt.readOf s.heap u) d) j hj ?_ ?_ (by rw [List.size_toArray]; omega)) ⟨ho, SeqAt.items_eqAt (vs := its.toArray) (show ReadsAll s.heap its.toArray.toList ds as from h4) r1 hxs (SeqAt.canLay_of_shaped sd) hroom, ?_⟩
  · show PyData.eqv (SeqAt.readOf s.heap its.toArray[j]) d = true
    rw [at_ j hj z j1]
    exact j2
  · intro m hm hmj
    have hmd : m < ds.length := by omega
    show PyData.eqv (SeqAt.readOf s.heap its.toArray[m]) d = false
    rw [at_ m hm _ (List.getElem?_eq_getElem hmd)]
    exact j3 m _ hmj (List.getElem?_eq_getElem hmd)
  · refine ⟨.non, _, I.lset (its' := its.eraseIdx j) (t' := s.toks) ha ho ?_ (rv.eraseIdx j) ?_, rfl, q j (by omega)⟩
    · rw [List.eraseIdxIfInBounds_toArray]
    · have := List.length_eraseIdx_le vs j
      omega
theorem rd_remD {K : PySem.W.Frag} {H : Hp} {Q : VK} {a : Addr} {y : V} {vs : List V} {d : PyData} {ds : List PyData} (h : H a = some (.lst vs)) (hds : DpAll K H vs ds) (hy : Dp K H y d) (s1 : SeqAt.shaped (.list ds) = true) (s2 : SeqAt.shaped d = true) (he : ∃ z ∈ ds, PyData.eqv z d = true)
    (q : ∀ j, j < vs.length → Q .non (upd H a (.lst (vs.eraseIdx j)))) : rRemD K (.ref a) [y] H Q := ⟨a, y, vs, d, ds, rfl, rfl, h, hds, hy, s1, s2, he, q⟩
end Lh

set_option Elab.async false
set_option linter.all false
set_option maxRecDepth 100000
set_option maxHeartbeats 4000000
namespace Lh
open PySem PySem.Spec PyProof.Rows L2
/-! ### k10, the plain law: the town, its invariant -/
structure Msg where
  kd : Nat
  k : Nat
  nm : Nat
  n : Num
structure Town where
  clk : Nat → Int
  ks : Nat → KSt
  hs : Nat → HSt
  bag : List Msg
  life : Int
def nlt (a b : Num) : Prop := a.1 < b.1 ∨ a.1 = b.1 ∧ a.2 < b.2
theorem nlt_irr {a : Num} : ¬ nlt a a := by
  unfold nlt; omega
theorem nlt_tr {a b c : Num} (h : nlt a b) (h2 : nlt b c) : nlt a c := by
  unfold nlt at *; omega
theorem nlt_tr' {a b c : Num} (h : ¬ nlt b a) (h2 : nlt b c) : nlt a c := by
  unfold nlt at *; omega
def Cov (T : Tm) (r R : Int) : Prop := ∃ j : Int, r ≤ j * T.low ∧ j * T.high ≤ R
theorem Cov.pos {T : Tm} (ok : T.ok) {r R : Int} (h : Cov T r R) (hr : 0 < r) : 0 < R := by
  obtain ⟨j, h1, h2⟩ := h
  obtain ⟨⟨z1, z2, z3⟩, _⟩ := ok
  have hj : 1 ≤ j := by
    by_cases e : 1 ≤ j
    · exact e
    · have h3 : j * T.low ≤ 0 * T.low := Int.mul_le_mul_of_nonneg_right (by omega) (by omega)
      omega
  have h3 : 1 * T.high ≤ j * T.high := Int.mul_le_mul_of_nonneg_right hj (by omega)
  omega
theorem Cov.full {T : Tm} (ok : T.ok) {r : Int} (hr : r ≤ T.len) : Cov T r T.wait := by
  refine ⟨T.ticks, ?_, ?_⟩
  · have := (Tm.ticks_ok ok).1
    omega
  · unfold Tm.wait
    rw [Int.mul_comm]
    exact Int.le_refl _
theorem Cov.tick {T : Tm} {r R r' R' m : Int} (h : Cov T r R) (h1 : r' ≤ r - m * T.low) (h2 : R - m * T.high ≤ R') : Cov T r' R' := by
  obtain ⟨j, g1, g2⟩ := h
  refine ⟨j - m, ?_, ?_⟩
  · rw [Int.sub_mul]; omega
  · rw [Int.sub_mul]; omega
/-- keeper k lets to holder h by the number n, as far as h still counts it -/
def Gr (T : Tm) (kn : Nat) (S : Town) (o : Nat → Nat) (k h : Nat) (n : Num) : Prop :=
  ∀ a, aGet (S.hs h).asks n = some a → S.clk (kn + h) < a + T.len →
    o k = h ∧ Cov T (a + T.len - S.clk (kn + h)) ((S.ks k).ends - S.clk k) ∧ ∀ nm x y, (S.ks k).own = some (nm, x, y) → nm = (h : Int) ∧ ¬ nlt (x, y) n
structure HWf (T : Tm) (kn : Nat) (d : Int) (c : Int) (s : HSt) : Prop where
  hc : s.clock ≤ c
  n1 : (s.asks.map (·.1)).Nodup
  n2 : (s.lets.map (·.1)).Nodup
  l1 : (s.asks.length : Int) ≤ s.many
  m0 : 0 ≤ s.many
  md : s.many ≤ d
  e3 : ∀ x ∈ s.asks, x.1.1 = s.life ∧ 0 ≤ x.1.2 ∧ x.1.2 < s.many ∧ x.2 ≤ c
  lk : ∀ x ∈ s.lets, ∃ k : Nat, k < kn ∧ x.1 = (k : Int)
structure MOk (T : Tm) (kn nh : Nat) (S : Town) (o : Nat → Nat) (m : Msg) : Prop where
  kd : m.kd ≤ 2
  k : m.k < kn
  nm : m.nm < nh
  lt : nlt m.n ((S.hs m.nm).life, (S.hs m.nm).many)
  B : m.kd = 1 → Gr T kn S o m.k m.nm m.n
  C : m.kd = 2 → ∀ x ∈ (S.hs m.nm).asks, nlt m.n x.1
structure Inv10 (T : Tm) (kn nh : Nat) (S : Town) (o : Nat → Nat) (d : Int) : Prop where
  kc : ∀ k, k < kn → (S.ks k).clock ≤ S.clk k
  A : ∀ k, k < kn → ∀ nm x y, (S.ks k).own = some (nm, x, y) → ∃ h : Nat, h < nh ∧ nm = (h : Int) ∧ nlt (x, y) ((S.hs h).life, (S.hs h).many) ∧ (S.clk k < (S.ks k).ends → o k = h ∧ Gr T kn S o k h (x, y))
  M : ∀ m ∈ S.bag, MOk T kn nh S o m
  D : ∀ h, h < nh → ∀ k : Nat, ∀ e : Int, ((k : Int), e) ∈ (S.hs h).lets → S.clk (kn + h) < e → ∃ n, aGet (S.hs h).asks n = some (e - T.len) ∧ Gr T kn S o k h n
  W : ∀ h, h < nh → HWf T kn d (S.clk (kn + h)) (S.hs h)
  L : ∀ h, h < nh → (S.hs h).life ≤ S.life
section
variable {T : Tm} {kn nh : Nat} {S : Town} {o : Nat → Nat} {d d' : Int}
/-! pieces of the town that change -/
def Town.setC (S : Town) (c : Nat → Int) : Town := ⟨c, S.ks, S.hs, S.bag, S.life⟩
def Town.setK (S : Town) (k : Nat) (st : KSt) : Town := ⟨S.clk, fun j => if j = k then st else S.ks j, S.hs, S.bag, S.life⟩
def Town.setH (S : Town) (h : Nat) (s : HSt) : Town := ⟨S.clk, S.ks, fun j => if j = h then s else S.hs j, S.bag, S.life⟩
def Town.setB (S : Town) (b : List Msg) : Town := ⟨S.clk, S.ks, S.hs, b, S.life⟩
def Town.setL (S : Town) (l : Int) : Town := ⟨S.clk, S.ks, S.hs, S.bag, l⟩
theorem HWf.up {c : Int} {s : HSt} (w : HWf T kn d c s) (h : d ≤ d') : HWf T kn d' c s := ⟨w.hc, w.n1, w.n2, w.l1, w.m0, Int.le_trans w.md h, w.e3, w.lk⟩
theorem Inv10.up (I : Inv10 T kn nh S o d) (h : d ≤ d') : Inv10 T kn nh S o d' := ⟨I.kc, I.A, I.M, I.D, fun j hj => (I.W j hj).up h, I.L⟩
/-! the bag, the lives -/
theorem Inv10.setB {b : List Msg} (I : Inv10 T kn nh S o d) (h : ∀ m ∈ b, m ∈ S.bag ∨ MOk T kn nh S o m) : Inv10 T kn nh (S.setB b) o d :=
  ⟨I.kc, I.A, fun m hm => by
    have z : MOk T kn nh S o m := by
      rcases h m hm with z | z
      · exact I.M m z
      · exact z
    exact ⟨z.kd, z.k, z.nm, z.lt, z.B, z.C⟩, I.D, I.W, I.L⟩
theorem Inv10.setL {l : Int} (I : Inv10 T kn nh S o d) (h : S.life ≤ l) : Inv10 T kn nh (S.setL l) o d :=
  ⟨I.kc, I.A, fun m hm => let z := I.M m hm; ⟨z.kd, z.k, z.nm, z.lt, z.B, z.C⟩, I.D, I.W, fun j hj => Int.le_trans (I.L j hj) h⟩
/-! ticks -/
theorem Inv10.tick {c : Nat → Int} {m : Int} (ok : T.ok) (I : Inv10 T kn nh S o d) (hm : 0 ≤ m) (hc : ∀ j, j < kn + nh → S.clk j + m * T.low ≤ c j ∧ c j ≤ S.clk j + m * T.high) : Inv10 T kn nh (S.setC c) o d := by
  have h0 : 0 ≤ m * T.low := Int.mul_nonneg hm (by have := ok.1.1; omega)
  have gr : ∀ k h n, k < kn → h < nh → Gr T kn S o k h n → Gr T kn (S.setC c) o k h n := by
    intro k h n hk hh g a ha hr
    have z1 := hc (kn + h) (by omega)
    have z2 := hc k (by omega)
    have ha : aGet (S.hs h).asks n = some a := ha
    have hr : c (kn + h) < a + T.len := hr
    obtain ⟨g1, g2, g3⟩ := g a ha (by omega)
    refine ⟨g1, Cov.tick (m := m) g2 ?_ ?_, g3⟩
    · show a + T.len - c (kn + h) ≤ _
      omega
    · show _ ≤ (S.ks k).ends - c k
      omega
  refine ⟨fun k hk => ?_, fun k hk nm x y e => ?_, fun m' hm' => ?_, fun h hh k e he hr => ?_, fun h hh => ?_, I.L⟩
  · have z := hc k (by omega)
    have z2 := I.kc k hk
    show (S.ks k).clock ≤ c k
    omega
  · obtain ⟨h, g1, g2, g3, g4⟩ := I.A k hk nm x y e
    refine ⟨h, g1, g2, g3, fun z => ?_⟩
    have z : c k < (S.ks k).ends := z
    have z2 := hc k (by omega)
    obtain ⟨g5, g6⟩ := g4 (by omega)
    exact ⟨g5, gr k h _ hk g1 g6⟩
  · have z := I.M m' hm'
    exact ⟨z.kd, z.k, z.nm, z.lt, fun w => gr _ _ _ z.k z.nm (z.B w), z.C⟩
  · have hr : c (kn + h) < e := hr
    have z := hc (kn + h) (by omega)
    obtain ⟨n, g1, g2⟩ := I.D h hh k e he (by omega)
    obtain ⟨k', hk', ek⟩ := (I.W h hh).lk _ he
    have ek : (k : Int) = (k' : Int) := ek
    exact ⟨n, g1, gr _ _ _ (by omega) hh g2⟩
  · have w := I.W h hh
    have z := hc (kn + h) (by omega)
    refine ⟨?_, w.n1, w.n2, w.l1, w.m0, w.md, fun x hx => ?_, w.lk⟩
    · show (S.hs h).clock ≤ c (kn + h)
      have := w.hc
      omega
    · obtain ⟨g1, g2, g3, g4⟩ := w.e3 x hx
      refine ⟨g1, g2, g3, ?_⟩
      show _ ≤ c (kn + h)
      omega
/-! a keeper moves -/
theorem setK_same {k : Nat} {st : KSt} : (S.setK k st).ks k = st := if_pos rfl
theorem setK_ne {k j : Nat} {st : KSt} (h : j ≠ k) : (S.setK k st).ks j = S.ks j := if_neg h
theorem Gr.setK_ne {k k' h : Nat} {n : Num} {st : KSt} {o' : Nat → Nat} (hk : k' ≠ k) (ho : o' k' = o k') (g : Gr T kn S o k' h n) : Gr T kn (S.setK k st) o' k' h n := by
  intro a ha hr
  have z := g a ha hr
  rw [ho, Lh.setK_ne hk]
  exact z
/-- what a keeper's move has to show -/
theorem Inv10.setK {k : Nat} {st : KSt} {o' : Nat → Nat} (I : Inv10 T kn nh S o d) (hk : k < kn) (ho : ∀ j, j ≠ k → o' j = o j) (hc : st.clock ≤ S.clk k)
    (g : ∀ h n, h < nh → Gr T kn S o k h n → ∀ a, (n, a) ∈ (S.hs h).asks → a ≤ S.clk (kn + h) → Gr T kn (S.setK k st) o' k h n)
    (hA : ∀ nm x y, st.own = some (nm, x, y) → ∃ h : Nat, h < nh ∧ nm = (h : Int) ∧ nlt (x, y) ((S.hs h).life, (S.hs h).many) ∧ (S.clk k < st.ends → o' k = h ∧ Gr T kn (S.setK k st) o' k h (x, y))) :
    Inv10 T kn nh (S.setK k st) o' d := by
  have gr : ∀ k' h n, h < nh → Gr T kn S o k' h n → Gr T kn (S.setK k st) o' k' h n := by
    intro k' h n hh q
    by_cases e : k' = k
    · subst e
      intro a ha hr
      have ha' : aGet (S.hs h).asks n = some a := ha
      have hm := aGet_mem ha'
      exact g h n hh q a hm ((I.W h hh).e3 _ hm).2.2.2 a ha hr
    · exact Gr.setK_ne e (ho _ e) q
  refine ⟨fun j hj => ?_, fun j hj nm x y e => ?_, fun m hm => ?_, fun h hh j e he hr => ?_, I.W, I.L⟩
  · by_cases e : j = k
    · rw [e, setK_same]; exact hc
    · rw [Lh.setK_ne e]; exact I.kc j hj
  · by_cases ej : j = k
    · rw [ej] at e ⊢
      rw [setK_same] at e ⊢
      exact hA nm x y e
    · rw [Lh.setK_ne ej] at e ⊢
      obtain ⟨h, g1, g2, g3, g4⟩ := I.A j hj nm x y e
      exact ⟨h, g1, g2, g3, fun z => ⟨(ho j ej).trans (g4 z).1, gr _ _ _ g1 (g4 z).2⟩⟩
  · have z := I.M m hm
    exact ⟨z.kd, z.k, z.nm, z.lt, fun w => gr _ _ _ z.nm (z.B w), z.C⟩
  · obtain ⟨n, g1, g2⟩ := I.D h hh j e he hr
    exact ⟨n, g1, gr _ _ _ hh g2⟩
/-- only the reading shown -/
theorem Gr.clock {k h : Nat} {n : Num} {c : Int} (g : Gr T kn S o k h n) : Gr T kn (S.setK k ⟨c, (S.ks k).ends, (S.ks k).own⟩) o k h n := by
  intro a ha hr
  have z := g a ha hr
  rw [setK_same]
  exact z
theorem Inv10.clock {k : Nat} {c : Int} (I : Inv10 T kn nh S o d) (hk : k < kn) (hc : c ≤ S.clk k) : Inv10 T kn nh (S.setK k ⟨c, (S.ks k).ends, (S.ks k).own⟩) o d :=
  I.setK hk (fun _ _ => rfl) hc (fun h n hh g _ _ _ => g.clock) fun nm x y e => by
    obtain ⟨h, g1, g2, g3, g4⟩ := I.A k hk nm x y e
    exact ⟨h, g1, g2, g3, fun z => ⟨(g4 z).1, (g4 z).2.clock⟩⟩
/-- lets anew -/
theorem Inv10.lets {k h : Nat} {n : Num} (ok : T.ok) (I : Inv10 T kn nh S o d) (hk : k < kn) (hh : h < nh) (hn : nlt n ((S.hs h).life, (S.hs h).many))
    (hz : (S.ks k).ends ≤ S.clk k ∨ (o k = h ∧ ∃ m, (S.ks k).own = some ((h : Int), m.1, m.2) ∧ nlt m n)) :
    Inv10 T kn nh (S.setK k ⟨S.clk k, S.clk k + T.wait, some ((h : Int), n.1, n.2)⟩) (fun j => if j = k then h else o j) d ∧ Gr T kn (S.setK k ⟨S.clk k, S.clk k + T.wait, some ((h : Int), n.1, n.2)⟩) (fun j => if j = k then h else o j) k h n := by
  have new : ∀ n', (∀ m : Num, (S.ks k).own = some ((h : Int), m.1, m.2) → True) → ¬ nlt n n' → Gr T kn (S.setK k ⟨S.clk k, S.clk k + T.wait, some ((h : Int), n.1, n.2)⟩) (fun j => if j = k then h else o j) k h n' := by
    intro n' _ hle a ha hr
    have ha' : aGet (S.hs h).asks n' = some a := ha
    have hm := aGet_mem ha'
    have ha2 := ((I.W h hh).e3 _ hm).2.2.2
    refine ⟨if_pos rfl, ?_, fun nm x y e => ?_⟩
    · rw [setK_same]
      show Cov T (a + T.len - S.clk (kn + h)) (S.clk k + T.wait - S.clk k)
      rw [show S.clk k + T.wait - S.clk k = T.wait by omega]
      exact Cov.full ok (by have ha2 : a ≤ S.clk (kn + h) := ha2; omega)
    · rw [setK_same] at e
      cases e
      exact ⟨rfl, hle⟩
  have g0 := new n (fun _ _ => trivial) nlt_irr
  refine ⟨I.setK hk (fun j hj => if_neg hj) (Int.le_refl _) (fun h' n' hh' g a0 ha0 hle => ?_) (fun nm x y e => ?_), g0⟩
  · intro a ha hr
    have ha' : aGet (S.hs h').asks n' = some a := ha
    have hr' : S.clk (kn + h') < a + T.len := hr
    obtain ⟨q1, q2, q3⟩ := g a ha' hr'
    have hpos := q2.pos ok (by omega)
    rcases hz with hz | ⟨z1, m, z2, z3⟩
    · omega
    · have eh : h' = h := by rw [← q1, z1]
      subst eh
      have q4 := (q3 _ _ _ z2).2
      exact new n' (fun _ _ => trivial) (fun w => q4 (nlt_tr z3 w)) a ha hr
  · cases e
    exact ⟨h, hh, rfl, hn, fun _ => ⟨if_pos rfl, g0⟩⟩
theorem Inv10.asked {k h : Nat} {n : Num} (ok : T.ok) (I : Inv10 T kn nh S o d) (hk : k < kn) (hh : h < nh) (hn : nlt n ((S.hs h).life, (S.hs h).many)) :
    ∃ o', Inv10 T kn nh (S.setK k (kAsk T.wait (S.clk k) (h : Int) n.1 n.2 (S.ks k)).1) o' d ∧ ((kAsk T.wait (S.clk k) (h : Int) n.1 n.2 (S.ks k)).2 = true → Gr T kn (S.setK k (kAsk T.wait (S.clk k) (h : Int) n.1 n.2 (S.ks k)).1) o' k h n) := by
  have cl := I.clock hk (Int.le_refl (S.clk k))
  have hA := I.A k hk
  have hl := I.lets ok hk hh hn
  have gc : ∀ {h n}, Gr T kn S o k h n → Gr T kn (S.setK k ⟨S.clk k, (S.ks k).ends, (S.ks k).own⟩) o k h n := fun g => g.clock
  generalize hst : S.ks k = st at *
  obtain ⟨c0, e, own⟩ := st
  unfold kAsk
  dsimp only at *
  by_cases h1 : S.clk k < e
  · rw [if_pos h1]
    match own with
    | none => exact ⟨o, cl, fun z => nomatch z⟩
    | some (nm, x, y) =>
      dsimp only
      obtain ⟨h', g1, g2, g3, g4⟩ := hA nm x y rfl
      obtain ⟨g5, g6⟩ := g4 h1
      by_cases h2 : (h : Int) = nm
      · rw [if_pos h2]
        have e2 : h = h' := by omega
        subst e2
        by_cases h3 : n.1 < x ∨ n.1 = x ∧ n.2 < y
        · rw [if_pos h3]; exact ⟨o, cl, fun z => nomatch z⟩
        · rw [if_neg h3]
          by_cases h4 : n.1 = x ∧ n.2 = y
          · rw [if_pos h4]
            refine ⟨o, cl, fun _ => ?_⟩
            have : (x, y) = n := by obtain ⟨n1, n2⟩ := n; obtain ⟨h5, h6⟩ := h4; cases h5; cases h6; rfl
            rw [this] at g6
            exact gc g6
          · rw [if_neg h4]
            obtain ⟨q1, q2⟩ := hl (.inr ⟨g5, (x, y), by rw [h2], by unfold nlt; dsimp only; omega⟩)
            exact ⟨_, q1, fun _ => q2⟩
      · rw [if_neg h2]; exact ⟨o, cl, fun z => nomatch z⟩
  · rw [if_neg h1]
    obtain ⟨q1, q2⟩ := hl (.inl (by omega))
    exact ⟨_, q1, fun _ => q2⟩
theorem Inv10.freed {k h : Nat} {n : Num} (I : Inv10 T kn nh S o d) (hk : k < kn) (hC : ∀ x ∈ (S.hs h).asks, nlt n x.1) : Inv10 T kn nh (S.setK k (kFree (S.clk k) (h : Int) n.1 n.2 (S.ks k))) o d := by
  have cl := I.clock hk (Int.le_refl (S.clk k))
  have hA := I.A k hk
  have sk := fun st => I.setK (o' := o) (st := st) hk (fun _ _ => rfl)
  have gg : ∀ h n a, Gr T kn S o k h n → aGet (S.hs h).asks n = some a → S.clk (kn + h) < a + T.len → ∀ nm x y, (S.ks k).own = some (nm, x, y) → nm = (h : Int) ∧ ¬ nlt (x, y) n := fun h n a g q r => (g a q r).2.2
  generalize hst : S.ks k = st at *
  obtain ⟨c0, e, own⟩ := st
  unfold kFree
  dsimp only at *
  match own with
  | none => exact cl
  | some (nm, x, y) =>
    dsimp only
    by_cases h2 : (h : Int) = nm ∧ ¬ (n.1 < x ∨ n.1 = x ∧ n.2 < y)
    · rw [if_pos h2]
      refine sk _ (Int.le_refl _) (fun h' n' hh' g a0 ha0 hle => ?_) (fun nm' x' y' e' => ?_)
      · intro a ha hr
        have ha' : aGet (S.hs h').asks n' = some a := ha
        obtain ⟨q1, q2⟩ := gg h' n' a g ha' hr nm x y rfl
        have eh : h = h' := by omega
        subst eh
        have := hC _ (aGet_mem ha')
        exact absurd (nlt_tr' (a := (x, y)) h2.2 this) q2
      · cases e'
        obtain ⟨h', g1, g2, g3, g4⟩ := hA nm x y rfl
        exact ⟨h', g1, g2, g3, fun z => by dsimp only at z; omega⟩
    · rw [if_neg h2]; exact cl
theorem Inv10.newK {k : Nat} (ok : T.ok) (I : Inv10 T kn nh S o d) (hk : k < kn) : Inv10 T kn nh (S.setK k ⟨S.clk k, S.clk k + T.wait, none⟩) o d := by
  refine I.setK hk (fun _ _ => rfl) (Int.le_refl _) (fun h n hh g a0 ha0 hle => ?_) (fun nm x y e => nomatch e)
  intro a ha hr
  have ha' : aGet (S.hs h).asks n = some a := ha
  have ha2 := ((I.W h hh).e3 _ (aGet_mem ha')).2.2.2
  obtain ⟨q1, _, _⟩ := g a ha' hr
  refine ⟨q1, ?_, fun nm x y e => ?_⟩
  · rw [setK_same]
    show Cov T (a + T.len - S.clk (kn + h)) (S.clk k + T.wait - S.clk k)
    rw [show S.clk k + T.wait - S.clk k = T.wait by omega]
    have ha2 : a ≤ S.clk (kn + h) := ha2
    exact Cov.full ok (by omega)
  · rw [setK_same] at e
    cases e
/-! a holder moves -/
theorem setH_same {h : Nat} {s : HSt} : (S.setH h s).hs h = s := if_pos rfl
theorem setH_ne {h j : Nat} {s : HSt} (e : j ≠ h) : (S.setH h s).hs j = S.hs j := if_neg e
theorem Inv10.setH {h : Nat} {s : HSt} (I : Inv10 T kn nh S o d) (hh : h < nh) (hd : d ≤ d') (w : HWf T kn d' (S.clk (kn + h)) s) (c2 : ∀ n, nlt n ((S.hs h).life, (S.hs h).many) → nlt n (s.life, s.many))
    (c3 : ∀ n a, nlt n ((S.hs h).life, (S.hs h).many) → aGet s.asks n = some a → aGet (S.hs h).asks n = some a) (c4 : ∀ x ∈ s.asks, x ∈ (S.hs h).asks ∨ ¬ nlt x.1 ((S.hs h).life, (S.hs h).many))
    (c5 : ∀ k : Nat, ∀ e : Int, ((k : Int), e) ∈ s.lets → S.clk (kn + h) < e → ∃ n, nlt n ((S.hs h).life, (S.hs h).many) ∧ aGet s.asks n = some (e - T.len) ∧ Gr T kn S o k h n) (c8 : s.life ≤ S.life) :
    Inv10 T kn nh (S.setH h s) o d' := by
  have gr : ∀ k h' n, h' < nh → nlt n ((S.hs h').life, (S.hs h').many) → Gr T kn S o k h' n → Gr T kn (S.setH h s) o k h' n := by
    intro k h' n hh' hn g a ha hr
    by_cases e : h' = h
    · subst e
      rw [setH_same] at ha
      exact g a (c3 n a hn ha) hr
    · rw [setH_ne e] at ha
      exact g a ha hr
  have lt : ∀ h' n, nlt n ((S.hs h').life, (S.hs h').many) → nlt n (((S.setH h s).hs h').life, ((S.setH h s).hs h').many) := by
    intro h' n hn
    by_cases e : h' = h
    · subst e
      rw [setH_same]
      exact c2 n hn
    · rw [setH_ne e]
      exact hn
  refine ⟨I.kc, fun k hk nm x y e => ?_, fun m hm => ?_, fun h' hh' k e he hr => ?_, fun h' hh' => ?_, fun h' hh' => ?_⟩
  · obtain ⟨h', g1, g2, g3, g4⟩ := I.A k hk nm x y e
    exact ⟨h', g1, g2, lt _ _ g3, fun z => ⟨(g4 z).1, gr _ _ _ g1 g3 (g4 z).2⟩⟩
  · have z := I.M m hm
    refine ⟨z.kd, z.k, z.nm, lt _ _ z.lt, fun q => gr _ _ _ z.nm z.lt (z.B q), fun q x hx => ?_⟩
    have zc := z.C q
    have zl := z.lt
    by_cases e : m.nm = h
    · rw [e] at hx zc zl
      rw [setH_same] at hx
      rcases c4 x hx with q2 | q2
      · exact zc x q2
      · unfold nlt at *
        omega
    · rw [setH_ne e] at hx
      exact zc x hx
  · by_cases e2 : h' = h
    · subst e2
      rw [setH_same] at he
      obtain ⟨n, g1, g2, g3⟩ := c5 k e he hr
      rw [setH_same]
      exact ⟨n, g2, gr _ _ _ hh g1 g3⟩
    · rw [setH_ne e2] at he
      obtain ⟨n, g1, g2⟩ := I.D h' hh' k e he hr
      rw [setH_ne e2]
      have z := (I.W h' hh').e3 _ (aGet_mem g1)
      exact ⟨n, g1, gr _ _ _ hh' (.inr ⟨z.1, z.2.2.1⟩) g2⟩
  · by_cases e2 : h' = h
    · subst e2
      rw [setH_same]
      exact w
    · rw [setH_ne e2]
      exact (I.W h' hh').up hd
  · by_cases e2 : h' = h
    · subst e2
      rw [setH_same]
      exact c8
    · rw [setH_ne e2]
      exact I.L h' hh'
theorem aGet_keep {len c : Int} {l : List (Num × Int)} {n : Num} {a : Int} (nd : (l.map (·.1)).Nodup) : aGet (keepA len c l) n = some a ↔ aGet l n = some a ∧ c < a + len := by
  constructor
  · intro h
    have h1 := List.mem_filter.mp (aGet_mem h)
    exact ⟨aGet_of_mem nd h1.1, of_decide_eq_true h1.2⟩
  · rintro ⟨h1, h2⟩
    exact aGet_of_mem (keepA_nd nd) (List.mem_filter.mpr ⟨aGet_mem h1, decide_eq_true h2⟩)
theorem HWf.look {c : Int} {s : HSt} (w : HWf T kn d c s) : HWf T kn d c (hLook T.len c s) :=
  ⟨Int.le_refl _, keepA_nd w.n1, w.n2, by have := keepA_le (len := T.len) (c := c) (l := s.asks); have := w.l1; show ((keepA T.len c s.asks).length : Int) ≤ s.many; omega, w.m0, w.md, fun x hx => w.e3 x (List.mem_filter.mp hx).1, w.lk⟩
/-- the lets stand, the asks lose only what is over -/
theorem Inv10.dlook {h : Nat} (I : Inv10 T kn nh S o d) (hh : h < nh) : ∀ k : Nat, ∀ e : Int, ((k : Int), e) ∈ (S.hs h).lets → S.clk (kn + h) < e → ∃ n, nlt n ((S.hs h).life, (S.hs h).many) ∧ aGet (keepA T.len (S.clk (kn + h)) (S.hs h).asks) n = some (e - T.len) ∧ Gr T kn S o k h n := by
  intro k e he hr
  obtain ⟨n, g1, g2⟩ := I.D h hh k e he hr
  have z := (I.W h hh).e3 _ (aGet_mem g1)
  exact ⟨n, .inr ⟨z.1, z.2.2.1⟩, (aGet_keep (I.W h hh).n1).mpr ⟨g1, by omega⟩, g2⟩
theorem Inv10.look {h : Nat} (I : Inv10 T kn nh S o d) (hh : h < nh) : Inv10 T kn nh (S.setH h (hLook T.len (S.clk (kn + h)) (S.hs h))) o d :=
  I.setH hh (Int.le_refl _) (I.W h hh).look (fun n z => z) (fun n a _ q => ((aGet_keep (I.W h hh).n1).mp q).1) (fun x hx => .inl (List.mem_filter.mp hx).1) (I.dlook hh) (I.L h hh)
theorem Inv10.ask {h : Nat} (ok : T.ok) (I : Inv10 T kn nh S o d) (hh : h < nh) : Inv10 T kn nh (S.setH h (hAsk T.len (S.clk (kn + h)) (S.hs h))) o (d + 1) := by
  have w := I.W h hh
  have fresh : ∀ x ∈ keepA T.len (S.clk (kn + h)) (S.hs h).asks, x.1 ≠ ((S.hs h).life, (S.hs h).many) := fun x hx e => by
    have := (w.e3 x (List.mem_filter.mp hx).1).2.2.1
    rw [e] at this
    exact absurd this (Int.lt_irrefl _)
  have e1 : (hAsk T.len (S.clk (kn + h)) (S.hs h)).asks = keepA T.len (S.clk (kn + h)) (S.hs h).asks ++ [(((S.hs h).life, (S.hs h).many), S.clk (kn + h))] := aPut_new fresh
  have up : ∀ n a, nlt n ((S.hs h).life, (S.hs h).many) → (aGet (hAsk T.len (S.clk (kn + h)) (S.hs h)).asks n = some a ↔ aGet (keepA T.len (S.clk (kn + h)) (S.hs h).asks) n = some a) := fun n a hn => by
    show aGet (aPut _ _ _) n = _ ↔ _
    rw [aGet_put, if_neg]
    intro z
    rw [z] at hn
    exact nlt_irr hn
  refine I.setH hh (by omega) ⟨Int.le_refl _, aPut_nd (keepA_nd w.n1), w.n2, ?_, ?_, ?_, ?_, w.lk⟩ (fun n z => ?_) (fun n a hn q => ((aGet_keep w.n1).mp ((up n a hn).mp q)).1) (fun x hx => ?_) (fun k e he hr => ?_) (I.L h hh)
  · rw [e1, List.length_append]
    show (((keepA T.len (S.clk (kn + h)) (S.hs h).asks).length + 1 : Nat) : Int) ≤ (S.hs h).many + 1
    have := keepA_le (len := T.len) (c := S.clk (kn + h)) (l := (S.hs h).asks)
    have := w.l1
    omega
  · show 0 ≤ (S.hs h).many + 1
    have := w.m0
    omega
  · show (S.hs h).many + 1 ≤ d + 1
    have := w.md
    omega
  · rw [e1]
    intro x hx
    rcases List.mem_append.mp hx with z | z
    · obtain ⟨z1, z2, z3, z4⟩ := w.e3 x (List.mem_filter.mp z).1
      refine ⟨z1, z2, ?_, z4⟩
      show x.1.2 < (S.hs h).many + 1
      omega
    · rw [List.mem_singleton.mp z]
      refine ⟨rfl, w.m0, ?_, Int.le_refl _⟩
      show (S.hs h).many < (S.hs h).many + 1
      omega
  · show nlt n ((S.hs h).life, (S.hs h).many + 1)
    unfold nlt at *
    dsimp only at *
    omega
  · rw [e1] at hx
    rcases List.mem_append.mp hx with z | z
    · exact .inl (List.mem_filter.mp z).1
    · rw [List.mem_singleton.mp z]
      exact .inr nlt_irr
  · obtain ⟨n, g1, g2, g3⟩ := I.dlook hh k e he hr
    exact ⟨n, g1, (up n _ g1).mpr g2, g3⟩
theorem Inv10.free {h : Nat} (I : Inv10 T kn nh S o d) (hh : h < nh) : Inv10 T kn nh (S.setH h (hFree (S.clk (kn + h)) (S.hs h))) o d := by
  have w := I.W h hh
  exact I.setH hh (Int.le_refl _) ⟨Int.le_refl _, List.nodup_nil, List.nodup_nil, w.m0, w.m0, w.md, fun x hx => (by cases hx), fun x hx => (by cases hx)⟩ (fun n z => z) (fun n a _ q => (by cases q)) (fun x hx => (by cases hx)) (fun k e he => (by cases he)) (I.L h hh)
theorem Inv10.newH {h : Nat} {l : Int} (I : Inv10 T kn nh S o d) (hh : h < nh) (hd : 0 ≤ d) (hl : S.life < l) : Inv10 T kn nh ((S.setL l).setH h ⟨l, S.clk (kn + h), 0, [], []⟩) o d := by
  have w := I.W h hh
  have J := I.setL (l := l) (by omega)
  refine J.setH (s := ⟨l, S.clk (kn + h), 0, [], []⟩) hh (Int.le_refl _) ⟨Int.le_refl _, List.nodup_nil, List.nodup_nil, Int.le_refl _, Int.le_refl _, hd, fun x hx => (by cases hx), fun x hx => (by cases hx)⟩ (fun n z => ?_) (fun n a _ q => (by cases q)) (fun x hx => (by cases hx)) (fun k e he => (by cases he)) (Int.le_refl _)
  have z : nlt n ((S.hs h).life, (S.hs h).many) := z
  have := I.L h hh
  unfold nlt at *
  dsimp only at *
  omega
theorem aPut_mem {κ : Type} [DecidableEq κ] {l : List (κ × Int)} {k j : κ} {v e : Int} (h : (j, e) ∈ aPut l k v) : (j = k ∧ e = v) ∨ (j ≠ k ∧ (j, e) ∈ l) ∨ (j = k ∧ e = v) := by
  unfold aPut at h
  split at h
  · obtain ⟨x, hx, e1⟩ := List.mem_map.mp h
    by_cases z : x.1 = k
    · rw [if_pos z] at e1
      cases e1
      exact .inl ⟨z, rfl⟩
    · rw [if_neg z] at e1
      rw [e1] at z hx
      exact .inr (.inl ⟨z, hx⟩)
  · rename_i hn
    rcases List.mem_append.mp h with z | z
    · refine .inr (.inl ⟨fun w => hn (List.any_eq_true.mpr ⟨_, z, decide_eq_true w⟩), z⟩)
    · cases List.mem_singleton.mp z
      exact .inl ⟨rfl, rfl⟩
theorem Inv10.hear {h k : Nat} {n : Num} (I : Inv10 T kn nh S o d) (hh : h < nh) (hk : k < kn) (g : Gr T kn S o k h n) : Inv10 T kn nh (S.setH h (hHear T.len (S.clk (kn + h)) (k : Int) n (S.hs h))) o d := by
  have w := I.W h hh
  unfold hHear
  cases ha : aGet (keepA T.len (S.clk (kn + h)) (S.hs h).asks) n with
  | none => exact I.look hh
  | some a =>
    dsimp only
    obtain ⟨ha1, ha2⟩ := (aGet_keep w.n1).mp ha
    have hw := w.look
    have z0 := w.e3 _ (aGet_mem ha1)
    refine I.setH hh (Int.le_refl _) ⟨Int.le_refl _, hw.n1, aPut_nd w.n2, hw.l1, hw.m0, hw.md, hw.e3, fun x hx => ?_⟩ (fun n z => z) (fun n a _ q => ((aGet_keep w.n1).mp q).1) (fun x hx => .inl (List.mem_filter.mp hx).1) (fun j e he hr => ?_) (I.L h hh)
    · obtain ⟨x1, x2⟩ := x
      rcases aPut_mem hx with ⟨z, _⟩ | ⟨_, z⟩ | ⟨z, _⟩
      · exact ⟨k, hk, z⟩
      · exact w.lk _ z
      · exact ⟨k, hk, z⟩
    · have two : (j : Int) = k → e = max (a + T.len) ((aGet (S.hs h).lets (k : Int)).getD (a + T.len)) → ∃ n, nlt n ((S.hs h).life, (S.hs h).many) ∧ aGet (keepA T.len (S.clk (kn + h)) (S.hs h).asks) n = some (e - T.len) ∧ Gr T kn S o j h n := by
        intro z1 z2
        have ej : j = k := by omega
        subst ej
        have mine : e = a + T.len → ∃ n, nlt n ((S.hs h).life, (S.hs h).many) ∧ aGet (keepA T.len (S.clk (kn + h)) (S.hs h).asks) n = some (e - T.len) ∧ Gr T kn S o j h n := fun q =>
          ⟨n, .inr ⟨z0.1, z0.2.2.1⟩, by rw [ha, show e - T.len = a by omega], g⟩
        cases hl : aGet (S.hs h).lets (j : Int) with
        | none =>
          rw [hl] at z2
          exact mine (by rw [z2]; exact Int.max_self _)
        | some e0 =>
          rw [hl] at z2
          have z2 : e = max (a + T.len) e0 := z2
          by_cases q : e = a + T.len
          · exact mine q
          · have q2 : e = e0 := by omega
            rw [q2]
            exact I.dlook hh j e0 (aGet_mem hl) (by omega)
      rcases aPut_mem he with ⟨z1, z2⟩ | ⟨_, z⟩ | ⟨z1, z2⟩
      · exact two z1 z2
      · exact I.dlook hh j e z hr
      · exact two z1 z2
end
/-! never two -/
theorem nodup_le : ∀ {m : Nat} {l : List Nat}, l.Nodup → (∀ x ∈ l, x < m) → l.length ≤ m
  | 0, l, _, h => by
    cases l with
    | nil => exact Nat.le_refl _
    | cons x r => exact absurd (h x List.mem_cons_self) (Nat.not_lt_zero _)
  | m + 1, l, nd, h => by
    have h1 : (l.erase m).Nodup := nd.erase m
    have h2 := nodup_le (m := m) h1 fun x hx => by
      have z := (nd.mem_erase_iff).mp hx
      have := h x z.2
      omega
    have h3 : l.length ≤ (l.erase m).length + 1 := by
      rw [List.length_erase]
      split <;> omega
    omega
section
variable {T : Tm} {kn nh : Nat} {S : Town} {o : Nat → Nat} {d d' : Int}
def liveK (c : Int) (s : HSt) : List Nat := (liveL c s.lets).map fun x => x.1.toNat
theorem liveK_ok (I : Inv10 T kn nh S o d) {h : Nat} (hh : h < nh) : (liveK (S.clk (kn + h)) (S.hs h)).Nodup ∧ (∀ k ∈ liveK (S.clk (kn + h)) (S.hs h), k < kn ∧ o k = h) := by
  have w := I.W h hh
  constructor
  · unfold liveK liveL
    have h1 : (((S.hs h).lets.filter fun x => decide (S.clk (kn + h) < x.2)).map (·.1)).Nodup := w.n2.sublist (List.filter_sublist.map _)
    have h2 : ∀ x ∈ ((S.hs h).lets.filter fun x => decide (S.clk (kn + h) < x.2)).map (·.1), 0 ≤ x := by
      intro x hx
      obtain ⟨y, hy, rfl⟩ := List.mem_map.mp hx
      obtain ⟨k, _, e⟩ := w.lk y (List.mem_filter.mp hy).1
      omega
    rw [show (fun x : Int × Int => x.1.toNat) = Int.toNat ∘ (fun x : Int × Int => x.1) from rfl, ← List.map_map]
    generalize ((S.hs h).lets.filter fun x => decide (S.clk (kn + h) < x.2)).map (·.1) = l at h1 h2
    unfold List.Nodup at *
    rw [List.pairwise_map]
    refine h1.imp_of_mem fun {a b} ha hb hne z => hne ?_
    have := h2 a ha
    have := h2 b hb
    omega
  · intro k hk
    obtain ⟨⟨x1, e⟩, hx, rfl⟩ := List.mem_map.mp hk
    obtain ⟨hx1, hx2⟩ := List.mem_filter.mp hx
    have hx2 := of_decide_eq_true hx2
    obtain ⟨k, hk2, ek⟩ := w.lk _ hx1
    have ek : x1 = (k : Int) := ek
    subst ek
    obtain ⟨n, g1, g2⟩ := I.D h hh k e hx1 hx2
    have := g2 _ g1 (by show S.clk (kn + h) < e - T.len + T.len; have hx2 : S.clk (kn + h) < e := hx2; omega)
    exact ⟨hk2, this.1⟩
theorem never_two (I : Inv10 T kn nh S o d) (hkn : (kn : Int) = T.kn) {h1 h2 : Nat} (g1 : h1 < nh) (g2 : h2 < nh) (hne : h1 ≠ h2) (q1 : hHolds T.most (S.clk (kn + h1)) (S.hs h1) = true) (q2 : hHolds T.most (S.clk (kn + h2)) (S.hs h2) = true) : False := by
  obtain ⟨a1, a2⟩ := liveK_ok I g1
  obtain ⟨b1, b2⟩ := liveK_ok I g2
  have q1 := of_decide_eq_true q1
  have q2 := of_decide_eq_true q2
  have l1 : (liveL (S.clk (kn + h1)) (S.hs h1).lets).length = (liveK (S.clk (kn + h1)) (S.hs h1)).length := (List.length_map _).symm
  have l2 : (liveL (S.clk (kn + h2)) (S.hs h2).lets).length = (liveK (S.clk (kn + h2)) (S.hs h2)).length := (List.length_map _).symm
  rw [l1] at q1
  rw [l2] at q2
  have h3 : (liveK (S.clk (kn + h1)) (S.hs h1) ++ liveK (S.clk (kn + h2)) (S.hs h2)).Nodup := by
    rw [List.nodup_append]
    refine ⟨a1, b1, fun x hx y hy e => hne ?_⟩
    rw [← (a2 x hx).2, ← (b2 y hy).2, e]
  have h4 := nodup_le (m := kn) h3 fun x hx => by
    rcases List.mem_append.mp hx with z | z
    · exact (a2 x z).1
    · exact (b2 x z).1
  rw [List.length_append] at h4
  have := (Tm.most_ok T).1
  omega
/-- who holds has asked -/
theorem holds_many (I : Inv10 T kn nh S o d) (hm : 1 ≤ T.most) {h : Nat} (hh : h < nh) (q : hHolds T.most (S.clk (kn + h)) (S.hs h) = true) : (S.hs h).many ≠ 0 := by
  have q := of_decide_eq_true q
  cases hl : liveL (S.clk (kn + h)) (S.hs h).lets with
  | nil => rw [hl] at q; exact absurd q (by show ¬ T.most ≤ ((0 : Nat) : Int); omega)
  | cons x r =>
    obtain ⟨x1, x2⟩ := x
    have hx : (x1, x2) ∈ liveL (S.clk (kn + h)) (S.hs h).lets := by rw [hl]; exact List.mem_cons_self
    obtain ⟨m1, m2⟩ := List.mem_filter.mp hx
    have m2 := of_decide_eq_true m2
    obtain ⟨k, hk, ek⟩ := (I.W h hh).lk _ m1
    have ek : x1 = (k : Int) := ek
    subst ek
    obtain ⟨n, g1, _⟩ := I.D h hh k x2 m1 m2
    have := (I.W h hh).e3 _ (aGet_mem g1)
    omega
end
theorem until_gt {most c : Int} {s : HSt} {v : V} (hm : 1 ≤ most) (h : UntilR most c s v) : (hHolds most c s = false ∧ v = .non) ∨ (hHolds most c s = true ∧ ∃ e, v = .int e ∧ c < e) := by
  rcases h with h | ⟨h1, ns, e, hp, hs, he, rfl⟩
  · exact .inl h
  · refine .inr ⟨h1, e, rfl, ?_⟩
    have hh := of_decide_eq_true h1
    by_cases hc : c < e
    · exact hc
    · exfalso
      have e1 : (liveL c s.lets).length = (ns.filter fun x => decide (c < x)).length := by
        unfold liveL
        rw [(hp.filter _).length_eq, List.filter_map, List.length_map]
        rfl
      obtain ⟨hi, ei⟩ := List.getElem?_eq_some_iff.mp he
      have e2 : ns.filter (fun x => decide (c < x)) = (ns.take (most - 1).toNat).filter fun x => decide (c < x) := by
        conv => lhs; rw [← List.take_append_drop (most - 1).toNat ns]
        have hd : (ns.drop (most - 1).toNat).filter (fun x => decide (c < x)) = [] := by
         rw [List.filter_eq_nil_iff]
         intro x hx z
         have z := of_decide_eq_true z
         obtain ⟨j, hj, ej⟩ := List.getElem_of_mem hx
         rw [List.length_drop] at hj
         rw [List.getElem_drop] at ej
         have h5 : x ≤ e := by
           rw [← ej, ← ei]
           by_cases j0 : j = 0
           · subst j0; exact Int.le_refl _
           · exact List.pairwise_iff_getElem.mp hs _ _ hi (by omega) (by omega)
         omega
        rw [List.filter_append, hd, List.append_nil]
      have e3 : ((ns.take (most - 1).toNat).filter fun x => decide (c < x)).length ≤ (most - 1).toNat := Nat.le_trans (List.length_filter_le _ _) (by rw [List.length_take]; omega)
      rw [e1, e2] at hh
      omega
end Lh

set_option Elab.async false
set_option linter.all false
set_option maxRecDepth 100000
set_option maxHeartbeats 4000000
namespace Lh
open PySem PySem.Spec PyProof.Rows L2
/-! ### k10: the town on the heap -/
structure Adr where
  a : Addr
  th : Addr
  t : Addr
  tw : Addr
  cl : Addr
  bg : Addr
  kl : Addr
  hl : Addr
def kdS : Nat → Str
  | 0 => "ask"
  | 1 => "let"
  | _ => "free"
def ScrM (K : PySem.W.Frag) (H : Hp) (a : Addr) (xs : List V) (l : List Addr) : Prop := (∀ H', SqL K H' a xs) ∨ (a ∉ l ∧ Rd H a (.lst xs))
theorem ScrM.sq {K : PySem.W.Frag} {H : Hp} {a : Addr} {xs : List V} {l : List Addr} : ScrM K H a xs l → SqL K H a xs := fun h => h.elim (fun h => h H) fun h => .inl h.2
theorem ScrM.of {K : PySem.W.Frag} {H H' : Hp} {a : Addr} {xs : List V} {l : List Addr} (h : SqL K H a xs) (s : Same H H') (n : ∀ b ∈ l, H b = none) : ScrM K H' a xs l := by
  rcases h with (h | ⟨ob, h⟩) | h
  · exact .inr ⟨fun m => (by rw [n _ m] at h; cases h), .inl (s _ _ h)⟩
  · exact .inr ⟨fun m => (by rw [n _ m] at h; cases h), .inr ⟨ob, s _ _ h⟩⟩
  · exact .inl fun _ => .inr h
theorem ScrM.to {K : PySem.W.Frag} {H H' : Hp} {a : Addr} {xs : List V} {l l' : List Addr} (hl : ∀ b, b ∈ l' → b ∈ l) (k : ∀ o, a ∉ l → H a = some o → ((∃ ys, o = .lst ys) ∨ ∃ ob ys, o = .frz ob (.lst ys)) → H' a = some o) : ScrM K H a xs l → ScrM K H' a xs l' := fun h => by
  rcases h with h | ⟨hn, h⟩
  · exact .inl h
  · rcases h with h | ⟨ob, h⟩
    · exact .inr ⟨fun m => hn (hl _ m), .inl (k _ hn h (.inl ⟨_, rfl⟩))⟩
    · exact .inr ⟨fun m => hn (hl _ m), .inr ⟨ob, k _ hn h (.inr ⟨_, _, rfl⟩)⟩⟩
def townD (A : Adr) (l : Int) : List (Key × V) := [(Sum.inr "clocks", .ref A.cl), (Sum.inr "bag", .ref A.bg), (Sum.inr "life", .int l), (Sum.inr "keepers", .ref A.kl), (Sum.inr "holders", .ref A.hl)]
theorem townD_put {A : Adr} {l l' : Int} : putK (townD A l) (Sum.inr "life" : Key) (.int l') = townD A l' := by first | rfl | kernel_rfl
theorem townD_ne {A : Adr} {l : Int} {ls : List (Int × Int)} : HO.dK (toV fI ls) ≠ HO.dK (townD A l) := by
  intro z
  injection z with z
  cases ls with
  | nil => cases z
  | cons x r =>
    injection z with z _
    injection z with z _
    cases z
/-- neither a list nor the town's dict: such things stand while the lists and the dict change -/
def Still (A : Adr) (o : HO) : Prop := (∀ xs, o ≠ .lst xs) ∧ ∀ l, o ≠ .dK (townD A l)
theorem still_ins {A : Adr} {C dx : Addr} {fs : List (Str × V)} : Still A (.ins C dx fs) := ⟨fun _ z => (by cases z), fun _ z => (by cases z)⟩
theorem still_tup {A : Adr} {xs : List V} : Still A (.tup xs) := ⟨fun _ z => (by cases z), fun _ z => (by cases z)⟩
theorem still_dT {A : Adr} {kvs : List (List Key × V)} : Still A (.dT kvs) := ⟨fun _ z => (by cases z), fun _ z => (by cases z)⟩
theorem still_dK {A : Adr} {ls : List (Int × Int)} : Still A (.dK (toV fI ls)) := ⟨fun _ z => (by cases z), fun _ => townD_ne⟩
def Pass (A : Adr) (H H' : Hp) : Prop := ∀ b o, Still A o → H b = some o → H' b = some o
theorem HAt.pass {A : Adr} {C h t da dl : Addr} {nm : Int} {s : HSt} {H H' : Hp} (p : Pass A H H') : HAt C H h t nm da dl s → HAt C H' h t nm da dl s := fun ⟨⟨dx, a⟩, b, c⟩ => ⟨⟨dx, p _ _ still_ins a⟩, p _ _ still_dT b, p _ _ still_dK c⟩
theorem KAt.pass {A : Adr} {C p t : Addr} {st : KSt} {H H' : Hp} (k : Pass A H H') : KAt C H p t st → KAt C H' p t st := fun ⟨dx, nm, nu, h, o⟩ => ⟨dx, nm, nu, k _ _ still_ins h, o.to fun q xs e => k _ _ still_tup e⟩
theorem Same.pass {A : Adr} {H H' : Hp} (s : Same H H') : Pass A H H' := fun b o _ e => s b o e
theorem pass_lst {A : Adr} {H H' : Hp} {l : Addr} {xs : List V} (h : H l = some (.lst xs)) (k : Kp l H H') : Pass A H H' := fun b o z e => k b o (ne_of e h (z.1 _)) e
theorem pass_dict {A : Adr} {H H' : Hp} {l : Int} (h : H A.tw = some (.dK (townD A l))) (k : Kp A.tw H H') : Pass A H H' := fun b o z e => k b o (ne_of e h (z.2 _)) e
def MsgAt (H : Hp) (m : Addr) (b : Msg) : Prop := ∃ q, H m = some (.tup [.str (kdS b.kd), .int (b.k : Int), .int (b.nm : Int), .ref q]) ∧ H q = some (.tup [.int b.n.1, .int b.n.2])
theorem MsgAt.to {H H' : Hp} {m : Addr} {b : Msg} (t : ∀ q xs, H q = some (.tup xs) → H' q = some (.tup xs)) : MsgAt H m b → MsgAt H' m b := fun ⟨q, h1, h2⟩ => ⟨q, t _ _ h1, t _ _ h2⟩
/-- what no list of the town's tells -/
structure TwO (CK CH CT : Addr) (H : Hp) (A : Adr) (T : Tm) (kn nh : Nat) (ps : List Addr) (hs : List (Addr × Addr × Addr)) (ms : List Addr) (S : Town) : Prop where
  th : H A.th = some (.tup [.int T.low, .int T.high, .int T.len, .int T.kn])
  hT : TAt CT H A.t T
  pl : ps.length = kn
  hn : hs.length = nh
  ml : ms.length = S.bag.length
  pn : ps.Nodup
  h1 : (hs.map (·.1)).Nodup
  h2 : (hs.map (·.2.1)).Nodup
  h3 : (hs.map (·.2.2)).Nodup
  ks : KsAt CK H A.t ps S.ks
  hh : ∀ (i : Nat) (x : Addr × Addr × Addr), hs[i]? = some x → HAt CH H x.1 A.t (i : Int) x.2.1 x.2.2 (S.hs i)
  mm : ∀ (i : Nat) (m : Addr) (b : Msg), ms[i]? = some m → S.bag[i]? = some b → MsgAt H m b
structure TwL (K : PySem.W.Frag) (H : Hp) (A : Adr) (kn nh : Nat) (ns : List Int) (ps : List Addr) (hs : List (Addr × Addr × Addr)) (ms : List Addr) (S : Town) : Prop where
  sq : ScrM K H A.a (ns.map V.int) [A.cl, A.bg, A.kl, A.hl]
  tw : H A.tw = some (.dK (townD A S.life))
  cl : H A.cl = some (.lst ((List.range (kn + nh)).map fun j => V.int (S.clk j)))
  bg : H A.bg = some (.lst (ms.map V.ref))
  kl : H A.kl = some (.lst (ps.map V.ref))
  hl : H A.hl = some (.lst (hs.map fun x => V.ref x.1))
  n12 : A.cl ≠ A.bg
  n13 : A.cl ≠ A.kl
  n14 : A.cl ≠ A.hl
  n23 : A.bg ≠ A.kl
  n24 : A.bg ≠ A.hl
  n34 : A.kl ≠ A.hl
structure TwAt (K : PySem.W.Frag) (CK CH CT : Addr) (H : Hp) (A : Adr) (T : Tm) (kn nh : Nat) (ns : List Int) (ps : List Addr) (hs : List (Addr × Addr × Addr)) (ms : List Addr) (S : Town) : Prop where
  L : TwL K H A kn nh ns ps hs ms S
  O : TwO CK CH CT H A T kn nh ps hs ms S
section
variable {K : PySem.W.Frag} {CK CH CT : Addr} {H H' : Hp} {A : Adr} {T : Tm} {kn nh : Nat} {ns : List Int} {ps : List Addr} {hs : List (Addr × Addr × Addr)} {ms : List Addr} {S : Town}
theorem TwO.pass (k : Pass A H H') (O : TwO CK CH CT H A T kn nh ps hs ms S) : TwO CK CH CT H' A T kn nh ps hs ms S :=
  ⟨k _ _ still_tup O.th, by obtain ⟨ok, dx, h⟩ := O.hT; exact ⟨ok, dx, k _ _ still_ins h⟩, O.pl, O.hn, O.ml, O.pn, O.h1, O.h2, O.h3, fun i p e => (O.ks i p e).pass k, fun i x e => (O.hh i x e).pass k, fun i m b e1 e2 => (O.mm i m b e1 e2).to fun q xs e => k _ _ still_tup e⟩
/-- the lists and the dict stand -/
theorem TwL.pass (k : ∀ b o, ((∃ ys, o = .lst ys) ∨ (∃ ob ys, o = .frz ob (.lst ys)) ∨ ∃ l, o = .dK (townD A l)) → H b = some o → H' b = some o) (L : TwL K H A kn nh ns ps hs ms S) : TwL K H' A kn nh ns ps hs ms S :=
  ⟨L.sq.to (fun _ z => z) (fun o _ e z => k _ _ (z.elim (fun z => .inl z) fun z => .inr (.inl z)) e), k _ _ (.inr (.inr ⟨_, rfl⟩)) L.tw, k _ _ (.inl ⟨_, rfl⟩) L.cl, k _ _ (.inl ⟨_, rfl⟩) L.bg, k _ _ (.inl ⟨_, rfl⟩) L.kl, k _ _ (.inl ⟨_, rfl⟩) L.hl, L.n12, L.n13, L.n14, L.n23, L.n24, L.n34⟩
theorem TwAt.same (z : Same H H') (W : TwAt K CK CH CT H A T kn nh ns ps hs ms S) : TwAt K CK CH CT H' A T kn nh ns ps hs ms S := ⟨W.L.pass fun b o _ e => z b o e, W.O.pass (Lh.Same.pass z)⟩
theorem TwAt.sq (W : TwAt K CK CH CT H A T kn nh ns ps hs ms S) : SqL K H A.a (ns.map V.int) := W.L.sq.sq
/-- a keeper moved -/
theorem TwAt.toK {p : Addr} {i : Nat} {st : KSt} (W : TwAt K CK CH CT H A T kn nh ns ps hs ms S) (hi : ps[i]? = some p) (k : Kp p H H') (hk : KAt CK H' p A.t st) : TwAt K CK CH CT H' A T kn nh ns ps hs ms (S.setK i st) := by
  obtain ⟨dk, v1, v2, hp, _⟩ := W.O.ks i p hi
  have tp := tup_kp hp ins_tup k
  have L := W.L.pass (H' := H') fun b o z e => k b o (ne_of e hp (by rcases z with ⟨_, rfl⟩ | ⟨_, _, rfl⟩ | ⟨_, rfl⟩ <;> (intro z; cases z))) e
  have O := W.O
  refine ⟨⟨L.sq, L.tw, L.cl, L.bg, L.kl, L.hl, L.n12, L.n13, L.n14, L.n23, L.n24, L.n34⟩, tp _ _ O.th, ?_, O.pl, O.hn, O.ml, O.pn, O.h1, O.h2, O.h3, O.ks.set O.pn hi hk k tp, fun j x e => ?_, fun j m b e1 e2 => (O.mm j m b e1 e2).to tp⟩
  · obtain ⟨ok, dt, ht⟩ := O.hT
    exact ⟨ok, dt, k _ _ (tk_ne ht hp) ht⟩
  · obtain ⟨⟨d1, b1⟩, b2, b3⟩ := O.hh j x e
    exact ⟨⟨d1, k _ _ (ne_symm' (kh_ne hp b1)) b1⟩, k _ _ (ne_of b2 hp (by intro z; cases z)) b2, k _ _ (ne_of b3 hp (by intro z; cases z)) b3⟩
theorem nodup_set {α : Type} {l : List α} {i : Nat} {x : α} (nd : l.Nodup) (h : ∀ j y, j ≠ i → l[j]? = some y → y ≠ x) : (l.set i x).Nodup := by
  unfold List.Nodup at *
  rw [List.pairwise_iff_getElem] at *
  intro j k hj hk hjk
  rw [List.length_set] at hj hk
  rw [List.getElem_set, List.getElem_set]
  by_cases e1 : i = j
  · rw [if_pos e1, if_neg (by omega)]
    exact fun z => h k _ (by omega) (List.getElem?_eq_getElem hk) z.symm
  · rw [if_neg e1]
    by_cases e2 : i = k
    · rw [if_pos e2]
      exact h j _ (by omega) (List.getElem?_eq_getElem hj)
    · rw [if_neg e2]
      exact nd j k hj hk hjk
/-- a holder moved; its two dicts may be new -/
theorem TwAt.toH {x : Addr × Addr × Addr} {i : Nat} {s : HSt} {da dl : Addr} (W : TwAt K CK CH CT H A T kn nh ns ps hs ms S) (hi : hs[i]? = some x) (k : Kp3 x.1 x.2.1 x.2.2 H H') (hk : HAt CH H' x.1 A.t (i : Int) da dl s) (e1 : da = x.2.1 ∨ H da = none) (e2 : dl = x.2.2 ∨ H dl = none) :
    TwAt K CK CH CT H' A T kn nh ns ps (hs.set i (x.1, da, dl)) ms (S.setH i s) := by
  obtain ⟨⟨d1, b1⟩, b2, b3⟩ := W.O.hh i x hi
  have L := W.L.pass (H' := H') fun b o z e => k b o (ne_of e b1 (by rcases z with ⟨_, rfl⟩ | ⟨_, _, rfl⟩ | ⟨_, rfl⟩ <;> (intro z; cases z))) (ne_of e b2 (by rcases z with ⟨_, rfl⟩ | ⟨_, _, rfl⟩ | ⟨_, rfl⟩ <;> (intro z; cases z)))
    (ne_of e b3 (by
      rcases z with ⟨_, rfl⟩ | ⟨_, _, rfl⟩ | ⟨_, rfl⟩
      · intro z; cases z
      · intro z; cases z
      · exact fun z => townD_ne z.symm)) e
  have O := W.O
  have tp : ∀ q xs, H q = some (.tup xs) → H' q = some (.tup xs) := fun q xs e => k q _ (ne_of e b1 (by intro z; cases z)) (ne_of e b2 (by intro z; cases z)) (ne_of e b3 (by intro z; cases z)) e
  have hil : i < hs.length := (List.getElem?_eq_some_iff.mp hi).1
  have m1 : (hs.set i (x.1, da, dl)).map (fun x => V.ref x.1) = hs.map fun x => V.ref x.1 := by
    rw [List.map_set]
    apply List.ext_getElem?
    intro j
    rw [List.getElem?_set]
    by_cases e : i = j
    · subst e
      rw [if_pos rfl, if_pos (by rw [List.length_map]; exact hil), List.getElem?_map, hi]
      rfl
    · rw [if_neg e]
  refine ⟨⟨L.sq, L.tw, L.cl, L.bg, L.kl, by rw [m1]; exact L.hl, L.n12, L.n13, L.n14, L.n23, L.n24, L.n34⟩, tp _ _ O.th, ?_, O.pl, by rw [List.length_set]; exact O.hn, O.ml, O.pn, ?_, ?_, ?_, O.ks.kp3 (O.hh i x hi) k, fun j y e => ?_, fun j m b e1 e2 => (O.mm j m b e1 e2).to tp⟩
  · obtain ⟨ok, dt, ht⟩ := O.hT
    exact ⟨ok, dt, k _ _ (th_ne ht b1) (ne_of ht b2 (by intro z; cases z)) (ne_of ht b3 (by intro z; cases z)) ht⟩
  · rw [List.map_set]
    refine nodup_set O.h1 fun j y hj hy z => hj (nd_ix O.h1 hy (by rw [List.getElem?_map, hi]; exact congrArg some z.symm))
  · rw [List.map_set]
    refine nodup_set O.h2 fun j y hj hy z => ?_
    rcases e1 with e1 | e1
    · exact hj (nd_ix O.h2 hy (by rw [List.getElem?_map, hi]; show some x.2.1 = some y; rw [z, e1]))
    · rw [List.getElem?_map] at hy
      obtain ⟨w, hw, rfl⟩ := Option.map_eq_some_iff.mp hy
      have := (O.hh j w hw).as
      have z : w.2.1 = da := z
      rw [z, e1] at this
      cases this
  · rw [List.map_set]
    refine nodup_set O.h3 fun j y hj hy z => ?_
    rcases e2 with e2 | e2
    · exact hj (nd_ix O.h3 hy (by rw [List.getElem?_map, hi]; show some x.2.2 = some y; rw [z, e2]))
    · rw [List.getElem?_map] at hy
      obtain ⟨w, hw, rfl⟩ := Option.map_eq_some_iff.mp hy
      have := (O.hh j w hw).ls
      have z : w.2.2 = dl := z
      rw [z, e2] at this
      cases this
  · rw [List.getElem?_set] at e
    by_cases ej : i = j
    · subst ej
      rw [if_pos rfl, if_pos hil] at e
      cases e
      rw [setH_same]
      exact hk
    · rw [if_neg ej] at e
      rw [setH_ne (fun z => ej z.symm)]
      obtain ⟨⟨d2, c1⟩, c2, c3⟩ := O.hh j y e
      have f1 : y.1 ≠ x.1 := fun z => ej (nd_ix O.h1 (by rw [List.getElem?_map, hi]; rfl) (by rw [List.getElem?_map, e]; exact congrArg some z))
      have f2 : y.2.1 ≠ x.2.1 := fun z => ej (nd_ix O.h2 (by rw [List.getElem?_map, hi]; rfl) (by rw [List.getElem?_map, e]; exact congrArg some z))
      have f3 : y.2.2 ≠ x.2.2 := fun z => ej (nd_ix O.h3 (by rw [List.getElem?_map, hi]; rfl) (by rw [List.getElem?_map, e]; exact congrArg some z))
      exact ⟨⟨d2, k _ _ f1 (ne_of c1 b2 (by intro z; cases z)) (ne_of c1 b3 (by intro z; cases z)) c1⟩, k _ _ (ne_of c2 b1 (by intro z; cases z)) f2 (ne_of c2 b3 (by intro z; cases z)) c2, k _ _ (ne_of c3 b1 (by intro z; cases z)) (ne_of c3 b2 (by intro z; cases z)) f3 c3⟩
/-- the same with the dicts it had -/
theorem TwAt.toH0 {x : Addr × Addr × Addr} {i : Nat} {s : HSt} (W : TwAt K CK CH CT H A T kn nh ns ps hs ms S) (hi : hs[i]? = some x) (k : Kp3 x.1 x.2.1 x.2.2 H H') (hk : HAt CH H' x.1 A.t (i : Int) x.2.1 x.2.2 s) : TwAt K CK CH CT H' A T kn nh ns ps hs ms (S.setH i s) := by
  have z := W.toH hi k hk (.inl rfl) (.inl rfl)
  have e : hs.set i (x.1, x.2.1, x.2.2) = hs := by
    apply List.ext_getElem?
    intro j
    rw [List.getElem?_set]
    by_cases ej : i = j
    · subst ej
      rw [if_pos rfl, if_pos (List.getElem?_eq_some_iff.mp hi).1, hi]
    · rw [if_neg ej]
  rw [e] at z
  exact z
theorem TwL.scr (L : TwL K H A kn nh ns ps hs ms S) {l : Addr} (hl : l ∈ [A.cl, A.bg, A.kl, A.hl]) (k : Kp l H H') : ScrM K H' A.a (ns.map V.int) [A.cl, A.bg, A.kl, A.hl] :=
  L.sq.to (fun _ z => z) fun o hn e _ => k _ _ (fun z => hn (z ▸ hl)) e
/-- the clocks go on -/
theorem TwAt.toC {c : Nat → Int} (W : TwAt K CK CH CT H A T kn nh ns ps hs ms S) (k : Kp A.cl H H') (h : H' A.cl = some (.lst ((List.range (kn + nh)).map fun j => V.int (c j)))) : TwAt K CK CH CT H' A T kn nh ns ps hs ms (S.setC c) := by
  have L := W.L
  have O := W.O.pass (pass_lst L.cl k)
  exact ⟨⟨L.scr (by simp) k, k _ _ (ne_of L.tw L.cl (by intro z; cases z)) L.tw, h, k _ _ (ne_symm' L.n12) L.bg, k _ _ (ne_symm' L.n13) L.kl, k _ _ (ne_symm' L.n14) L.hl, L.n12, L.n13, L.n14, L.n23, L.n24, L.n34⟩, ⟨O.th, O.hT, O.pl, O.hn, O.ml, O.pn, O.h1, O.h2, O.h3, O.ks, O.hh, O.mm⟩⟩
/-- the bag changes -/
theorem TwAt.toB {ms' : List Addr} {b : List Msg} (W : TwAt K CK CH CT H A T kn nh ns ps hs ms S) (k : Kp A.bg H H') (h : H' A.bg = some (.lst (ms'.map V.ref))) (hl : ms'.length = b.length) (hm : ∀ (i : Nat) (m : Addr) (x : Msg), ms'[i]? = some m → b[i]? = some x → MsgAt H' m x) : TwAt K CK CH CT H' A T kn nh ns ps hs ms' (S.setB b) := by
  have L := W.L
  have O := W.O.pass (pass_lst L.bg k)
  exact ⟨⟨L.scr (by simp) k, k _ _ (ne_of L.tw L.bg (by intro z; cases z)) L.tw, k _ _ L.n12 L.cl, h, k _ _ (ne_symm' L.n23) L.kl, k _ _ (ne_symm' L.n24) L.hl, L.n12, L.n13, L.n14, L.n23, L.n24, L.n34⟩, ⟨O.th, O.hT, O.pl, O.hn, hl, O.pn, O.h1, O.h2, O.h3, O.ks, O.hh, hm⟩⟩
/-- a message more -/
theorem TwAt.addB {m : Addr} {b : Msg} (W : TwAt K CK CH CT H A T kn nh ns ps hs ms S) (hm : MsgAt H m b) : TwAt K CK CH CT (upd H A.bg (.lst (ms.map V.ref ++ [.ref m]))) A T kn nh ns ps hs (ms ++ [m]) (S.setB (S.bag ++ [b])) := by
  have k : Kp A.bg H (upd H A.bg (.lst (ms.map V.ref ++ [.ref m]))) := kp_upd
  have tp := tup_kp W.L.bg (fun _ z => by cases z) k
  refine W.toB k (by rw [upd_same, List.map_append]; rfl) (by rw [List.length_append, List.length_append, W.O.ml]; rfl) fun i m' x e1 e2 => ?_
  by_cases hi : i < ms.length
  · rw [List.getElem?_append_left hi] at e1
    rw [List.getElem?_append_left (by rw [← W.O.ml]; exact hi)] at e2
    exact (W.O.mm i m' x e1 e2).to tp
  · rw [List.getElem?_append_right (by omega)] at e1
    rw [List.getElem?_append_right (by rw [← W.O.ml]; omega), ← W.O.ml] at e2
    have e1 := List.mem_of_getElem? e1
    have e2 := List.mem_of_getElem? e2
    rw [List.mem_singleton.mp e1, List.mem_singleton.mp e2]
    exact hm.to tp
theorem map_erase {α β : Type} (f : α → β) : ∀ (l : List α) (j : Nat), (l.map f).eraseIdx j = (l.eraseIdx j).map f
  | [], _ => rfl
  | _ :: _, 0 => rfl
  | a :: r, j + 1 => by
    show f a :: (r.map f).eraseIdx j = f a :: (r.eraseIdx j).map f
    rw [map_erase f r j]
/-- a message less -/
theorem TwAt.delB {j : Nat} (W : TwAt K CK CH CT H A T kn nh ns ps hs ms S) (hj : j < ms.length) : TwAt K CK CH CT (upd H A.bg (.lst ((ms.map V.ref).eraseIdx j))) A T kn nh ns ps hs (ms.eraseIdx j) (S.setB (S.bag.eraseIdx j)) := by
  have k : Kp A.bg H (upd H A.bg (.lst ((ms.map V.ref).eraseIdx j))) := kp_upd
  have tp := tup_kp W.L.bg (fun _ z => by cases z) k
  have hml := W.O.ml
  refine W.toB k (by rw [upd_same, map_erase]) (by rw [List.length_eraseIdx_of_lt hj, List.length_eraseIdx_of_lt (by omega)]; omega) fun i m' x e1 e2 => ?_
  rw [List.getElem?_eraseIdx] at e1 e2
  by_cases hi : i < j
  · rw [if_pos hi] at e1 e2
    exact (W.O.mm i m' x e1 e2).to tp
  · rw [if_neg hi] at e1 e2
    exact (W.O.mm (i + 1) m' x e1 e2).to tp
/-- another life -/
theorem TwAt.toL {l : Int} (W : TwAt K CK CH CT H A T kn nh ns ps hs ms S) (k : Kp A.tw H H') (h : H' A.tw = some (.dK (townD A l))) : TwAt K CK CH CT H' A T kn nh ns ps hs ms (S.setL l) := by
  have L := W.L
  have O := W.O.pass (pass_dict L.tw k)
  have kl : ∀ b xs, H b = some (.lst xs) → H' b = some (.lst xs) := fun b xs e => k _ _ (ne_of e L.tw (by intro z; cases z)) e
  exact ⟨⟨L.sq.to (fun _ z => z) (fun o _ e z => k _ _ (ne_of e L.tw (by rcases z with ⟨_, rfl⟩ | ⟨_, _, rfl⟩ <;> (intro z; cases z))) e), h, kl _ _ L.cl, kl _ _ L.bg, kl _ _ L.kl, kl _ _ L.hl, L.n12, L.n13, L.n14, L.n23, L.n24, L.n34⟩, ⟨O.th, O.hT, O.pl, O.hn, O.ml, O.pn, O.h1, O.h2, O.h3, O.ks, O.hh, O.mm⟩⟩
/-- a keeper anew -/
theorem TwAt.newK {p : Addr} {i : Nat} {st : KSt} (W : TwAt K CK CH CT H A T kn nh ns ps hs ms S) (hi : i < kn) (hp : p ∉ ps) (hk : KAt CK H p A.t st) : TwAt K CK CH CT (upd H A.kl (.lst ((ps.map V.ref).set i (.ref p)))) A T kn nh ns (ps.set i p) hs ms (S.setK i st) := by
  have k : Kp A.kl H (upd H A.kl (.lst ((ps.map V.ref).set i (.ref p)))) := kp_upd
  have L := W.L
  have pa := pass_lst (A := A) L.kl k
  have O := W.O.pass pa
  refine ⟨⟨L.scr (by simp) k, k _ _ (ne_of L.tw L.kl (by intro z; cases z)) L.tw, k _ _ L.n13 L.cl, k _ _ L.n23 L.bg, by rw [upd_same, List.map_set], k _ _ (ne_symm' L.n34) L.hl, L.n12, L.n13, L.n14, L.n23, L.n24, L.n34⟩,
    ⟨O.th, O.hT, by rw [List.length_set]; exact O.pl, O.hn, O.ml, nodup_set O.pn fun j y _ hy z => hp (by rw [← z]; exact List.mem_of_getElem? hy), O.h1, O.h2, O.h3, fun j q e => ?_, O.hh, O.mm⟩⟩
  rw [List.getElem?_set] at e
  by_cases ej : i = j
  · subst ej
    rw [if_pos rfl, if_pos (by rw [O.pl]; exact hi)] at e
    cases e
    rw [setK_same]
    exact hk.pass pa
  · rw [if_neg ej] at e
    rw [setK_ne (fun z => ej z.symm)]
    exact O.ks j q e
/-- a holder anew -/
theorem TwAt.newH {x : Addr × Addr × Addr} {i : Nat} {s : HSt} (W : TwAt K CK CH CT H A T kn nh ns ps hs ms S) (hi : i < nh) (q1 : ∀ y ∈ hs, y.1 ≠ x.1) (q2 : ∀ y ∈ hs, y.2.1 ≠ x.2.1) (q3 : ∀ y ∈ hs, y.2.2 ≠ x.2.2) (hk : HAt CH H x.1 A.t (i : Int) x.2.1 x.2.2 s) :
    TwAt K CK CH CT (upd H A.hl (.lst ((hs.map fun x => V.ref x.1).set i (.ref x.1)))) A T kn nh ns ps (hs.set i x) ms (S.setH i s) := by
  have k : Kp A.hl H (upd H A.hl (.lst ((hs.map fun x => V.ref x.1).set i (.ref x.1)))) := kp_upd
  have L := W.L
  have pa := pass_lst (A := A) L.hl k
  have O := W.O.pass pa
  have nd : ∀ f : Addr × Addr × Addr → Addr, (hs.map f).Nodup → (∀ y ∈ hs, f y ≠ f x) → ((hs.set i x).map f).Nodup := fun f h1 h2 => by
    rw [List.map_set]
    refine nodup_set h1 fun j y _ hy z => ?_
    rw [List.getElem?_map] at hy
    obtain ⟨w, hw, rfl⟩ := Option.map_eq_some_iff.mp hy
    exact h2 w (List.mem_of_getElem? hw) z
  refine ⟨⟨L.scr (by simp) k, k _ _ (ne_of L.tw L.hl (by intro z; cases z)) L.tw, k _ _ L.n14 L.cl, k _ _ L.n24 L.bg, k _ _ L.n34 L.kl, by rw [upd_same, List.map_set], L.n12, L.n13, L.n14, L.n23, L.n24, L.n34⟩,
    ⟨O.th, O.hT, O.pl, by rw [List.length_set]; exact O.hn, O.ml, O.pn, nd _ O.h1 q1, nd _ O.h2 q2, nd _ O.h3 q3, O.ks, fun j y e => ?_, O.mm⟩⟩
  rw [List.getElem?_set] at e
  by_cases ej : i = j
  · subst ej
    rw [if_pos rfl, if_pos (by rw [O.hn]; exact hi)] at e
    cases e
    rw [setH_same]
    exact hk.pass pa
  · rw [if_neg ej] at e
    rw [setH_ne (fun z => ej z.symm)]
    exact O.hh j y e
/-- what is new is none of the town's -/
theorem TwAt.freshK (W : TwAt K CK CH CT H A T kn nh ns ps hs ms S) {p : Addr} (h : H p = none) : p ∉ ps := fun m => by
  obtain ⟨j, hj, e⟩ := List.getElem_of_mem m
  obtain ⟨_, _, _, z, _⟩ := W.O.ks j p (by rw [List.getElem?_eq_getElem hj, e])
  rw [h] at z
  cases z
theorem TwAt.freshH (W : TwAt K CK CH CT H A T kn nh ns ps hs ms S) {p : Addr} (h : H p = none) : ∀ y ∈ hs, y.1 ≠ p ∧ y.2.1 ≠ p ∧ y.2.2 ≠ p := fun y m => by
  obtain ⟨j, hj, e⟩ := List.getElem_of_mem m
  obtain ⟨⟨_, z1⟩, z2, z3⟩ := W.O.hh j y (by rw [List.getElem?_eq_getElem hj, e])
  exact ⟨fun z => (by rw [z, h] at z1; cases z1), fun z => (by rw [z, h] at z2; cases z2), fun z => (by rw [z, h] at z3; cases z3)⟩
end
end Lh

set_option Elab.async false
set_option linter.all false
set_option maxRecDepth 100000
set_option maxHeartbeats 4000000
namespace Lh
open PySem PySem.Spec PyProof.Rows L2
/-! ### k10: calls of keepers and holders in the town; the promises of the law's defs -/
theorem keys_le {kn : Nat} {l : List (Int × Int)} (nd : (l.map (·.1)).Nodup) (h : ∀ x ∈ l, ∃ k : Nat, k < kn ∧ x.1 = (k : Int)) : l.length ≤ kn := by
  have h2 : ((l.map (·.1)).map Int.toNat).Nodup := by
    have h3 : ∀ x ∈ l.map (·.1), 0 ≤ x := by
      intro x hx
      obtain ⟨y, hy, rfl⟩ := List.mem_map.mp hx
      obtain ⟨k, _, e⟩ := h y hy
      omega
    generalize l.map (·.1) = r at nd h3
    unfold List.Nodup at *
    rw [List.pairwise_map]
    refine nd.imp_of_mem fun {a b} ha hb hne z => hne ?_
    have := h3 a ha
    have := h3 b hb
    omega
  have h4 := nodup_le (m := kn) h2 fun x hx => by
    rw [List.map_map] at hx
    obtain ⟨y, hy, rfl⟩ := List.mem_map.mp hx
    obtain ⟨k, h5, e⟩ := h y hy
    show y.1.toNat < kn
    omega
  rw [List.length_map, List.length_map] at h4
  exact h4
theorem HWf.wf {T : Tm} {kn : Nat} {d c : Int} {s : HSt} (w : HWf T kn d c s) (hd : d ≤ 1000) (hk : kn ≤ 1000) : WfH s :=
  ⟨w.n1, w.n2, by have := w.l1; have := w.md; omega, Nat.le_trans (keys_le w.n2 w.lk) hk⟩
def Tup2 (H H' : Hp) : Prop := ∀ q xs, H q = some (.tup xs) → H' q = some (.tup xs)
section
variable {K : PySem.W.Frag} {CK CH CT CB CN CA : Addr} {H : Hp} {A : Adr} {T : Tm} {kn nh : Nat} {ns : List Int} {ps : List Addr} {hs : List (Addr × Addr × Addr)} {ms : List Addr} {S : Town} {Q : VK} {E : XK} {c : Int}
theorem tup_kp3 {C h t da dl : Addr} {nm : Int} {s : HSt} {H H' : Hp} (hh : HAt C H h t nm da dl s) (k : Kp3 h da dl H H') : Tup2 H H' := by
  obtain ⟨⟨d1, b1⟩, b2, b3⟩ := hh
  exact fun q xs e => k q _ (ne_of e b1 (by intro z; cases z)) (ne_of e b2 (by intro z; cases z)) (ne_of e b3 (by intro z; cases z)) e
theorem t_asked {n u v : Int} {i : Nat} {p r : Addr} (W : TwAt K CK CH CT H A T kn nh ns ps hs ms S) (hi : ps[i]? = some p) (hc : (S.ks i).clock ≤ c) (hr : H r = some (.tup [.int u, .int v]))
    (q : ∀ H', TwAt K CK CH CT H' A T kn nh ns ps hs ms (S.setK i (kAsk T.wait c n u v (S.ks i)).1) → Tup2 H H' → Q (.bl (kAsk T.wait c n u v (S.ks i)).2) H') : spAsked CK CT CB [.ref p, .int c, .int n, .ref r] H Q E := by
  obtain ⟨dk, v1, v2, hp, _⟩ := W.O.ks i p hi
  exact ⟨p, A.t, S.ks i, T, c, n, r, u, v, rfl, W.O.ks i p hi, W.O.hT, hr, fun w => absurd w (by omega), fun _ H' e1 e2 => q H' (W.toK hi e2 e1) (tup_kp hp ins_tup e2)⟩
theorem t_freed {n u v : Int} {i : Nat} {p r : Addr} (W : TwAt K CK CH CT H A T kn nh ns ps hs ms S) (hi : ps[i]? = some p) (hc : (S.ks i).clock ≤ c) (hr : H r = some (.tup [.int u, .int v]))
    (q : ∀ H', TwAt K CK CH CT H' A T kn nh ns ps hs ms (S.setK i (kFree c n u v (S.ks i))) → Tup2 H H' → Q .non H') : spFreed CK CB [.ref p, .int c, .int n, .ref r] H Q E := by
  obtain ⟨dk, v1, v2, hp, _⟩ := W.O.ks i p hi
  exact ⟨p, A.t, S.ks i, c, n, r, u, v, rfl, W.O.ks i p hi, hr, fun w => absurd w (by omega), fun _ H' e1 e2 => q H' (W.toK hi e2 e1) (tup_kp hp ins_tup e2)⟩
theorem t_hear {k : Int} {n : Num} {i : Nat} {x : Addr × Addr × Addr} {r : Addr} (W : TwAt K CK CH CT H A T kn nh ns ps hs ms S) (hi : hs[i]? = some x) (hc : (S.hs i).clock ≤ c) (wf : WfH (S.hs i)) (hk : 0 ≤ k ∧ k < T.kn) (hr : H r = some (.tup [.int n.1, .int n.2]))
    (q : ∀ H', TwAt K CK CH CT H' A T kn nh ns ps hs ms (S.setH i (hHear T.len c k n (S.hs i))) → Tup2 H H' → Q .non H') : spHearH CH CT CB CN [.ref x.1, .int c, .int k, .ref r] H Q E :=
  ⟨x.1, A.t, (i : Int), x.2.1, x.2.2, S.hs i, T, c, k, r, n, rfl, W.O.hh i x hi, wf, W.O.hT, hr, fun w => absurd hk w, fun _ w => absurd w (by omega), fun _ _ H' e1 e2 => q H' (W.toH0 hi e2 e1) (tup_kp3 (W.O.hh i x hi) e2)⟩
theorem t_holds {i : Nat} {x : Addr × Addr × Addr} (W : TwAt K CK CH CT H A T kn nh ns ps hs ms S) (hi : hs[i]? = some x) (hc : (S.hs i).clock ≤ c) (wf : WfH (S.hs i))
    (q : ∀ H', TwAt K CK CH CT H' A T kn nh ns ps hs ms (S.setH i (hLook T.len c (S.hs i))) → Tup2 H H' → Q (.bl (hHolds T.most c (S.hs i))) H') : spHoldsH CH CT CB [.ref x.1, .int c] H Q E :=
  ⟨x.1, A.t, (i : Int), x.2.1, x.2.2, S.hs i, T, c, rfl, W.O.hh i x hi, wf, W.O.hT, fun w => absurd w (by omega), fun _ H' e1 e2 => q H' (W.toH0 hi e2 e1) (tup_kp3 (W.O.hh i x hi) e2)⟩
theorem t_until {i : Nat} {x : Addr × Addr × Addr} (W : TwAt K CK CH CT H A T kn nh ns ps hs ms S) (hi : hs[i]? = some x) (hc : (S.hs i).clock ≤ c) (wf : WfH (S.hs i))
    (q : ∀ v H', TwAt K CK CH CT H' A T kn nh ns ps hs ms (S.setH i (hLook T.len c (S.hs i))) → Tup2 H H' → UntilR T.most c (S.hs i) v → Q v H') : spUntilH CH CT CB [.ref x.1, .int c] H Q E :=
  ⟨x.1, A.t, (i : Int), x.2.1, x.2.2, S.hs i, T, c, rfl, W.O.hh i x hi, wf, W.O.hT, fun w => absurd w (by omega), fun _ v H' e1 e2 e3 => q v H' (W.toH0 hi e2 e1) (tup_kp3 (W.O.hh i x hi) e2) e3⟩
theorem t_ask {i : Nat} {x : Addr × Addr × Addr} (W : TwAt K CK CH CT H A T kn nh ns ps hs ms S) (hi : hs[i]? = some x) (hc : (S.hs i).clock ≤ c) (wf : WfH (S.hs i))
    (q : ∀ r H', H' r = some (.tup [.int (S.hs i).life, .int (S.hs i).many]) → TwAt K CK CH CT H' A T kn nh ns ps hs ms (S.setH i (hAsk T.len c (S.hs i))) → Tup2 H H' → Q (.ref r) H') : spAskH CH CT CB [.ref x.1, .int c] H Q E :=
  ⟨x.1, A.t, (i : Int), x.2.1, x.2.2, S.hs i, T, c, rfl, W.O.hh i x hi, wf, W.O.hT, fun w => absurd w (by omega), fun _ r H' e1 e2 _ e3 => q r H' e3 (W.toH0 hi e2 e1) (tup_kp3 (W.O.hh i x hi) e2)⟩
theorem t_free {i : Nat} {x : Addr × Addr × Addr} (W : TwAt K CK CH CT H A T kn nh ns ps hs ms S) (hi : hs[i]? = some x) (hc : (S.hs i).clock ≤ c) (wf : WfH (S.hs i)) (hm : (S.hs i).many ≠ 0)
    (q : ∀ r hs' H', H' r = some (.tup [.int (S.hs i).life, .int ((S.hs i).many - 1)]) → TwAt K CK CH CT H' A T kn nh ns ps hs' ms (S.setH i (hFree c (S.hs i))) → Tup2 H H' → Q (.ref r) H') : spFreeH CH CT CB CN [.ref x.1, .int c] H Q E :=
  ⟨x.1, A.t, (i : Int), x.2.1, x.2.2, S.hs i, T, c, rfl, W.O.hh i x hi, wf, W.O.hT, fun w => absurd w (by omega), fun _ w => absurd w hm, fun _ _ r da' dl' H' e1 e2 _ e4 e5 _ e3 => q r _ H' e3 (W.toH hi e2 e1 (.inr e4) (.inr e5)) (tup_kp3 (W.O.hh i x hi) e2)⟩
end
structure Dim (T : Tm) (kn nh : Nat) : Prop where
  ok : T.ok
  k : (kn : Int) = T.kn
  k5 : kn ≤ 5
  h5 : T.high ≤ 5
  l12 : T.len ≤ 12
  n2 : 2 ≤ nh
  n3 : nh ≤ 3
/-- the town, its invariant kept, at most d asks by each, at most b messages -/
def TwI (K : PySem.W.Frag) (CK CH CT : Addr) (H : Hp) (A : Adr) (T : Tm) (kn nh : Nat) (ns : List Int) (d : Int) (b : Nat) : Prop :=
  ∃ ps hs ms S o, TwAt K CK CH CT H A T kn nh ns ps hs ms S ∧ Inv10 T kn nh S o d ∧ S.bag.length ≤ b
def spTicks (K : PySem.W.Frag) : Sp := fun vs H Q _ => ∃ (a th cl : Addr) (ns : List Int) (k m : Int) (T : Tm) (n : Nat) (clk : Nat → Int), vs = [.ref a, .int k, .ref th, .ref cl, .int m] ∧ ScrM K H a (ns.map V.int) [cl] ∧ H th = some (.tup [.int T.low, .int T.high, .int T.len, .int T.kn]) ∧ T.ok ∧ T.high ≤ 5 ∧
  0 ≤ m ∧ m ≤ 1000 ∧ n ≤ 1000 ∧ H cl = some (.lst ((List.range n).map fun j => V.int (clk j))) ∧
  ∀ (H' : Hp) (clk' : Nat → Int), (∀ j, j < n → clk j + m * T.low ≤ clk' j ∧ clk' j ≤ clk j + m * T.high) → Kp cl H H' → H' cl = some (.lst ((List.range n).map fun j => V.int (clk' j))) → Q .non H'
def spToAll (K : PySem.W.Frag) (CK CH CT : Addr) : Sp := fun vs H Q _ => ∃ (A : Adr) (T : Tm) (kn nh : Nat) (ns : List Int) (ps : List Addr) (hs : List (Addr × Addr × Addr)) (ms : List Addr) (S : Town) (kd nm : Nat) (n : Num) (q : Addr),
  vs = [.ref A.tw, .str (kdS kd), .int (nm : Int), .ref q] ∧ TwAt K CK CH CT H A T kn nh ns ps hs ms S ∧ H q = some (.tup [.int n.1, .int n.2]) ∧ kn ≤ 5 ∧ S.bag.length ≤ 100000 ∧
  ∀ ms' H', TwAt K CK CH CT H' A T kn nh ns ps hs ms' (S.setB (S.bag ++ (List.range kn).map fun k => ⟨kd, k, nm, n⟩)) → Q .non H'
def spCome (K : PySem.W.Frag) (CK CH CT : Addr) : Sp := fun vs H Q _ => ∃ (A : Adr) (T : Tm) (kn nh : Nat) (ns : List Int) (ps : List Addr) (hs : List (Addr × Addr × Addr)) (ms : List Addr) (S : Town) (o : Nat → Nat) (d : Int) (b i : Nat) (m : Addr) (keep : Bool),
  vs = [.ref m, .ref A.tw, .bl keep] ∧ TwAt K CK CH CT H A T kn nh ns ps hs ms S ∧ Inv10 T kn nh S o d ∧ S.bag.length ≤ b ∧ Dim T kn nh ∧ d ≤ 1000 ∧ b ≤ 100000 ∧ ms[i]? = some m ∧ ∀ H', TwI K CK CH CT H' A T kn nh ns d (b + 1) → Q .non H'
def spAnew (K : PySem.W.Frag) (CK CH CT : Addr) : Sp := fun vs H Q _ => ∃ (A : Adr) (T : Tm) (kn nh : Nat) (ns : List Int) (d n : Int) (b : Nat),
  vs = [.ref A.tw, .ref A.t, .int n] ∧ TwI K CK CH CT H A T kn nh ns d b ∧ Dim T kn nh ∧ ∀ H', TwI K CK CH CT H' A T kn nh ns d b → Q .non H'
def spOne (K : PySem.W.Frag) (CK CH CT : Addr) : Sp := fun vs H Q _ => ∃ (A : Adr) (T : Tm) (kn nh : Nat) (ns : List Int) (d : Int) (b : Nat),
  vs = [.ref A.tw] ∧ TwI K CK CH CT H A T kn nh ns d b ∧ Dim T kn nh ∧ d ≤ 1000 ∧ ∀ H', TwI K CK CH CT H' A T kn nh ns d b → Tup2 H H' → Q (.bl true) H'
def spScene (K : PySem.W.Frag) (CK CH CT : Addr) : Sp := fun vs H Q _ => ∃ (A : Adr) (T : Tm) (kn nh : Nat) (ns : List Int) (d : Int) (b : Nat),
  vs = [.ref A.a, .ref A.tw, .ref A.th, .ref A.t] ∧ TwI K CK CH CT H A T kn nh ns d b ∧ Dim T kn nh ∧ d ≤ 900 ∧ ∀ H', TwI K CK CH CT H' A T kn nh ns (d + 2) b → Q (.bl true) H'
/-! lists by a range -/
theorem rg_get {f : Nat → V} {n j : Nat} (h : j < n) : atI ((List.range n).map f) (j : Int) = some (f j) := atI_nat (by rw [List.getElem?_map, List.getElem?_range h]; rfl)
theorem rg_set {f : Nat → V} {n j : Nat} {v : V} : ((List.range n).map f).set j v = (List.range n).map fun i => if i = j then v else f i := by
  apply List.ext_getElem?
  intro i
  rw [List.getElem?_set, List.length_map, List.length_range, List.getElem?_map, List.getElem?_map]
  by_cases e : j = i
  · subst e
    rw [if_pos rfl]
    by_cases h : j < n
    · rw [if_pos h, List.getElem?_range h]
      show some v = some (if j = j then v else f j)
      rw [if_pos rfl]
    · rw [if_neg h, List.getElem?_eq_none (by rw [List.length_range]; omega)]
      rfl
  · rw [if_neg e]
    by_cases h : i < n
    · rw [List.getElem?_range h]
      show some (f i) = some (if i = j then v else f i)
      rw [if_neg (fun z => e z.symm)]
    · rw [List.getElem?_eq_none (by rw [List.length_range]; omega)]
      rfl
theorem rg_len {f : Nat → V} {n : Nat} : ((List.range n).map f).length = n := by rw [List.length_map, List.length_range]
theorem ps_get {ps : List Addr} {i : Nat} {p : Addr} (h : ps[i]? = some p) : atI (ps.map V.ref) (i : Int) = some (.ref p) := atI_nat (by rw [List.getElem?_map, h]; rfl)
theorem hs_get {hs : List (Addr × Addr × Addr)} {i : Nat} {x : Addr × Addr × Addr} (h : hs[i]? = some x) : atI (hs.map fun x => V.ref x.1) (i : Int) = some (.ref x.1) := atI_nat (by rw [List.getElem?_map, h]; rfl)
end Lh

set_option Elab.async false
set_option linter.all false
set_option maxRecDepth 100000
set_option maxHeartbeats 4000000
namespace Lh
open PySem PySem.Spec PyProof.Rows L2
theorem ixn {n j : Nat} (hj : j < n) : ixN n (j : Int) = some j := by
  unfold ixN
  rw [if_pos (by omega), if_pos (by omega)]
  simp
theorem ps_len {ps : List Addr} : (ps.map V.ref).length = ps.length := List.length_map _
theorem hs_len {hs : List (Addr × Addr × Addr)} : (hs.map fun x => V.ref x.1).length = hs.length := List.length_map _
/-! messages as data -/
def msgD (b : Msg) : PyData := .tuple [.str (kdS b.kd), .int (b.k : Int), .int (b.nm : Int), .tuple [.int b.n.1, .int b.n.2]]
theorem kdS_ok : ∀ k, PyData.strOk (kdS k) = true
  | 0 => by show PyData.strOk "ask" = true; decide +kernel
  | 1 => by show PyData.strOk "let" = true; decide +kernel
  | _ + 2 => by show PyData.strOk "free" = true; decide +kernel
theorem msgD_lay (b : Msg) : (msgD b).canLay0 = true := by simp [msgD, PyData.canLay0, PyData.canLayAll0, kdS_ok]
theorem msgD_depth (b : Msg) : (msgD b).depth = 2 := by simp [msgD, PyData.depth, PyData.depthAll]
theorem msgDs_lay : ∀ zs : List Msg, PyData.canLayAll0 (zs.map msgD) = true
  | [] => by simp [PyData.canLayAll0]
  | z :: zs => by simp [PyData.canLayAll0, msgD_lay z, msgDs_lay zs]
theorem msgDs_depth : ∀ zs : List Msg, PyData.depthAll (zs.map msgD) ≤ 2
  | [] => by simp [PyData.depthAll]
  | z :: zs => by
    have h1 := msgDs_depth zs
    have h2 := msgD_depth z
    simp only [List.map_cons, PyData.depthAll]
    omega
theorem msgD_shaped (z : Msg) : SeqAt.shaped (msgD z) = true := by
  have h := msgD_depth z
  show ((msgD z).canLay0 && decide ((msgD z).depth ≤ 64)) = true
  rw [Bool.and_eq_true]
  exact ⟨msgD_lay z, decide_eq_true (by omega)⟩
theorem msgDs_shaped (zs : List Msg) : SeqAt.shaped (.list (zs.map msgD)) = true := by
  have h1 := msgDs_depth zs
  have h2 : PyData.depth (.list (zs.map msgD)) ≤ 64 := by
    simp only [PyData.depth]
    omega
  show (PyData.canLay0 (.list (zs.map msgD)) && decide (PyData.depth (.list (zs.map msgD)) ≤ 64)) = true
  rw [Bool.and_eq_true]
  exact ⟨by simp only [PyData.canLay0]; exact msgDs_lay zs, decide_eq_true h2⟩
theorem msgD_eqv (z : Msg) : PyData.eqv (msgD z) (msgD z) = true := by simp [msgD, PyData.eqv, PyData.eqvAll]
theorem msg_dp {K : PySem.W.Frag} {H : Hp} {m : Addr} {b : Msg} : MsgAt H m b → Dp K H (.ref m) (msgD b) := fun ⟨q, h1, h2⟩ =>
  .tup (sq_t h1) (.cons (.str _) (.cons (.int _) (.cons (.int _) (.cons (.tup (sq_t h2) (.cons (.int _) (.cons (.int _) .nil))) .nil))))
theorem msgs_dp {K : PySem.W.Frag} {H : Hp} : ∀ {ms : List Addr} {bs : List Msg}, ms.length = bs.length → (∀ (i : Nat) (m : Addr) (b : Msg), ms[i]? = some m → bs[i]? = some b → MsgAt H m b) → DpAll K H (ms.map V.ref) (bs.map msgD)
  | [], [], _, _ => .nil
  | m :: ms, b :: bs, hl, h => .cons (msg_dp (h 0 m b rfl rfl)) (msgs_dp (by simpa using hl) fun i m' b' e1 e2 => h (i + 1) m' b' e1 e2)
  | [], _ :: _, hl, _ => by cases hl
  | _ :: _, [], hl, _ => by cases hl
section
variable {K : PySem.W.Frag} {CK CH CT : Addr} {H : Hp} {A : Adr} {T : Tm} {kn nh : Nat} {ns : List Int} {ps : List Addr} {hs : List (Addr × Addr × Addr)} {ms : List Addr} {S : Town} {Q : VK} {o : Nat → Nat} {d : Int}
theorem t_remove {i : Nat} {m : Addr} (W : TwAt K CK CH CT H A T kn nh ns ps hs ms S) (hm : ms[i]? = some m) (q : ∀ j, j < ms.length → Q .non (upd H A.bg (.lst ((ms.map V.ref).eraseIdx j)))) : rRemD K (.ref A.bg) [.ref m] H Q := by
  have hi := (List.getElem?_eq_some_iff.mp hm).1
  have hml := W.O.ml
  obtain ⟨b, hb⟩ : ∃ b, S.bag[i]? = some b := ⟨_, List.getElem?_eq_getElem (by omega)⟩
  exact rd_remD W.L.bg (msgs_dp hml W.O.mm) (msg_dp (W.O.mm i m b hm hb)) (msgDs_shaped _) (msgD_shaped b) ⟨msgD b, List.mem_map.mpr ⟨b, List.mem_of_getElem? hb, rfl⟩, msgD_eqv b⟩ fun j hj => q j (by rw [ps_len] at hj; exact hj)
theorem t_fin {b : Nat} {j : Nat} (W : TwAt K CK CH CT H A T kn nh ns ps hs ms S) (I : Inv10 T kn nh S o d) (hb : S.bag.length ≤ b) (hj : j < ms.length) : TwI K CK CH CT (upd H A.bg (.lst ((ms.map V.ref).eraseIdx j))) A T kn nh ns d b :=
  ⟨ps, hs, ms.eraseIdx j, S.setB (S.bag.eraseIdx j), o, W.delB hj, I.setB fun m hm => .inl (List.mem_of_mem_eraseIdx hm), by
    have := List.length_eraseIdx_le S.bag j
    show (S.bag.eraseIdx j).length ≤ b
    omega⟩
end
theorem Tm.wait1 {T : Tm} (h : T.ok) : 1 ≤ T.wait := by
  have h1 := (Tm.ticks_ok h).2.2
  obtain ⟨⟨z1, z2, z3⟩, _⟩ := h
  unfold Tm.wait
  have h2 : 0 < T.high * T.ticks := Int.mul_pos (by omega) (by omega)
  omega
theorem Tm.wait_le {T : Tm} (h : T.ok) (h5 : T.high ≤ 5) (hl : T.len ≤ 12) : T.wait ≤ 60 := by
  obtain ⟨⟨z1, z2, z3⟩, ⟨z4, z5⟩, _⟩ := id h
  obtain ⟨t1, t2, t3⟩ := Tm.ticks_ok h
  have h1 : T.ticks ≤ 12 := by
    by_cases e : T.ticks ≤ 12
    · exact e
    · have h2 : 12 * T.low ≤ (T.ticks - 1) * T.low := Int.mul_le_mul_of_nonneg_right (by omega) (by omega)
      omega
  unfold Tm.wait
  have h2 : T.high * T.ticks ≤ 5 * T.ticks := Int.mul_le_mul_of_nonneg_right h5 (by omega)
  omega
theorem hHear_lm {len c k : Int} {n : Num} {s : HSt} : (hHear len c k n s).life = s.life ∧ (hHear len c k n s).many = s.many := by
  unfold hHear
  split <;> exact ⟨rfl, rfl⟩
theorem ScrM.one {K : PySem.W.Frag} {H : Hp} {a b : Addr} {xs : List V} {l : List Addr} (h : ScrM K H a xs l) (hb : b ∈ l) : ScrM K H a xs [b] := h.to (fun c hc => by rw [List.mem_singleton.mp hc]; exact hb) fun _ _ e _ => e
theorem Tup2.trans {H H1 H2 : Hp} (a : Tup2 H H1) (b : Tup2 H1 H2) : Tup2 H H2 := fun q xs e => b q xs (a q xs e)
theorem Same.tup2 {H H' : Hp} (s : Same H H') : Tup2 H H' := fun q xs e => s q _ e
theorem kp_tup2 {H H' : Hp} {p : Addr} {o : HO} (hp : H p = some o) (ho : ∀ xs, o ≠ .tup xs) (k : Kp p H H') : Tup2 H H' := tup_kp hp ho k
theorem lst_tup {xs : List V} : ∀ ys, HO.lst xs ≠ .tup ys := fun _ z => by cases z
theorem setK_bag {S : Town} {k : Nat} {st : KSt} : (S.setK k st).bag = S.bag := rfl
theorem setH_bag {S : Town} {k : Nat} {st : HSt} : (S.setH k st).bag = S.bag := rfl
end Lh

set_option Elab.async false
set_option linter.all false
set_option maxRecDepth 100000
set_option maxHeartbeats 4000000
namespace Lh
open PySem PySem.Spec PyProof.Rows L2
/-! ### k10: the law's own def -/
theorem rg_snoc {f : Nat → V} {i : Nat} {v : V} : ((List.range i).map f) ++ [v] = (List.range (i + 1)).map fun j => if j = i then v else f j := by
  rw [List.range_succ, List.map_append]
  congr 1
  · apply List.map_congr_left
    intro j hj
    have := List.mem_range.mp hj
    rw [if_neg (by omega)]
  · show [v] = [if i = i then v else f i]
    rw [if_pos rfl]
theorem Inv10.init {T : Tm} {kn nh : Nat} {c : Nat → Int} : Inv10 T kn nh ⟨c, fun j => ⟨c j, c j + T.wait, none⟩, fun h => ⟨0, c (kn + h), 0, [], []⟩, [], 0⟩ (fun _ => 0) 0 :=
  ⟨fun k _ => Int.le_refl _, fun k _ nm x y e => (by cases e), fun m hm => (by cases hm), fun h _ k e he => (by cases he), fun h _ => ⟨Int.le_refl _, List.nodup_nil, List.nodup_nil, Int.le_refl _, Int.le_refl _, Int.le_refl _, fun x hx => (by cases hx), fun x hx => (by cases hx)⟩, fun h _ => Int.le_refl _⟩
section
variable {σ : L2.St} {H : Hp} {rt : VK} {bk ct : L2.St → Hp → Prop} {s1 s2 : TS} {t : TT} {D : Ends} {N : L2.St → Hp → Prop}
/-- what follows, shown once, for all ways that come to it -/
theorem cut_nx (P : L2.St → Hp → Prop) (k : ∀ σ' H', P σ' H' → N σ' H') (h : ∀ N' : L2.St → Hp → Prop, (∀ σ' H', P σ' H' → N' σ' H') → s1 ⟨N', rt, bk, ct⟩ σ H) : s1 ⟨N, rt, bk, ct⟩ σ H := h N k
theorem cut_else (P : Hp → Prop) (k : ∀ H', P H' → s2 D σ H') (h : ∀ s' : TS, (∀ H', P H' → s' D σ H') → tIfS t s1 s' D σ H) : tIfS t s1 s2 D σ H := h s2 k
end
theorem kp_still {H H' : Hp} {p : Addr} {kvs : List (Key × V)} (h : H p = some (.dK kvs)) (k : Kp p H H') : (∀ b xs, H b = some (.lst xs) → H' b = some (.lst xs)) ∧ Tup2 H H' ∧ ∀ b C dx fs, H b = some (.ins C dx fs) → H' b = some (.ins C dx fs) :=
  ⟨fun b xs e => k _ _ (ne_of e h (by intro z; cases z)) e, fun b xs e => k _ _ (ne_of e h (by intro z; cases z)) e, fun b C dx fs e => k _ _ (ne_of e h (by intro z; cases z)) e⟩
theorem nd_map_snoc {α β : Type} {f : α → β} {l : List α} {x : α} [DecidableEq β] (nd : (l.map f).Nodup) (h : ∀ y ∈ l, f y ≠ f x) : ((l ++ [x]).map f).Nodup := by
  rw [List.map_append, List.nodup_append]
  refine ⟨nd, by simp, fun a ha b hb e => ?_⟩
  obtain ⟨y, hy, rfl⟩ := List.mem_map.mp ha
  have hb : b = f x := List.mem_singleton.mp hb
  exact h y hy (e.trans hb)
theorem HAt.kpl {C h t da dl l : Addr} {nm : Int} {s : HSt} {H H' : Hp} {xs : List V} (e : H l = some (.lst xs)) (k : Kp l H H') : HAt C H h t nm da dl s → HAt C H' h t nm da dl s := fun ⟨⟨dx, a⟩, b, c⟩ =>
  ⟨⟨dx, k _ _ (ne_of a e (by intro z; cases z)) a⟩, k _ _ (ne_of b e (by intro z; cases z)) b, k _ _ (ne_of c e (by intro z; cases z)) c⟩
theorem HAt.kpd {C h t da dl l : Addr} {nm : Int} {s : HSt} {H H' : Hp} {kvs : List (Key × V)} (e : H l = some (.dK kvs)) (hn : dl ≠ l) (k : Kp l H H') : HAt C H h t nm da dl s → HAt C H' h t nm da dl s := fun ⟨⟨dx, a⟩, b, c⟩ =>
  ⟨⟨dx, k _ _ (ne_of a e (by intro z; cases z)) a⟩, k _ _ (ne_of b e (by intro z; cases z)) b, k _ _ hn c⟩
theorem KAt.kpd {C p t l : Addr} {st : KSt} {H H' : Hp} {kvs : List (Key × V)} (e : H l = some (.dK kvs)) (k : Kp l H H') : KAt C H p t st → KAt C H' p t st := fun z => by
  obtain ⟨dx, nm, nu, h, o⟩ := z
  exact ⟨dx, nm, nu, k _ _ (ne_of h e (by intro z; cases z)) h, o.to (kp_still e k).2.1⟩
theorem Inv10.addAll {T : Tm} {kn nh : Nat} {S : Town} {o : Nat → Nat} {d : Int} {kd h : Nat} {n : Num} (I : Inv10 T kn nh S o d) (hh : h < nh) (hk : kd = 0 ∨ kd = 2) (lt : nlt n ((S.hs h).life, (S.hs h).many)) (hc : kd = 2 → ∀ x ∈ (S.hs h).asks, nlt n x.1) :
    Inv10 T kn nh (S.setB (S.bag ++ (List.range kn).map fun k => ⟨kd, k, h, n⟩)) o d := by
  refine I.setB fun m hm => ?_
  rcases List.mem_append.mp hm with z | z
  · exact .inl z
  · obtain ⟨k, hk2, rfl⟩ := List.mem_map.mp z
    exact .inr ⟨by dsimp only; omega, List.mem_range.mp hk2, hh, lt, fun w => absurd w (by dsimp only; omega), hc⟩
theorem addAll_len {b : List Msg} {kn kd h : Nat} {n : Num} : (b ++ (List.range kn).map fun k => (⟨kd, k, h, n⟩ : Msg)).length = b.length + kn := by rw [List.length_append, List.length_map, List.length_range]
theorem rd_bagix {K : PySem.W.Frag} {H : Hp} {Q : VK} {b : Addr} {ms : List Addr} {q l : Int} (hb : H b = some (.lst (ms.map V.ref))) (h0 : 0 < l) (h1 : l ≤ ((ms.map V.ref).length : Int)) (k : ∀ (j : Nat) (m : Addr), ms[j]? = some m → Q (.ref m) H) : rIxL K (.ref b) (.int (((ms.map V.ref).length : Int) - 1 - q.fmod l)) H Q := by
  have f1 := Int.fmod_nonneg_of_pos q h0
  have f2 := Int.fmod_lt_of_pos q h0
  have hl : (ms.map V.ref).length = ms.length := List.length_map _
  obtain ⟨j, hj⟩ : ∃ j : Nat, ((ms.map V.ref).length : Int) - 1 - q.fmod l = (j : Int) := ⟨(((ms.map V.ref).length : Int) - 1 - q.fmod l).toNat, by omega⟩
  obtain ⟨m, hm⟩ : ∃ m, ms[j]? = some m := ⟨_, List.getElem?_eq_getElem (by omega)⟩
  rw [hj]
  exact rd_ixL (v := .ref m) (sq_l hb) (ps_get hm) (k j m hm)
theorem TwI.up {K : PySem.W.Frag} {CK CH CT : Addr} {H : Hp} {A : Adr} {T : Tm} {kn nh : Nat} {ns : List Int} {d d' : Int} {b b' : Nat} (h : TwI K CK CH CT H A T kn nh ns d b) (hd : d ≤ d') (hb : b ≤ b') : TwI K CK CH CT H A T kn nh ns d' b' := by
  obtain ⟨ps, hs, ms, S, o, W, I, hl⟩ := h
  exact ⟨ps, hs, ms, S, o, W, I.up hd, Nat.le_trans hl hb⟩
end Lh

open PySem L2
set_option Elab.async false
set_option linter.all false
set_option maxRecDepth 100000
set_option maxHeartbeats 4000000
local macro_rules | `(tactic| walk_at "ne") => `(tactic| first
  | assumption
  | (apply Lh.ne_symm'; assumption)
  | (apply Lh.ne_n1 <;> assumption)
  | (apply Lh.ne_n2 <;> assumption)
  | fail "ne")
local macro_rules | `(tactic| walk_at "hp") => `(tactic| first
  | assumption
  | exact upd_same
  | (apply Lh.hp_ne; (case hne => walk_at "ne"); (case hh => walk_at "hp"))
  | (apply Lh.hp_same; (case hs => assumption); (case hh => walk_at "hp"))
  | fail "hp")
local macro_rules | `(tactic| walk_at "sq") => `(tactic| first
  | assumption
  | (apply Lh.sq_l; walk_at "hp")
  | (apply Lh.sq_t; walk_at "hp")
  | (apply Lh.sq_s; (case hs => assumption); (case hh => walk_at "sq"))
  | fail "sq")
local macro_rules | `(tactic| walk_at "fk") => `(tactic| ((with_reducible apply Lh.fldk); (case h => walk_at "hp"); (case c => assumption); (case n => assumption); (case l => first | rfl | kernel_rfl)))
local macro_rules | `(tactic| walk_at "mk") => `(tactic| ((with_reducible apply Lh.mthk); (case h => walk_at "hp"); (case l => first | rfl | kernel_rfl)))
local macro_rules | `(tactic| walk_at "sfk") => `(tactic| ((with_reducible apply Lh.sfldk); (case h => walk_at "hp"); (case c => assumption); (case na => assumption); (case l => exact Nat.le_of_ble_eq_true rfl); (case e => first | rfl | kernel_rfl)))
local macro_rules | `(tactic| walk_at "rd1") => `(tactic| with_reducible first
  | apply Lh.rd_seq
  | apply Lh.rd_asg
  | apply Lh.rd_asgG
  | apply Lh.rd_gsub
  | apply Lh.rd_ret
  | apply Lh.rd_retN
  | apply Lh.rd_ifS
  | apply Lh.rd_sfld
  | apply Lh.rd_next
  | apply Lh.rd_drop
  | apply Lh.rd_op
  | apply Lh.rd_un
  | apply Lh.rd_I0
  | apply Lh.rd_U
  | apply Lh.rd_fld
  | apply Lh.rd_test
  | apply Lh.rd_B
  | apply Lh.rd_and
  | apply Lh.rd_or
  | apply Lh.rd_not
  | apply Lh.rd_andV
  | apply Lh.rd_orV
  | apply Lh.rd_notV
  | apply Lh.rd_ifE
  | apply Lh.rd_chain
  | apply Lh.rd_chain3
  | apply Lh.rd_meth0
  | apply Lh.rd_methS
  | apply Lh.rd_call0
  | apply Lh.rd_callS
  | apply Lh.rd_make0
  | apply Lh.rd_makeS
  | apply Lh.rd_cb
  | apply Lh.rd_nil
  | apply Lh.rd_cons
  | apply Lh.rd_tup'
  | apply Lh.rd_lst'
  | apply Lh.rd_truth
  | apply Lh.rd_din
  | apply Lh.rd_dput
  | apply Lh.rd_dget'
  | apply Lh.rd_ilist
  | apply Lh.rd_itup
  | apply Lh.rd_dget2
  | apply Lh.rd_keys
  | apply Lh.rd_ckw
  | apply Lh.rd_for
  | apply Lh.rd_rng1
  | apply Lh.rd_gname
  | apply Lh.rd_bm
  | apply Lh.rd_bm0
  | apply Lh.rd_pn
  | apply Lh.rd_pc
  | apply Lh.whb
  | apply Lh.rd_intBf
  | apply Lh.rd_intBt
  | apply Lh.rd_max2
  | apply Lh.rd_min2
  | apply Lh.rd_eqI
  | apply Lh.rd_neI
  | apply Lh.rd_eqNI
  | apply Lh.rd_eqIN
  | apply Lh.rd_neNI
  | apply Lh.rd_neIN
  | apply Lh.rd_eqB
  | apply Lh.rd_neB
  | apply Lh.rd_isnoR
  | apply Lh.rd_notnoR
  | apply Lh.rd_isnoN
  | apply Lh.rd_notnoN
  | apply Lh.rd_isnoI
  | apply Lh.rd_notnoI
  | apply Lh.isb
  | apply Lh.bif_t
  | apply Lh.bif_f
  | apply Lh.bif_n
  | apply Lh.rd_c
  | fail "rd1")
local macro_rules | `(tactic| walk_at "rd2") => `(tactic| first
  | walk_at "rd1"
  | ((with_reducible apply Lh.rd_var); (case h => rfl))
  | ((with_reducible apply Lh.rd_eq); (case h => rfl))
  | ((with_reducible apply Lh.rd_ne); (case h => rfl))
  | ((with_reducible apply Lh.rd_I); (case c => first | (exact (by decide)) | exact Or.inr ⟨by decide, by decide⟩ | exact Or.inl ⟨by decide, by decide⟩ | (show (_ : Int) < _; decide) | exact ⟨by decide, by decide⟩))
  | ((with_reducible refine Lh.bif_d (fun _ => ?_) (fun _ => ?_)) <;> try (exfalso; omega))
  | ((with_reducible refine Lh.bif_nd (fun _ => ?_) (fun _ => ?_)) <;> try (exfalso; omega))
  | ((with_reducible refine Lh.bif_lt (fun _ => ?_) (fun _ => ?_)) <;> try (exfalso; omega))
  | ((with_reducible refine Lh.bif_geP (fun _ => ?_) (fun _ => ?_)) <;> try (exfalso; omega))
  | ((with_reducible refine Lh.bif_eqP (fun _ => ?_) (fun _ => ?_)) <;> try (exfalso; omega))
  | ((with_reducible refine Lh.bif_neP (fun _ => ?_) (fun _ => ?_)) <;> try (exfalso; omega))
  | ((with_reducible apply Lh.rd_pair); (case h1 => walk_at "hp"); (case h2 => walk_at "hp"))
  | ((with_reducible apply Lh.rd_ixT); (case h => walk_at "sq"); (case e => rfl))
  | ((with_reducible apply Lh.dgs); (case h => walk_at "hp"); (case e => first | rfl | kernel_rfl))
  | ((with_reducible apply Lh.rd_intB'); intro _ _ _ _)
  | ((with_reducible apply Lh.tyk_dK); (case h => walk_at "hp"))
  | ((with_reducible apply Lh.tyk_dT); (case h => walk_at "hp"))
  | ((with_reducible apply Lh.isdk_dK); (case h => walk_at "hp"))
  | ((with_reducible apply Lh.tyk_l); (case h => walk_at "sq"))
  | walk_at "fk"
  | walk_at "sfk"
  | walk_at "mk"
  | ((with_reducible apply Lh.rd_len); (case h => walk_at "sq"))
  | ((with_reducible apply Lh.spT0_at); (case ok => assumption); (case h => walk_at "hp"))
  | ((with_reducible apply Lh.trul); (case h => walk_at "sq"))
  | fail "rd2")
local macro_rules | `(tactic| walk_at "rd") => `(tactic| repeat' (walk_at "rd2"))
local macro_rules | `(tactic| walk_at "kp") => `(tactic| (intro _ _ hb e; simp only [upd_ne hb]; exact e))
local macro_rules | `(tactic| walk_at "sm") => `(tactic| (intro _ _ _; walk_at "hp"))
local macro_rules | `(tactic| walk_at "fr") => `(tactic| first
  | assumption
  | ((apply Lh.same_none); (case hh => assumption); (case hs => walk_at "sm"))
  | fail "fr")
local macro_rules | `(tactic| walk_at "ln") => `(tactic| (constructor; (first | omega | (simp only [List.length_cons, List.length_nil]; omega)); (simp only [List.length_cons, List.length_nil]; omega)))
local macro_rules | `(tactic| walk_at "rdm2") => `(tactic| first
  | walk_at "rd2"
  | ((with_reducible apply Lh.spMix_use); (case h => walk_at "sq"); intro _ _ _)
  | ((with_reducible apply Lh.newl_s); (case h => exact Nat.le_of_ble_eq_true rfl); intro _ _ _ _ _)
  | ((with_reducible apply Lh.newt_s); (case h => exact Nat.le_of_ble_eq_true rfl); intro _ _ _ _ _)
  | ((with_reducible apply Lh.rd_menu); (case h => walk_at "sq"); (case hi => walk_at "ln"); (case hx => rfl); intro _ _)
  | ((with_reducible apply Lh.rd_isX); (case k => first | exact .own _ | exact .ty _); (case h => walk_at "hp"); (case ec => assumption); (case e => first | exact Lh.kit_self | assumption))
  | ((with_reducible apply Lh.rd_cnt3); (case h => walk_at "sq"); (case e => rfl))
  | ((with_reducible apply Lh.rd_ix0); (case h => walk_at "sq"))
  | ((with_reducible apply Lh.rd_ix1); (case h => walk_at "sq"))
  | ((with_reducible apply Lh.rd_ix2); (case h => walk_at "sq"))
  | ((with_reducible apply Lh.rd_ixL); (case h => walk_at "sq"); (case e => rfl))
  | fail "rdm2")
local macro_rules | `(tactic| walk_at "rdm") => `(tactic| repeat' (walk_at "rdm2"))
namespace Lh
open PySem PySem.Spec PyProof.Rows L2
/-! ### the text by places -/
def top (i : Nat) : Stmt := PySem.Challenge.pw_leasehold_k10_whole_never_two.main.body.getD i (.Pass ⟨0, 0, 0, 0⟩)
section
variable {P : Program} {w : World} {K : PySem.W.Frag} {mg : Str → Option Value} {base : Heap} {C_Terms C_BadTerms : Addr}
abbrev s_Terms_init : Stmt := inClass (top 15) 0
abbrev N_Terms_init : List Str := ["self", "low", "high", "length", "keepers"]
theorem sc_Terms_init : FnScope ["self", "low", "high", "length", "keepers"] ["self", "low", "high", "length", "keepers"] (defScope s_Terms_init) := ⟨rfl, rfl, rfl, by decide +kernel, rfl, by decide +kernel, by decide +kernel⟩
theorem ok_Terms_init {f : Addr} {fd : FuncData} (F : Fun K "__init__" "Terms.__init__" s_Terms_init f fd) (T : TTxt K C_Terms) (X_BadTerms : ExT K mg "BadTerms" C_BadTerms)
    (g_MOST_STEP : ∃ t, mg "MOST_STEP" = some (.int 1000 t)) (g_MOST_LENGTH : ∃ t, mg "MOST_LENGTH" = some (.int 1000000 t)) (g_MOST_KEEPERS : ∃ t, mg "MOST_KEEPERS" = some (.int 9 t)) :
    FnOk P w K mg base (L2.CX P w) 1 f fd ["self", "low", "high", "length", "keepers"] (spTI C_Terms C_BadTerms) := by
  refine F.okX sc_Terms_init (fun vs H Q E h => ?_) (fun cdv A outer s H vs Q E hr h => ?_)
  · obtain ⟨x, dx, T, rfl, _⟩ := h
    rfl
  · obtain ⟨x, dx, Tv, rfl, hx, q, qe⟩ := h
    obtain ⟨c, n1, n2, n3, n4⟩ := T
    obtain ⟨t1, g_MOST_STEP⟩ := g_MOST_STEP
    obtain ⟨t2, g_MOST_LENGTH⟩ := g_MOST_LENGTH
    obtain ⟨t3, g_MOST_KEEPERS⟩ := g_MOST_KEEPERS
    obtain ⟨g_BadTerms, k_BadTerms, x_BadTerms, sb_BadTerms, ty_BadTerms, ec_BadTerms⟩ := X_BadTerms
    refine ⟨_, (pss_cons (ps_if (PW.pt (pw_or (pt_not (pt_chain3 op_le op_le op_le pe_int (pv 1) (pv 2) (pe_glob (v := .int 1000) (by rfl) g_MOST_STEP ⟨_, rfl⟩))) (pw_or (pt_not (pt_chain op_le op_le pe_int (pv 3) (pe_glob (v := .int 1000000) (by rfl) g_MOST_LENGTH ⟨_, rfl⟩))) (pw_or1 (pt_not (pt_chain op_le op_le pe_int (pv 4) (pe_glob (v := .int 9) (by rfl) g_MOST_KEEPERS ⟨_, rfl⟩)))))))
    (pss_one (ps_raise rfl (takes_of rfl rfl rfl rfl) (pmk_own PySem.F.excBase_ValueError x_BadTerms g_BadTerms k_BadTerms (raises_own sb_BadTerms ty_BadTerms) rfl)))
    pss_nil)
    (pss_cons (ps_fld (pv 0) (pv 1) rfl)
    (pss_cons (ps_fld (pv 0) (pv 2) rfl)
    (pss_cons (ps_fld (pv 0) (pv 3) rfl)
    (pss_one (ps_fld (pv 0) (pv 4) rfl)))))), ?_⟩
    walk_at "rd"
    all_goals first
      | (refine qe ?_; intro z; obtain ⟨⟨z1, z2, z3⟩, ⟨z4, z5⟩, z6, z7⟩ := z; omega)
      | (refine q ?_ _ ⟨?_, dx, ?_⟩ ?_
         · refine ⟨⟨?_, ?_, ?_⟩, ⟨?_, ?_⟩, ?_, ?_⟩ <;> omega
         · refine ⟨⟨?_, ?_, ?_⟩, ⟨?_, ?_⟩, ?_, ?_⟩ <;> omega
         · exact upd_same
         · exact ((kp_upd.trans kp_upd).trans kp_upd).trans kp_upd)
abbrev s_Terms_ticks : Stmt := inClass (top 15) 1
abbrev N_Terms_ticks : List Str := ["self"]
theorem sc_Terms_ticks : FnScope ["self"] ["self"] (defScope s_Terms_ticks) := ⟨rfl, rfl, rfl, by decide +kernel, rfl, by decide +kernel, by decide +kernel⟩
theorem ok_Terms_ticks {f : Addr} {fd : FuncData} (F : Fun K "ticks" "Terms.ticks" s_Terms_ticks f fd) (T : TTxt K C_Terms) : FnOk P w K mg base CX0 1 f fd ["self"] (spT0 C_Terms Tm.ticks) := by
  refine F.ok sc_Terms_ticks (fun vs H Q E h => ?_) (fun cdv A outer s H vs Q E hr h => ?_)
  · obtain ⟨t, T, rfl, _⟩ := h
    rfl
  · obtain ⟨t, Tv, rfl, ⟨hT, dx, ht⟩, q⟩ := h
    obtain ⟨c, n1, n2, n3, n4⟩ := T
    refine ⟨_, (pss_one (ps_ret (pe_op op_fdivN (pe_op op_sub (pe_op op_add (pe_fld (pv 0) rfl) (pe_fld (pv 0) rfl)) pe_int) (pe_fld (pv 0) rfl)))), ?_⟩
    walk_at "rd"
    obtain ⟨⟨z1, z2, z3⟩, ⟨z4, z5⟩, z6, z7⟩ := hT
    refine rd_I ⟨by omega, by omega⟩ ?_
    rw [Int.fdiv_eq_ediv_of_nonneg _ (by omega)]
    exact q
abbrev s_Terms_wait : Stmt := inClass (top 15) 2
abbrev N_Terms_wait : List Str := ["self"]
theorem sc_Terms_wait : FnScope ["self"] ["self"] (defScope s_Terms_wait) := ⟨rfl, rfl, rfl, by decide +kernel, rfl, by decide +kernel, by decide +kernel⟩
theorem ok_Terms_wait {f : Addr} {fd : FuncData} (F : Fun K "wait" "Terms.wait" s_Terms_wait f fd) (T : TTxt K C_Terms) (D_Terms_ticks : MtB P w K mg base CX0 1 C_Terms "ticks" ["self"] (spT0 C_Terms Tm.ticks)) :
    FnOk P w K mg base CX0 2 f fd ["self"] (spT0 C_Terms Tm.wait) := by
  refine F.ok sc_Terms_wait (fun vs H Q E h => ?_) (fun cdv A outer s H vs Q E hr h => ?_)
  · obtain ⟨t, T, rfl, _⟩ := h
    rfl
  · obtain ⟨t, Tv, rfl, hT, q⟩ := h
    obtain ⟨c_Terms, n1, n2, n3, n4⟩ := T
    obtain ⟨ho, dx, ht⟩ := id hT
    obtain ⟨f_Terms_ticks, fd_Terms_ticks, G_Terms_ticks, M_Terms_ticks, b_Terms_ticks⟩ := D_Terms_ticks
    refine ⟨_, (pss_one (ps_ret (pe_op op_mul (pe_fld (pv 0) rfl) (pe_meth0 (pv 0) c_Terms M_Terms_ticks G_Terms_ticks (hr.mono (by decide)) b_Terms_ticks .nil pass0)))), ?_⟩
    walk_at "rd"
    obtain ⟨⟨z1, z2, z3⟩, ⟨z4, z5⟩, z6, z7⟩ := ho
    exact rd_I (.inl ⟨by omega, by omega⟩) q
abbrev s_Terms_most : Stmt := inClass (top 15) 3
abbrev N_Terms_most : List Str := ["self"]
theorem sc_Terms_most : FnScope ["self"] ["self"] (defScope s_Terms_most) := ⟨rfl, rfl, rfl, by decide +kernel, rfl, by decide +kernel, by decide +kernel⟩
theorem ok_Terms_most {f : Addr} {fd : FuncData} (F : Fun K "most" "Terms.most" s_Terms_most f fd) (T : TTxt K C_Terms) : FnOk P w K mg base CX0 1 f fd ["self"] (spT0 C_Terms Tm.most) := by
  refine F.ok sc_Terms_most (fun vs H Q E h => ?_) (fun cdv A outer s H vs Q E hr h => ?_)
  · obtain ⟨t, T, rfl, _⟩ := h
    rfl
  · obtain ⟨t, Tv, rfl, ⟨hT, dx, ht⟩, q⟩ := h
    obtain ⟨c, n1, n2, n3, n4⟩ := T
    refine ⟨_, (pss_one (ps_ret (pe_op op_add (pe_op op_fdiv (pe_fld (pv 0) rfl) pe_int) pe_int))), ?_⟩
    walk_at "rd"
    exact q
/-! ### the law's readers of the script -/
abbrev s__law_cell : Stmt := top 17
abbrev N__law_cell : List Str := ["_law_script", "_law_k"]
theorem sc__law_cell : FnScope ["_law_script", "_law_k"] ["_law_script", "_law_k"] (defScope s__law_cell) := ⟨rfl, rfl, rfl, by decide +kernel, rfl, by decide +kernel, by decide +kernel⟩
theorem ok__law_cell {f : Addr} {fd : FuncData} (F : Fun K "_law_cell" "_law_cell" s__law_cell f fd) (z_len : mg "len" = none) : FnOk P w K mg base CX0 1 f fd ["_law_script", "_law_k"] (spCell K) := by
  refine F.ok sc__law_cell (fun vs H Q E h => ?_) (fun cdv A outer s H vs Q E hr h => ?_)
  · obtain ⟨a, ns, k, rfl, _⟩ := h
    rfl
  · obtain ⟨a, ns, k, rfl, hS, q⟩ := h
    refine ⟨_, (pss_cons (ps_if (pt_tru (pv 0))
    (pss_one (ps_ret (pe_ix ix_list (pv 0) (pe_op op_modN (pv 1) (pe_callB cr_len (by rfl) z_len (by decide +kernel) (pa_cons (pv 0) pa_nil))) (fun _ _ => rfl))))
    pss_nil)
    (pss_one (ps_ret pe_int))), ?_⟩
    walk_at "rd"
    refine bif2 (fun hc => ?_) (fun hc => ?_)
    · walk_at "rd"
      exact q 0
    · have hl : 0 < (ns.map V.int).length := by
        cases ns with
        | nil => exact absurd hc (by decide)
        | cons _ _ => simp
      walk_at "rd"
      refine rd_I (by show ((ns.map V.int).length : Int) ≠ 0; omega) ?_
      exact rd_menu hS ⟨Int.fmod_nonneg_of_pos _ (by omega), Int.fmod_lt_of_pos _ (by omega)⟩ (by simp [isI]) fun z _ => q z
abbrev s__law_mix : Stmt := top 18
abbrev N__law_mix : List Str := ["_law_script", "_law_k", "_law_number"]
theorem sc__law_mix : FnScope ["_law_script", "_law_k", "_law_number"] ["_law_script", "_law_k"] (defScope s__law_mix) := ⟨rfl, rfl, rfl, by decide +kernel, rfl, by decide +kernel, by decide +kernel⟩
theorem ok__law_mix {f : Addr} {fd : FuncData} (F : Fun K "_law_mix" "_law_mix" s__law_mix f fd) (D__law_cell : FnB P w K mg base CX0 1 "_law_cell" ["_law_script", "_law_k"] (spCell K)) :
    FnOk P w K mg base CX0 2 f fd ["_law_script", "_law_k"] (spMix K) := by
  refine F.ok sc__law_mix (fun vs H Q E h => ?_) (fun cdv A outer s H vs Q E hr h => ?_)
  · obtain ⟨a, ns, k, rfl, _⟩ := h
    rfl
  · obtain ⟨a, ns, k, rfl, hS, q⟩ := h
    obtain ⟨f__law_cell, fd__law_cell, G__law_cell, g__law_cell, k__law_cell, b__law_cell⟩ := D__law_cell
    refine ⟨_, (pss_cons (ps_set (i := 2) sc__law_mix.nd rfl (Or.inl rfl) (pe_op op_mod (pe_op op_add (pe_call G__law_cell (hr.mono (by decide)) rfl g__law_cell k__law_cell b__law_cell .nil pass0 (pa_cons (pv 0) (pa_cons (pv 1) pa_nil))) (pe_op op_mul pe_int (pe_op op_add (pv 1) pe_int))) pe_int))
    (pss_cons (ps_set (i := 2) sc__law_mix.nd rfl (Or.inl rfl) (pe_op op_mod (pe_op op_mul (pv 2) pe_int) pe_int))
    (pss_one (ps_ret (pe_op op_mod (pe_op op_add (pe_op op_mul (pe_op op_fdiv (pv 2) pe_int) pe_int) (pv 2)) pe_int))))), ?_⟩
    walk_at "rd"
    refine ⟨a, ns, k, rfl, hS, fun z => ?_⟩
    walk_at "rd"
    exact q _ (by omega) (by omega)
end
end Lh
namespace Lh
open PySem PySem.Spec PyProof.Rows L2
section
variable {P : Program} {w : World} {K : PySem.W.Frag} {mg : Str → Option Value} {base : Heap} {C_Terms C_Keeper C_Back : Addr}
abbrev s_Keeper_init : Stmt := inClass (top 10) 0
abbrev N_Keeper_init : List Str := ["self", "terms", "clock"]
theorem sc_Keeper_init : FnScope ["self", "terms", "clock"] ["self", "terms", "clock"] (defScope s_Keeper_init) := ⟨rfl, rfl, rfl, by decide +kernel, rfl, by decide +kernel, by decide +kernel⟩
theorem ok_Keeper_init {f : Addr} {fd : FuncData} (F : Fun K "__init__" "Keeper.__init__" s_Keeper_init f fd) (TK : KTxt K C_Keeper) (c_Terms : Cls K C_Terms) (D_Terms_wait : MtB P w K mg base CX0 2 C_Terms "wait" ["self"] (spT0 C_Terms Tm.wait)) :
    FnOk P w K mg base CX0 3 f fd ["self", "terms", "clock"] (spKI C_Keeper C_Terms) := by
  refine F.ok sc_Keeper_init (fun vs H Q E h => ?_) (fun cdv A outer s H vs Q E hr h => ?_)
  · obtain ⟨x, dx, t, T, c, rfl, _⟩ := h
    rfl
  · obtain ⟨x, dx, t, T, c, rfl, hx, ⟨hT, dt, ht⟩, k⟩ := h
    obtain ⟨c_Keeper, n1, n2, n3, n4, n5⟩ := TK
    obtain ⟨f_Terms_wait, fd_Terms_wait, G_Terms_wait, M_Terms_wait, b_Terms_wait⟩ := D_Terms_wait
    have htx : t ≠ x := ne_of ht hx (by intro z; injection z with _ _ z; cases z)
    refine ⟨_, (pss_cons (ps_fld (pv 0) (pv 1) rfl)
    (pss_cons (ps_fld (pv 0) (pv 2) rfl)
    (pss_cons (ps_fld (pv 0) (pe_op op_add (pv 2) (pe_meth0 (pv 1) c_Terms M_Terms_wait G_Terms_wait (hr.mono (by decide)) b_Terms_wait .nil pass0)) rfl)
    (pss_cons (ps_fld (pv 0) pe_non rfl)
    (pss_one (ps_fld (pv 0) pe_non rfl)))))), ?_⟩
    walk_at "rd"
    refine k _ ⟨dx, _, _, upd_same, rfl, rfl⟩ ?_
    walk_at "kp"
abbrev s_Keeper_look : Stmt := inClass (top 10) 1
abbrev N_Keeper_look : List Str := ["self", "clock"]
theorem sc_Keeper_look : FnScope ["self", "clock"] ["self", "clock"] (defScope s_Keeper_look) := ⟨rfl, rfl, rfl, by decide +kernel, rfl, by decide +kernel, by decide +kernel⟩
theorem ok_Keeper_look {f : Addr} {fd : FuncData} (F : Fun K "look" "Keeper.look" s_Keeper_look f fd) (TK : KTxt K C_Keeper) (X_Back : ExT K mg "Back" C_Back) :
    FnOk P w K mg base (L2.CX P w) 1 f fd ["self", "clock"] (spLookK C_Keeper C_Back) := by
  refine F.okX sc_Keeper_look (fun vs H Q E h => ?_) (fun cdv A outer s H vs Q E hr h => ?_)
  · obtain ⟨p, dx, t, c0, e, nm, nu, c, rfl, _⟩ := h
    rfl
  · obtain ⟨p, dx, t, c0, e, nm, nu, c, rfl, hp, he, k⟩ := h
    obtain ⟨c_Keeper, n1, n2, n3, n4, n5⟩ := TK
    obtain ⟨g_Back, k_Back, x_Back, sb_Back, ty_Back, ec_Back⟩ := X_Back
    refine ⟨_, (pss_cons (ps_if (pt_cmpR op_lt (pv 1) (pe_fld (pv 0) rfl) (nomark _))
    (pss_one (ps_raise rfl (takes_of rfl rfl rfl rfl) (pmk_own PySem.F.excBase_ValueError x_Back g_Back k_Back (raises_own sb_Back ty_Back) rfl)))
    pss_nil)
    (pss_one (ps_fld (pv 0) (pv 1) rfl))), ?_⟩
    walk_at "rd"
    · exact he (by assumption)
    · exact k (by omega)
abbrev s_Keeper_is_let : Stmt := inClass (top 10) 2
abbrev N_Keeper_is_let : List Str := ["self", "clock"]
theorem sc_Keeper_is_let : FnScope ["self", "clock"] ["self", "clock"] (defScope s_Keeper_is_let) := ⟨rfl, rfl, rfl, by decide +kernel, rfl, by decide +kernel, by decide +kernel⟩
theorem ok_Keeper_is_let {f : Addr} {fd : FuncData} (F : Fun K "is_let" "Keeper.is_let" s_Keeper_is_let f fd) (TK : KTxt K C_Keeper) :
    FnOk P w K mg base CX0 1 f fd ["self", "clock"] (spIsLet C_Keeper) := by
  refine F.ok sc_Keeper_is_let (fun vs H Q E h => ?_) (fun cdv A outer s H vs Q E hr h => ?_)
  · obtain ⟨p, dx, t, c0, e, nm, nu, c, rfl, _⟩ := h
    rfl
  · obtain ⟨p, dx, t, c0, e, nm, nu, c, rfl, hp, k⟩ := h
    obtain ⟨c_Keeper, n1, n2, n3, n4, n5⟩ := TK
    refine ⟨_, (pss_one (ps_ret (pe_cmpR op_lt (pv 1) (pe_fld (pv 0) rfl) (nomark _)))), ?_⟩
    walk_at "rd"
    exact k
abbrev s_Keeper_asked : Stmt := inClass (top 10) 3
abbrev N_Keeper_asked : List Str := ["self", "clock", "name", "number"]
theorem sc_Keeper_asked : FnScope ["self", "clock", "name", "number"] ["self", "clock", "name", "number"] (defScope s_Keeper_asked) := ⟨rfl, rfl, rfl, by decide +kernel, rfl, by decide +kernel, by decide +kernel⟩
theorem ok_Keeper_asked {f : Addr} {fd : FuncData} (F : Fun K "asked" "Keeper.asked" s_Keeper_asked f fd) (TK : KTxt K C_Keeper) (c_Terms : Cls K C_Terms)
    (D_Keeper_look : MtB P w K mg base (L2.CX P w) 1 C_Keeper "look" ["self", "clock"] (spLookK C_Keeper C_Back)) (D_Keeper_is_let : MtB P w K mg base CX0 1 C_Keeper "is_let" ["self", "clock"] (spIsLet C_Keeper))
    (D_Terms_wait : MtB P w K mg base CX0 2 C_Terms "wait" ["self"] (spT0 C_Terms Tm.wait)) :
    FnOk P w K mg base (L2.CX P w) 3 f fd ["self", "clock", "name", "number"] (spAsked C_Keeper C_Terms C_Back) := by
  refine F.okX sc_Keeper_asked (fun vs H Q E h => ?_) (fun cdv A outer s H vs Q E hr h => ?_)
  · obtain ⟨p, t, st, T, c, n, q, a, b, rfl, _⟩ := h
    rfl
  · obtain ⟨p, t, ⟨c0, e, own⟩, T, c, n, q, a, b, rfl, ⟨dx, nm, nu, hp, ho⟩, ⟨hT, dt, ht⟩, hq, he, k⟩ := h
    obtain ⟨c_Keeper, n1, n2, n3, n4, n5⟩ := TK
    obtain ⟨f_Keeper_look, fd_Keeper_look, G_Keeper_look, M_Keeper_look, b_Keeper_look⟩ := D_Keeper_look
    obtain ⟨f_Keeper_is_let, fd_Keeper_is_let, G_Keeper_is_let, M_Keeper_is_let, b_Keeper_is_let⟩ := D_Keeper_is_let
    obtain ⟨f_Terms_wait, fd_Terms_wait, G_Terms_wait, M_Terms_wait, b_Terms_wait⟩ := D_Terms_wait
    dsimp only at hp ho he k
    have htp : t ≠ p := tk_ne ht hp
    have hqp : q ≠ p := qp_ne hq hp
    refine ⟨_, (pss_cons (ps_expr (pe_meth (pv 0) c_Keeper M_Keeper_look G_Keeper_look (hr.mono (by decide)) b_Keeper_look .nil (passes_call (takes_of rfl rfl rfl rfl) (fun _ _ _ _ h => h)) (pa_cons (pv 1) pa_nil)))
    (pss_cons (ps_if (pt_val (pe_meth (pv 0) c_Keeper M_Keeper_is_let G_Keeper_is_let (hr.mono (by decide)) b_Keeper_is_let .nil pass0 (pa_cons (pv 1) pa_nil)))
    (pss_cons (ps_if (PW.pt (pw_or (pt_cmpR op_ne (pv 2) (pe_fld (pv 0) rfl) (nomark _)) (pw_or1 (pt_cmpR (op_ltP hr.units0) (pv 3) (pe_fld (pv 0) rfl) (nomark _)))))
    (pss_one (ps_ret pe_bl))
    pss_nil)
    (pss_one (ps_if (pt_cmpR (op_eqP hr.units) (pv 3) (pe_fld (pv 0) rfl) (nomark _))
    (pss_one (ps_ret pe_bl))
    pss_nil)))
    pss_nil)
    (pss_cons (ps_fld (pv 0) (pv 2) rfl)
    (pss_cons (ps_fld (pv 0) (pv 3) rfl)
    (pss_cons (ps_fld (pv 0) (pe_op op_add (pv 1) (pe_meth0 (pe_fld (pv 0) rfl) c_Terms M_Terms_wait G_Terms_wait (hr.mono (by decide)) b_Terms_wait .nil pass0)) rfl)
    (pss_one (ps_ret pe_bl))))))), ?_⟩
    walk_at "rd"
    refine spLookK_use hp he fun hc => ?_
    walk_at "rd"
    refine spIsLet_use upd_same ?_
    have k := k hc
    by_cases h1 : c < e
    · match own, ho with
      | none, ⟨z1, z2⟩ =>
        subst z1 z2
        have e1 : kAsk T.wait c n a b ⟨c0, e, none⟩ = (⟨c, e, none⟩, false) := by simp only [kAsk, if_pos h1]
        rw [e1] at k
        walk_at "rd"
        exact k _ ⟨dx, _, _, upd_same, rfl, rfl⟩ kp_upd
      | some (n', a', b'), ⟨z1, q', z2, hq'⟩ =>
        subst z1 z2
        have hqp' : q' ≠ p := qp_ne hq' hp
        by_cases h2 : n = n'
        · by_cases h3 : a < a' ∨ a = a' ∧ b < b'
          · have e1 : kAsk T.wait c n a b ⟨c0, e, some (n', a', b')⟩ = (⟨c, e, some (n', a', b')⟩, false) := by simp only [kAsk, if_pos h1, if_pos h2, if_pos h3]
            rw [e1] at k
            walk_at "rd"
            exact k _ ⟨dx, _, _, upd_same, rfl, q', rfl, by walk_at "hp"⟩ kp_upd
          · by_cases h4 : a = a' ∧ b = b'
            · have e1 : kAsk T.wait c n a b ⟨c0, e, some (n', a', b')⟩ = (⟨c, e, some (n', a', b')⟩, true) := by simp only [kAsk, if_pos h1, if_pos h2, if_neg h3, if_pos h4]
              rw [e1] at k
              walk_at "rd"
              exact k _ ⟨dx, _, _, upd_same, rfl, q', rfl, by walk_at "hp"⟩ kp_upd
            · have e1 : kAsk T.wait c n a b ⟨c0, e, some (n', a', b')⟩ = (⟨c, c + T.wait, some (n, a, b)⟩, true) := by simp only [kAsk, if_pos h1, if_pos h2, if_neg h3, if_neg h4]
              rw [e1] at k
              walk_at "rd"
              refine k _ ⟨dx, _, _, upd_same, rfl, q, rfl, by walk_at "hp"⟩ ?_
              walk_at "kp"
        · have e1 : kAsk T.wait c n a b ⟨c0, e, some (n', a', b')⟩ = (⟨c, e, some (n', a', b')⟩, false) := by simp only [kAsk, if_pos h1, if_neg h2]
          rw [e1] at k
          walk_at "rd"
          exact k _ ⟨dx, _, _, upd_same, rfl, q', rfl, by walk_at "hp"⟩ kp_upd
    · have e1 : kAsk T.wait c n a b ⟨c0, e, own⟩ = (⟨c, c + T.wait, some (n, a, b)⟩, true) := by simp only [kAsk, if_neg h1]
      rw [e1] at k
      walk_at "rd"
      refine k _ ⟨dx, _, _, upd_same, rfl, q, rfl, by walk_at "hp"⟩ ?_
      walk_at "kp"
abbrev s_Keeper_freed : Stmt := inClass (top 10) 4
abbrev N_Keeper_freed : List Str := ["self", "clock", "name", "number"]
theorem sc_Keeper_freed : FnScope ["self", "clock", "name", "number"] ["self", "clock", "name", "number"] (defScope s_Keeper_freed) := ⟨rfl, rfl, rfl, by decide +kernel, rfl, by decide +kernel, by decide +kernel⟩
theorem ok_Keeper_freed {f : Addr} {fd : FuncData} (F : Fun K "freed" "Keeper.freed" s_Keeper_freed f fd) (TK : KTxt K C_Keeper) (z_min : mg "min" = none)
    (D_Keeper_look : MtB P w K mg base (L2.CX P w) 1 C_Keeper "look" ["self", "clock"] (spLookK C_Keeper C_Back)) :
    FnOk P w K mg base (L2.CX P w) 2 f fd ["self", "clock", "name", "number"] (spFreed C_Keeper C_Back) := by
  refine F.okX sc_Keeper_freed (fun vs H Q E h => ?_) (fun cdv A outer s H vs Q E hr h => ?_)
  · obtain ⟨p, t, st, c, n, q, a, b, rfl, _⟩ := h
    rfl
  · obtain ⟨p, t, ⟨c0, e, own⟩, c, n, q, a, b, rfl, ⟨dx, nm, nu, hp, ho⟩, hq, he, k⟩ := h
    obtain ⟨c_Keeper, n1, n2, n3, n4, n5⟩ := TK
    obtain ⟨f_Keeper_look, fd_Keeper_look, G_Keeper_look, M_Keeper_look, b_Keeper_look⟩ := D_Keeper_look
    dsimp only at hp ho he k
    have hqp : q ≠ p := qp_ne hq hp
    refine ⟨_, (pss_cons (ps_expr (pe_meth (pv 0) c_Keeper M_Keeper_look G_Keeper_look (hr.mono (by decide)) b_Keeper_look .nil (passes_call (takes_of rfl rfl rfl rfl) (fun _ _ _ _ h => h)) (pa_cons (pv 1) pa_nil)))
    (pss_one (ps_if (PW.pt (pw_and (pt_cmpR op_notno (pe_fld (pv 0) rfl) pe_non (nomark _)) (pw_and (pt_cmpR op_eq (pv 2) (pe_fld (pv 0) rfl) (nomark _)) (pw_and1 (pt_cmpR (op_geP hr.units0) (pv 3) (pe_fld (pv 0) rfl) (nomark _))))))
    (pss_one (ps_fld (pv 0) (pe_callB (cr_min2 rfl) (by rfl) z_min (by decide +kernel) (pa_cons (pe_fld (pv 0) rfl) (pa_cons (pv 1) pa_nil))) rfl))
    pss_nil))), ?_⟩
    walk_at "rd"
    refine spLookK_use hp he fun hc => ?_
    have k := k hc
    match own, ho with
    | none, ⟨z1, z2⟩ =>
      subst z1 z2
      have e1 : kFree c n a b ⟨c0, e, none⟩ = ⟨c, e, none⟩ := rfl
      rw [e1] at k
      walk_at "rd"
      exact k _ ⟨dx, _, _, upd_same, rfl, rfl⟩ kp_upd
    | some (n', a', b'), ⟨z1, q', z2, hq'⟩ =>
      subst z1 z2
      have hqp' : q' ≠ p := qp_ne hq' hp
      by_cases h2 : n = n' ∧ ¬ (a < a' ∨ a = a' ∧ b < b')
      · have e1 : kFree c n a b ⟨c0, e, some (n', a', b')⟩ = ⟨c, min e c, some (n', a', b')⟩ := by simp only [kFree, if_pos h2]
        rw [e1] at k
        walk_at "rd"
        refine k _ ⟨dx, _, _, upd_same, rfl, q', rfl, by walk_at "hp"⟩ ?_
        walk_at "kp"
      · have e1 : kFree c n a b ⟨c0, e, some (n', a', b')⟩ = ⟨c, e, some (n', a', b')⟩ := by simp only [kFree, if_neg h2]
        rw [e1] at k
        walk_at "rd"
        all_goals exact k _ ⟨dx, _, _, upd_same, rfl, q', rfl, by walk_at "hp"⟩ kp_upd
end
end Lh
namespace Lh
open PySem PySem.Spec PyProof.Rows L2
section
variable {P : Program} {w : World} {K : PySem.W.Frag} {mg : Str → Option Value} {base : Heap} {C_Terms C_Holder C_Back C_NoKeeper C_NotAsked : Addr}
abbrev s_Holder_init : Stmt := inClass (top 8) 0
abbrev N_Holder_init : List Str := ["self", "terms", "name", "life", "clock"]
theorem sc_Holder_init : FnScope ["self", "terms", "name", "life", "clock"] ["self", "terms", "name", "life", "clock"] (defScope s_Holder_init) := ⟨rfl, rfl, rfl, by decide +kernel, rfl, by decide +kernel, by decide +kernel⟩
theorem ok_Holder_init {f : Addr} {fd : FuncData} (F : Fun K "__init__" "Holder.__init__" s_Holder_init f fd) (TH : HTxt K C_Holder) :
    FnOk P w K mg base CX0 1 f fd ["self", "terms", "name", "life", "clock"] (spHI C_Holder) := by
  refine F.ok sc_Holder_init (fun vs H Q E h => ?_) (fun cdv A outer s H vs Q E hr h => ?_)
  · obtain ⟨x, dx, t, nm, life, c, rfl, _⟩ := h
    rfl
  · obtain ⟨x, dx, t, nm, life, c, rfl, hx, k⟩ := h
    obtain ⟨c_Holder, n1, n2, n3, n4, n5, n6, n7⟩ := TH
    refine ⟨_, (pss_cons (ps_fld (pv 0) (pv 1) rfl)
    (pss_cons (ps_fld (pv 0) (pv 2) rfl)
    (pss_cons (ps_fld (pv 0) (pv 3) rfl)
    (pss_cons (ps_fld (pv 0) (pv 4) rfl)
    (pss_cons (ps_fld (pv 0) pe_int rfl)
    (pss_cons (ps_fld (pv 0) pe_dnewT rfl)
    (pss_one (ps_fld (pv 0) pe_dnewK rfl)))))))), ?_⟩
    walk_at "rd"
    refine rd_dnewT fun da hda => ?_
    have hxa : x ≠ da := ne_of_none (by walk_at "hp") hda
    walk_at "rd"
    refine rd_dnewK fun dl hdl => ?_
    have hxl : x ≠ dl := ne_of_none (by walk_at "hp") hdl
    have hal : da ≠ dl := ne_of_none (by walk_at "hp") hdl
    walk_at "rd"
    have ha : H da = none := by
      simp only [upd_ne (ne_symm' hxa)] at hda
      exact hda
    have hl : H dl = none := by
      simp only [upd_ne (ne_symm' hxl), upd_ne (ne_symm' hal)] at hdl
      exact hdl
    refine k _ da dl ⟨⟨dx, upd_same⟩, by walk_at "hp", by walk_at "hp"⟩ ha hl hal fun b o hb e => ?_
    have hba : b ≠ da := ne_of_none e ha
    have hbl : b ≠ dl := ne_of_none e hl
    simp only [upd_ne hb, upd_ne hba, upd_ne hbl]
    exact e
abbrev s_Holder_look : Stmt := inClass (top 8) 1
abbrev N_Holder_look : List Str := ["self", "clock", "number"]
theorem sc_Holder_look : FnScope ["self", "clock", "number"] ["self", "clock"] (defScope s_Holder_look) := ⟨rfl, rfl, rfl, by decide +kernel, rfl, by decide +kernel, by decide +kernel⟩
theorem ok_Holder_look {f : Addr} {fd : FuncData} (F : Fun K "look" "Holder.look" s_Holder_look f fd) (TH : HTxt K C_Holder) (TT : TTxt K C_Terms) (X_Back : ExT K mg "Back" C_Back) (z_list : mg "list" = none) :
    FnOk P w K mg base (L2.CX P w) 1 f fd ["self", "clock"] (spLookH C_Holder C_Terms C_Back) := by
  refine F.okX sc_Holder_look (fun vs H Q E h => ?_) (fun cdv A outer s H vs Q E hr h => ?_)
  · obtain ⟨h, t, nm, da, dl, s, T, c, rfl, _⟩ := h
    rfl
  · obtain ⟨h, t, nm, da, dl, ⟨life, c0, many, asks, lets⟩, T, c, rfl, ⟨⟨dx, hh⟩, has, hls⟩, wf, ⟨hT, dt, ht⟩, he, k⟩ := h
    obtain ⟨c_Holder, n1, n2, n3, n4, n5, n6, n7⟩ := TH
    obtain ⟨c_Terms, m1, m2, m3, m4⟩ := TT
    have hu := hu_of hr
    obtain ⟨g_Back, k_Back, x_Back, sb_Back, ty_Back, ec_Back⟩ := X_Back
    dsimp only at hh has hls he k
    have hth : t ≠ h := th_ne ht hh
    have hah : da ≠ h := ne_of has hh (by intro z; cases z)
    have hta : t ≠ da := ne_of ht has (by intro z; cases z)
    have hla : dl ≠ da := ne_of hls has (by intro z; cases z)
    have hlh : dl ≠ h := ne_of hls hh (by intro z; cases z)
    refine ⟨_, (pss_cons (ps_if (pt_cmpR op_lt (pv 1) (pe_fld (pv 0) rfl) (nomark _))
    (pss_one (ps_raise rfl (takes_of rfl rfl rfl rfl) (pmk_own PySem.F.excBase_ValueError x_Back g_Back k_Back (raises_own sb_Back ty_Back) rfl)))
    pss_nil)
    (pss_cons (ps_fld (pv 0) (pv 1) rfl)
    (pss_one (ps_for (passes_of rfl) rfl (pi_list (pe_callTy (cr_listT rfl) (by rfl) z_list (by decide +kernel) (pa_cons (pe_fld (pv 0) rfl) pa_nil))) (pg_name (i := 2) sc_Holder_look.nd rfl (Or.inl rfl))
    (pss_one (ps_if (pt_cmpR op_le (pe_op op_add (pe_dget hu (pe_fld (pv 0) rfl) (pv 2) (fun _ _ => rfl)) (pe_fld (pe_fld (pv 0) rfl) rfl)) (pv 1) (nomark _))
    (pss_one (ps_expr (pe_bm PySem.F.plainAttrs_dict PySem.F.slot_dict_pop PySem.F.type_dict_pop (mt_popT1 hu) (pe_fld (pv 0) rfl) (pa_cons (pv 2) pa_nil))))
    pss_nil)))))), ?_⟩
    walk_at "rd"
    · exact he (by assumption)
    · have k := k (by omega)
      refine rd_listT (by walk_at "hp") fun p bs H1 hp hk s1 hl => ?_
      have a1 : H1 da = some (.dT (toV fN asks)) := s1 _ _ (by walk_at "hp")
      have b1 : H1 h = some (.ins C_Holder dx (hf t nm life c many da dl)) := s1 _ _ (by walk_at "hp")
      have c1 : H1 t = some (.ins C_Terms dt (tf T)) := s1 _ _ (by walk_at "hp")
      have d1 : H1 dl = some (.dK (toV fI lets)) := s1 _ _ (by walk_at "hp")
      have hpa : p ≠ da := ne_of hl a1 (by intro z; cases z)
      have e1 : Kp3 h da dl H H1 := fun b o g1 g2 g3 e => s1 _ _ (by rw [upd_ne g1]; exact e)
      have hbl : bs.length = asks.length := by rw [← hk.length]; exact toV_length
      walk_at "rd"
      refine ilstk (sq_l hl) ?_
      refine forL (xs := bs.map V.ref) (fun i σ H5 => ∃ v, σ = [some (.ref h), some (.int c), v] ∧ H5 da = some (.dT (toV fN (midA T.len c asks i))) ∧ Kp da H1 H5) ⟨_, rfl, a1, fun _ _ _ e => e⟩ ?_ ?_ ?_
      · rintro i σ H5 _ ⟨v, rfl, g1, g2⟩
        exact sq_l (g2 _ _ hpa hl)
      · rintro i x σ H5 hx ⟨v, rfl, g1, g2⟩
        obtain ⟨b, hb, rfl⟩ : ∃ b, bs[i]? = some b ∧ x = V.ref b := by
          rw [List.getElem?_map] at hx
          cases z : bs[i]? with
          | none => rw [z] at hx; cases hx
          | some b => rw [z] at hx; exact ⟨b, rfl, by cases hx; rfl⟩
        obtain ⟨kv, hkv, hbt⟩ := paired_get hk hb
        obtain ⟨x, hx2, rfl⟩ : ∃ x, asks[i]? = some x ∧ kv = (fN x.1, V.int x.2) := by
          unfold toV at hkv
          rw [List.getElem?_map] at hkv
          cases z : asks[i]? with
          | none => rw [z] at hkv; cases hkv
          | some b => rw [z] at hkv; exact ⟨b, rfl, by cases hkv; rfl⟩
        have hbh : b ≠ da := ne_of hbt a1 (by intro z; cases z)
        have b5 : H5 b = some (.tup ((fN x.1).map kV)) := g2 _ _ hbh hbt
        have h5 := g2 _ _ (ne_symm' hah) b1
        have t5 := g2 _ _ hta c1
        have ev : valV (toV fN (midA T.len c asks i)) (fN x.1) = some (.int x.2) := by rw [toV_get fN_inj, midA_get wf.n1 hx2]; rfl
        walk_at "rd"
        refine dgt g1 b5 ev ?_
        walk_at "rd"
        · refine rd_popT1 g1 b5 ev (toV_drop fN_inj _ _) ?_
          walk_at "rd"
          refine ⟨_, rfl, ?_, g2.trans kp_upd⟩
          rw [midA_pop wf.n1 hx2 (by omega)]
          exact upd_same
        · refine ⟨_, rfl, ?_, g2⟩
          rw [midA_keep hx2 (by omega)]
          exact g1
      · rintro σ H5 ⟨v, rfl, g1, g2⟩
        rw [List.length_map, hbl, midA_all] at g1
        walk_at "rd"
        exact k H5 ⟨⟨dx, g2 _ _ (ne_symm' hah) b1⟩, g1, g2 _ _ hla d1⟩ (e1.trans fun b o _ g _ e => g2 _ _ g e)
abbrev s_Holder_ask : Stmt := inClass (top 8) 2
abbrev N_Holder_ask : List Str := ["self", "clock", "number"]
theorem sc_Holder_ask : FnScope ["self", "clock", "number"] ["self", "clock"] (defScope s_Holder_ask) := ⟨rfl, rfl, rfl, by decide +kernel, rfl, by decide +kernel, by decide +kernel⟩
theorem ok_Holder_ask {f : Addr} {fd : FuncData} (F : Fun K "ask" "Holder.ask" s_Holder_ask f fd) (TH : HTxt K C_Holder)
    (D_Holder_look : MtB P w K mg base (L2.CX P w) 1 C_Holder "look" ["self", "clock"] (spLookH C_Holder C_Terms C_Back)) :
    FnOk P w K mg base (L2.CX P w) 2 f fd ["self", "clock"] (spAskH C_Holder C_Terms C_Back) := by
  refine F.okX sc_Holder_ask (fun vs H Q E h => ?_) (fun cdv A outer s H vs Q E hr h => ?_)
  · obtain ⟨h, t, nm, da, dl, s, T, c, rfl, _⟩ := h
    rfl
  · obtain ⟨h, t, nm, da, dl, ⟨life, c0, many, asks, lets⟩, T, c, rfl, hH, wf, hT, he, k⟩ := h
    obtain ⟨c_Holder, n1, n2, n3, n4, n5, n6, n7⟩ := TH
    obtain ⟨⟨dx0, hh0⟩, has0, hls0⟩ := id hH
    have hu := hu_of hr
    obtain ⟨f_Holder_look, fd_Holder_look, G_Holder_look, M_Holder_look, b_Holder_look⟩ := D_Holder_look
    dsimp only at he k hh0 has0 hls0
    have hah : da ≠ h := ne_of has0 hh0 (by intro z; cases z)
    have hla : dl ≠ da := ne_of hls0 has0 (by intro z; cases z)
    have hlh : dl ≠ h := ne_of hls0 hh0 (by intro z; cases z)
    refine ⟨_, (pss_cons (ps_expr (pe_meth (pv 0) c_Holder M_Holder_look G_Holder_look (hr.mono (by decide)) b_Holder_look .nil (passes_call (takes_of rfl rfl rfl rfl) (fun _ _ _ _ h => h)) (pa_cons (pv 1) pa_nil)))
    (pss_cons (ps_set (i := 2) sc_Holder_ask.nd rfl (Or.inl rfl) (pe_tup (pa_cons (pe_fld (pv 0) rfl) (pa_cons (pe_fld (pv 0) rfl) pa_nil))))
    (pss_cons (ps_fld (pv 0) (pe_op op_add (pe_fld (pv 0) rfl) pe_int) rfl)
    (pss_cons (ps_dput hu (pe_fld (pv 0) rfl) (pv 2) (pv 1) rfl)
    (pss_one (ps_ret (pv 2))))))), ?_⟩
    walk_at "rd"
    refine spLookH_use hH wf hT he fun hc H1 hH1 hk1 => ?_
    have k := k hc
    obtain ⟨⟨dx, hh⟩, has, hls⟩ := hH1
    dsimp only [hLook] at hh has hls
    walk_at "rd"
    refine newt_s (Nat.le_of_ble_eq_true rfl) fun q H2 hq s2 hq2 => ?_
    have hqh : h ≠ q := ne_of_none hh hq
    have hqa : da ≠ q := ne_of_none has hq
    have hql : dl ≠ q := ne_of_none hls hq
    have hq0 : H q = none := by
      cases e : H q with
      | none => rfl
      | some o =>
        rw [hk1 q o (ne_symm' hqh) (ne_symm' hqa) (ne_symm' hql) e] at hq
        cases hq
    walk_at "rd"
    refine dputt (k := fN (life, many)) (by walk_at "hp") (by walk_at "hp") (sz_lt (by rw [toV_length]; exact Nat.le_trans keepA_le (Nat.le_trans wf.l1 (by decide)))) (toV_put fN_inj _ _ _) ?_
    walk_at "rd"
    refine k q _ ⟨⟨dx, by walk_at "hp"⟩, upd_same, by walk_at "hp"⟩ (hk1.trans fun b o g1 g2 g3 e => ?_) hq0 (by walk_at "hp")
    rw [upd_ne g2, upd_ne g1]
    exact s2 _ _ e
abbrev s_Holder_hear : Stmt := inClass (top 8) 3
abbrev N_Holder_hear : List Str := ["self", "clock", "keeper", "number", "until"]
theorem sc_Holder_hear : FnScope ["self", "clock", "keeper", "number", "until"] ["self", "clock", "keeper", "number"] (defScope s_Holder_hear) := ⟨rfl, rfl, rfl, by decide +kernel, rfl, by decide +kernel, by decide +kernel⟩
theorem ok_Holder_hear {f : Addr} {fd : FuncData} (F : Fun K "hear" "Holder.hear" s_Holder_hear f fd) (TH : HTxt K C_Holder) (TT : TTxt K C_Terms) (X_NoKeeper : ExT K mg "NoKeeper" C_NoKeeper) (z_max : mg "max" = none)
    (D_Holder_look : MtB P w K mg base (L2.CX P w) 1 C_Holder "look" ["self", "clock"] (spLookH C_Holder C_Terms C_Back)) :
    FnOk P w K mg base (L2.CX P w) 2 f fd ["self", "clock", "keeper", "number"] (spHearH C_Holder C_Terms C_Back C_NoKeeper) := by
  refine F.okX sc_Holder_hear (fun vs H Q E h => ?_) (fun cdv A outer s H vs Q E hr h => ?_)
  · obtain ⟨h, t, nm, da, dl, s, T, c, k, q, n, rfl, _⟩ := h
    rfl
  · obtain ⟨h, t, nm, da, dl, ⟨life, c0, many, asks, lets⟩, T, c, kp, q, n, rfl, hH, wf, hT, hq, he, heb, k⟩ := h
    obtain ⟨c_Holder, n1, n2, n3, n4, n5, n6, n7⟩ := TH
    obtain ⟨c_Terms, m1, m2, m3, m4⟩ := TT
    obtain ⟨⟨dx0, hh0⟩, has0, hls0⟩ := id hH
    obtain ⟨ok, dt, ht⟩ := id hT
    have hu := hu_of hr
    obtain ⟨f_Holder_look, fd_Holder_look, G_Holder_look, M_Holder_look, b_Holder_look⟩ := D_Holder_look
    obtain ⟨g_NoKeeper, k_NoKeeper, x_NoKeeper, sb_NoKeeper, ty_NoKeeper, ec_NoKeeper⟩ := X_NoKeeper
    dsimp only at he heb k hh0 has0 hls0
    have hah : da ≠ h := ne_of has0 hh0 (by intro z; cases z)
    have hla : dl ≠ da := ne_of hls0 has0 (by intro z; cases z)
    have hlh : dl ≠ h := ne_of hls0 hh0 (by intro z; cases z)
    have hth : t ≠ h := th_ne ht hh0
    have hta : t ≠ da := ne_of ht has0 (by intro z; cases z)
    have htl : t ≠ dl := ne_of ht hls0 (by intro z; cases z)
    have hqh : q ≠ h := ne_of hq hh0 (by intro z; cases z)
    have hqa : q ≠ da := ne_of hq has0 (by intro z; cases z)
    have hql : q ≠ dl := ne_of hq hls0 (by intro z; cases z)
    refine ⟨_, (pss_cons (ps_if (pt_not (pt_chain op_le op_lt pe_int (pv 2) (pe_fld (pe_fld (pv 0) rfl) rfl)))
    (pss_one (ps_raise rfl (takes_of rfl rfl rfl rfl) (pmk_own PySem.F.excBase_ValueError x_NoKeeper g_NoKeeper k_NoKeeper (raises_own sb_NoKeeper ty_NoKeeper) rfl)))
    pss_nil)
    (pss_cons (ps_expr (pe_meth (pv 0) c_Holder M_Holder_look G_Holder_look (hr.mono (by decide)) b_Holder_look .nil (passes_call (takes_of rfl rfl rfl rfl) (fun _ _ _ _ h => h)) (pa_cons (pv 1) pa_nil)))
    (pss_one (ps_if (pt_cmp (pc_din hu (pv 3) (pe_fld (pv 0) rfl)))
    (pss_cons (ps_set (i := 4) sc_Holder_hear.nd rfl (Or.inl rfl) (pe_op op_add (pe_dget hu (pe_fld (pv 0) rfl) (pv 3) (fun _ _ => rfl)) (pe_fld (pe_fld (pv 0) rfl) rfl)))
    (pss_one (ps_dput hu (pe_fld (pv 0) rfl) (pv 2) (pe_callB (cr_max2 rfl) (by rfl) z_max (by decide +kernel) (pa_cons (pv 4) (pa_cons (pe_dget2 hu (pe_fld (pv 0) rfl) (pv 2) (pv 4) ⟨by rfl, by rfl, by rfl, by rfl⟩) pa_nil))) rfl)))
    pss_nil)))), ?_⟩
    walk_at "rd"
    all_goals first
      | exact he (by omega)
      | skip
    refine spLookH_use hH wf hT (heb (by omega)) fun hc H1 hH1 hk1 => ?_
    have k := k (by omega) hc
    obtain ⟨⟨dx, hh⟩, has, hls⟩ := id hH1
    dsimp only [hLook] at hh has hls
    have t1 := hk1 _ _ hth hta htl ht
    have q1 := hk1 _ _ hqh hqa hql hq
    walk_at "rd"
    refine dint (k := fN n) has q1 (toV_get fN_inj _ _) ?_
    cases hg : aGet (keepA T.len c asks) n with
    | none =>
      walk_at "rd"
      have e1 : hHear T.len c kp n ⟨life, c0, many, asks, lets⟩ = hLook T.len c ⟨life, c0, many, asks, lets⟩ := by simp only [hHear, hg]
      rw [e1] at k
      exact k _ hH1 hk1
    | some a =>
      have e1 : hHear T.len c kp n ⟨life, c0, many, asks, lets⟩ = ⟨life, c, many, keepA T.len c asks, aPut lets kp (max (a + T.len) ((aGet lets kp).getD (a + T.len)))⟩ := by simp only [hHear, hg]
      rw [e1] at k
      have ev : valV (toV fN (keepA T.len c asks)) (fN n) = some (.int a) := by rw [toV_get fN_inj, hg]; rfl
      walk_at "rd"
      refine bif_t ?_
      walk_at "rd"
      refine dgt (k := fN n) has q1 ev ?_
      walk_at "rd"
      refine dg2i hls ?_
      have e2 : (valV (toV fI lets) (Sum.inl kp : Key)).getD (.int (a + T.len)) = .int ((aGet lets kp).getD (a + T.len)) := by
        have z := toV_get fI_inj lets kp
        rw [show (Sum.inl kp : Key) = fI kp from rfl, z]
        cases aGet lets kp <;> rfl
      rw [e2]
      walk_at "rd"
      refine dputi hls (sz_lt (by rw [toV_length]; exact Nat.le_trans wf.l2 (by decide))) (toV_put fI_inj lets kp _) ?_
      walk_at "rd"
      exact k _ ⟨⟨dx, by walk_at "hp"⟩, by walk_at "hp", upd_same⟩ (hk1.trans fun b o g1 g2 g3 e => by rw [upd_ne g3]; exact e)
abbrev s_Holder_holds : Stmt := inClass (top 8) 4
abbrev N_Holder_holds : List Str := ["self", "clock", "keeper"]
theorem sc_Holder_holds : FnScope ["self", "clock", "keeper"] ["self", "clock"] (defScope s_Holder_holds) := ⟨rfl, rfl, rfl, by decide +kernel, rfl, by decide +kernel, by decide +kernel⟩
theorem ok_Holder_holds {f : Addr} {fd : FuncData} (F : Fun K "holds" "Holder.holds" s_Holder_holds f fd) (TH : HTxt K C_Holder) (c_Terms : Cls K C_Terms) (z_len : mg "len" = none)
    (D_Holder_look : MtB P w K mg base (L2.CX P w) 1 C_Holder "look" ["self", "clock"] (spLookH C_Holder C_Terms C_Back)) (D_Terms_most : MtB P w K mg base CX0 1 C_Terms "most" ["self"] (spT0 C_Terms Tm.most)) :
    FnOk P w K mg base (L2.CX P w) 2 f fd ["self", "clock"] (spHoldsH C_Holder C_Terms C_Back) := by
  refine F.okX sc_Holder_holds (fun vs H Q E h => ?_) (fun cdv A outer s H vs Q E hr h => ?_)
  · obtain ⟨h, t, nm, da, dl, s, T, c, rfl, _⟩ := h
    rfl
  · obtain ⟨h, t, nm, da, dl, ⟨life, c0, many, asks, lets⟩, T, c, rfl, hH, wf, hT, he, k⟩ := h
    obtain ⟨c_Holder, n1, n2, n3, n4, n5, n6, n7⟩ := TH
    obtain ⟨⟨dx0, hh0⟩, has0, hls0⟩ := id hH
    obtain ⟨ok, dt, ht⟩ := id hT
    have hu := hu_of hr
    obtain ⟨f_Holder_look, fd_Holder_look, G_Holder_look, M_Holder_look, b_Holder_look⟩ := D_Holder_look
    obtain ⟨f_Terms_most, fd_Terms_most, G_Terms_most, M_Terms_most, b_Terms_most⟩ := D_Terms_most
    dsimp only at he k hh0 has0 hls0
    have hah : da ≠ h := ne_of has0 hh0 (by intro z; cases z)
    have hla : dl ≠ da := ne_of hls0 has0 (by intro z; cases z)
    have hlh : dl ≠ h := ne_of hls0 hh0 (by intro z; cases z)
    have hth : t ≠ h := th_ne ht hh0
    have hta : t ≠ da := ne_of ht has0 (by intro z; cases z)
    have htl : t ≠ dl := ne_of ht hls0 (by intro z; cases z)
    refine ⟨_, (pss_cons (ps_expr (pe_meth (pv 0) c_Holder M_Holder_look G_Holder_look (hr.mono (by decide)) b_Holder_look .nil (passes_call (takes_of rfl rfl rfl rfl) (fun _ _ _ _ h => h)) (pa_cons (pv 1) pa_nil)))
    (pss_one (ps_ret (pe_cmpR op_ge (pe_callB cr_len (by rfl) z_len (by decide +kernel) (pa_cons (pe_lock (pe_lc (tt := tTest (tOp (rI0 fun i j => V.bl (decide (i < j))) (tVar 1) (tDGet (tFld K (tVar 0) "lets") (tVar 2)))) (own := [("keeper", 2)]) (g := gName 2) rfl sc_Holder_holds.nd (pi_keys (pe_fld (pv 0) rfl)) (blkOk_by (own := [("keeper", 2)]) (N := N_Holder_holds) (sc := defScope s_Holder_holds) (by decide +kernel)) (fun _ _ _ _ _ => pg_name (i := 2) sc_Holder_holds.nd rfl (Or.inl rfl)) (fun _ _ _ _ _ => pts_one (pt_cmpR op_lt (pv 1) (pe_dget hu (pe_fld (pv 0) rfl) (pv 2) (fun _ _ => rfl)) (nomark _))) (fun _ _ _ _ _ => (pv 2)))) pa_nil)) (pe_meth0 (pe_fld (pv 0) rfl) c_Terms M_Terms_most G_Terms_most (hr.mono (by decide)) b_Terms_most .nil pass0) (nomark _))))), ?_⟩
    walk_at "rd"
    refine spLookH_use hH wf hT he fun hc H1 hH1 hk1 => ?_
    have k := k hc
    obtain ⟨⟨dx, hh⟩, has, hls⟩ := id hH1
    dsimp only [hLook] at hh has hls
    have t1 := hk1 _ _ hth hta htl ht
    walk_at "rd"
    refine rd_lock hls fun od => ?_
    have hh2 : (upd H1 dl (.frz od (.dK (toV fI lets)))) h = some (.ins C_Holder dx (hf t nm life c many da dl)) := by rw [upd_ne (ne_symm' hlh)]; exact hh
    have hl2 : (upd H1 dl (.frz od (.dK (toV fI lets)))) dl = some (.frz od (.dK (toV fI lets))) := upd_same
    refine rd_keys ?_
    walk_at "rd"
    refine keysi hl2 ?_
    intro D hD
    have hDl : dl ≠ D := ne_of_none hl2 hD
    have hDh : h ≠ D := ne_of_none hh2 hD
    refine lc_it walk_keys (fun i H5 => ∃ acc : List V, H5 = upd (upd H1 dl (.frz od (.dK (toV fI lets)))) D (.lst acc) ∧ acc.length = (liveL c (lets.take i)).length) ⟨[], rfl, rfl⟩ ?_ ?_ ?_
    · rintro i H5 _ ⟨acc, rfl, _⟩
      rw [upd_ne hDl]
      exact hl2
    · rintro i x H5 H6 hi ⟨acc, rfl, hacc⟩ ⟨rfl, kk, v, hkv, rfl⟩
      obtain ⟨y, hy, rfl, rfl⟩ : ∃ y : Int × Int, lets[i]? = some y ∧ kk = Sum.inl y.1 ∧ v = V.int y.2 := by
        unfold toV at hkv
        rw [List.getElem?_map] at hkv
        cases z : lets[i]? with
        | none => rw [z] at hkv; cases hkv
        | some b => rw [z] at hkv; cases hkv; exact ⟨b, rfl, rfl, rfl⟩
      have hi2 : i < lets.length := (List.getElem?_eq_some_iff.mp hy).1
      have ey := (List.getElem?_eq_some_iff.mp hy).2
      have ht2 : liveL c (lets.take (i + 1)) = liveL c (lets.take i) ++ liveL c [y] := by
        unfold liveL
        rw [List.take_succ_eq_append_getElem hi2, ey, List.filter_append]
      have ev : valV (toV fI lets) (Sum.inl y.1 : Key) = some (.int y.2) := by
        have z := toV_get fI_inj lets y.1
        rw [show (Sum.inl y.1 : Key) = fI y.1 from rfl, z, aGet_of_mem wf.n2 (List.mem_of_getElem? hy)]
        rfl
      walk_at "rd"
      refine ⟨rfl, ?_⟩
      walk_at "rd"
      refine dgif (by rw [upd_ne hDl]; exact hl2) ev ?_
      walk_at "rd"
      by_cases hlv : c < y.2
      · rw [if_pos (decide_eq_true hlv)]
        walk_at "rd"
        refine ⟨acc, upd_same, sz_lt ?_, _, upd_upd, ?_⟩
        · rw [hacc]
          exact Nat.le_trans (List.length_filter_le _ _) (Nat.le_trans (List.length_take_le' _ _) (Nat.le_trans wf.l2 (by decide)))
        · rw [List.length_append, hacc, ht2, List.length_append]
          unfold liveL
          rw [List.filter_cons_of_pos (by simpa using hlv)]
          rfl
      · rw [if_neg (by simpa using hlv)]
        refine ⟨acc, rfl, ?_⟩
        rw [hacc, ht2]
        unfold liveL
        rw [List.filter_cons_of_neg (by simpa using hlv)]
        simp
    · rintro H5 ⟨acc, rfl, hacc⟩
      rw [show (toV fI lets).length = lets.length from toV_length, List.take_length] at hacc
      refine ⟨by rw [upd_ne hDl]; exact hl2, ?_⟩
      have hfin : upd (upd (upd H1 dl (.frz od (.dK (toV fI lets)))) D (.lst acc)) dl (.dK (toV fI lets)) = upd H1 D (.lst acc) := by
        funext b
        by_cases e1 : b = dl
        · rw [e1, upd_same, upd_ne hDl, hls]
        · rw [upd_ne e1]
          by_cases e2 : b = D
          · rw [e2, upd_same, upd_same]
          · rw [upd_ne e2, upd_ne e1, upd_ne e2]
      rw [hfin]
      have hD1 : H1 D = none := by rw [upd_ne (ne_symm' hDl)] at hD; exact hD
      have s1 : Same H1 (upd H1 D (.lst acc)) := Same.upd hD1
      have hDD : (upd H1 D (.lst acc)) D = some (.lst acc) := upd_same
      have hh3 := s1 _ _ hh
      have ht3 := s1 _ _ t1
      generalize upd H1 D (.lst acc) = H7 at *
      walk_at "rd"
      rw [hacc]
      exact k _ (hH1.same s1) (hk1.trans (Same.kp3 s1))
abbrev s_Holder_until : Stmt := inClass (top 8) 5
abbrev N_Holder_until : List Str := ["self", "clock", "ends"]
theorem sc_Holder_until : FnScope ["self", "clock", "ends"] ["self", "clock"] (defScope s_Holder_until) := ⟨rfl, rfl, rfl, by decide +kernel, rfl, by decide +kernel, by decide +kernel⟩
theorem ok_Holder_until {f : Addr} {fd : FuncData} (F : Fun K "until" "Holder.until" s_Holder_until f fd) (TH : HTxt K C_Holder) (c_Terms : Cls K C_Terms) (z_sorted : mg "sorted" = none)
    (D_Holder_holds : MtB P w K mg base (L2.CX P w) 2 C_Holder "holds" ["self", "clock"] (spHoldsH C_Holder C_Terms C_Back)) (D_Terms_most : MtB P w K mg base CX0 1 C_Terms "most" ["self"] (spT0 C_Terms Tm.most)) :
    FnOk P w K mg base (L2.CX P w) 3 f fd ["self", "clock"] (spUntilH C_Holder C_Terms C_Back) := by
  refine F.okX sc_Holder_until (fun vs H Q E h => ?_) (fun cdv A outer s H vs Q E hr h => ?_)
  · obtain ⟨h, t, nm, da, dl, s, T, c, rfl, _⟩ := h
    rfl
  · obtain ⟨h, t, nm, da, dl, ⟨life, c0, many, asks, lets⟩, T, c, rfl, hH, wf, hT, he, k⟩ := h
    obtain ⟨c_Holder, n1, n2, n3, n4, n5, n6, n7⟩ := TH
    obtain ⟨⟨dx0, hh0⟩, has0, hls0⟩ := id hH
    obtain ⟨ok, dt, ht⟩ := id hT
    obtain ⟨f_Holder_holds, fd_Holder_holds, G_Holder_holds, M_Holder_holds, b_Holder_holds⟩ := D_Holder_holds
    obtain ⟨f_Terms_most, fd_Terms_most, G_Terms_most, M_Terms_most, b_Terms_most⟩ := D_Terms_most
    dsimp only at he k hh0 has0 hls0
    have hth : t ≠ h := th_ne ht hh0
    have hta : t ≠ da := ne_of ht has0 (by intro z; cases z)
    have htl : t ≠ dl := ne_of ht hls0 (by intro z; cases z)
    refine ⟨_, (pss_cons (ps_if (pt_not (pt_val (pe_meth (pv 0) c_Holder M_Holder_holds G_Holder_holds (hr.mono (by decide)) b_Holder_holds .nil (passes_call (takes_of rfl rfl rfl rfl) (fun _ _ _ _ h => h)) (pa_cons (pv 1) pa_nil))))
    (pss_one (ps_ret pe_non))
    pss_nil)
    (pss_cons (ps_set (i := 2) sc_Holder_until.nd rfl (Or.inl rfl) (pe_callBK (cr_sortedValsRev rfl) (by rfl) z_sorted (by decide +kernel) (pa_cons (pe_bm0 PySem.F.plainAttrs_dict PySem.F.slot_dict_values PySem.F.type_dict_values mt_valuesK (pe_fld (pv 0) rfl)) pa_nil) (pk_cons pe_bl pk_nil)))
    (pss_one (ps_ret (pe_ix ix_list (pv 2) (pe_op op_sub (pe_meth0 (pe_fld (pv 0) rfl) c_Terms M_Terms_most G_Terms_most (hr.mono (by decide)) b_Terms_most .nil pass0) pe_int) (fun _ _ => rfl)))))), ?_⟩
    walk_at "rd"
    refine spHoldsH_use hH wf hT he fun hc H1 hH1 hk1 => ?_
    have k := k hc
    obtain ⟨⟨dx, hh⟩, has, hls⟩ := id hH1
    dsimp only [hLook] at hh has hls
    have t1 := hk1 _ _ hth hta htl ht
    cases hh1 : hHolds T.most c ⟨life, c0, many, asks, lets⟩ with
    | false =>
      walk_at "rd"
      exact k _ _ hH1 hk1 (.inl ⟨hh1, rfl⟩)
    | true =>
      walk_at "rd"
      refine rd_vals hls fun pv H2 hpv s2 hv => ?_
      walk_at "rd"
      refine rd_sortVR hv (s2 _ _ hls) toV_vals fun ns q H3 hp hd s3 hq hns => ?_
      have hn : lets.length = ns.length := by rw [hp.length_eq, List.length_map]
      have hmost : T.most ≤ (lets.length : Int) := by
        have h1 : T.most ≤ ((liveL c lets).length : Int) := of_decide_eq_true hh1
        have h2 : (liveL c lets).length ≤ lets.length := List.length_filter_le _ _
        omega
      have hm1 : 1 ≤ T.most := by
        obtain ⟨_, _, z6, z7⟩ := ok
        unfold Tm.most
        omega
      walk_at "rd"
      obtain ⟨e, he2⟩ : ∃ e, ns[(T.most - 1).toNat]? = some e := ⟨_, List.getElem?_eq_getElem (by omega)⟩
      refine rd_ixL (v := .int e) (sq_l hns) ?_ ?_
      · rw [show T.most - 1 = (((T.most - 1).toNat : Nat) : Int) by omega]
        exact atI_nat (by rw [List.getElem?_map, he2]; rfl)
      · have hs := Same.trans s2 s3
        exact k _ _ (hH1.same hs) (hk1.trans (Same.kp3 hs)) (.inr ⟨hh1, ns, e, hp, hd, he2, rfl⟩)
abbrev s_Holder_free : Stmt := inClass (top 8) 6
abbrev N_Holder_free : List Str := ["self", "clock"]
theorem sc_Holder_free : FnScope ["self", "clock"] ["self", "clock"] (defScope s_Holder_free) := ⟨rfl, rfl, rfl, by decide +kernel, rfl, by decide +kernel, by decide +kernel⟩
theorem ok_Holder_free {f : Addr} {fd : FuncData} (F : Fun K "free" "Holder.free" s_Holder_free f fd) (TH : HTxt K C_Holder) (X_Back : ExT K mg "Back" C_Back) (X_NotAsked : ExT K mg "NotAsked" C_NotAsked)
    (D_Holder_look : MtB P w K mg base (L2.CX P w) 1 C_Holder "look" ["self", "clock"] (spLookH C_Holder C_Terms C_Back)) :
    FnOk P w K mg base (L2.CX P w) 2 f fd ["self", "clock"] (spFreeH C_Holder C_Terms C_Back C_NotAsked) := by
  refine F.okX sc_Holder_free (fun vs H Q E h => ?_) (fun cdv A outer s H vs Q E hr h => ?_)
  · obtain ⟨h, t, nm, da, dl, s, T, c, rfl, _⟩ := h
    rfl
  · obtain ⟨h, t, nm, da, dl, ⟨life, c0, many, asks, lets⟩, T, c, rfl, hH, wf, hT, he, hea, k⟩ := h
    obtain ⟨c_Holder, n1, n2, n3, n4, n5, n6, n7⟩ := TH
    obtain ⟨⟨dx0, hh0⟩, has0, hls0⟩ := id hH
    obtain ⟨g_Back, k_Back, x_Back, sb_Back, ty_Back, ec_Back⟩ := X_Back
    obtain ⟨g_NotAsked, k_NotAsked, x_NotAsked, sb_NotAsked, ty_NotAsked, ec_NotAsked⟩ := X_NotAsked
    obtain ⟨f_Holder_look, fd_Holder_look, G_Holder_look, M_Holder_look, b_Holder_look⟩ := D_Holder_look
    dsimp only at he hea k hh0 has0 hls0
    have hah : da ≠ h := ne_of has0 hh0 (by intro z; cases z)
    have hlh : dl ≠ h := ne_of hls0 hh0 (by intro z; cases z)
    refine ⟨_, (pss_cons (ps_if (pt_cmpR op_lt (pv 1) (pe_fld (pv 0) rfl) (nomark _))
    (pss_one (ps_raise rfl (takes_of rfl rfl rfl rfl) (pmk_own PySem.F.excBase_ValueError x_Back g_Back k_Back (raises_own sb_Back ty_Back) rfl)))
    pss_nil)
    (pss_cons (ps_if (pt_cmpR op_eq (pe_fld (pv 0) rfl) pe_int (nomark _))
    (pss_one (ps_raise rfl (takes_of rfl rfl rfl rfl) (pmk_own PySem.F.excBase_ValueError x_NotAsked g_NotAsked k_NotAsked (raises_own sb_NotAsked ty_NotAsked) rfl)))
    pss_nil)
    (pss_cons (ps_expr (pe_meth (pv 0) c_Holder M_Holder_look G_Holder_look (hr.mono (by decide)) b_Holder_look .nil (passes_call (takes_of rfl rfl rfl rfl) (fun _ _ _ _ h => h)) (pa_cons (pv 1) pa_nil)))
    (pss_cons (ps_fld (pv 0) pe_dnewT rfl)
    (pss_cons (ps_fld (pv 0) pe_dnewK rfl)
    (pss_one (ps_ret (pe_tup (pa_cons (pe_fld (pv 0) rfl) (pa_cons (pe_op op_sub (pe_fld (pv 0) rfl) pe_int) pa_nil)))))))))), ?_⟩
    by_cases hb : c < c0
    · walk_at "rd"
      exact he hb
    · have hc : c0 ≤ c := by omega
      have hea := hea hc
      by_cases hm : many = 0
      · subst hm
        walk_at "rd"
        all_goals first
          | exact hea rfl
          | skip
      · have k := k hc hm
        walk_at "rd"
        refine spLookH_use hH wf hT (fun z => he z) fun _ H1 hH1 hk1 => ?_
        obtain ⟨⟨dx, hh⟩, has, hls⟩ := id hH1
        dsimp only [hLook] at hh has hls
        have keep : ∀ {b : Addr}, H1 b = none → H b = none := fun {b} e => by
          cases z : H b with
          | none => rfl
          | some o =>
            have e1 : b ≠ h := by intro w; rw [w, hh] at e; cases e
            have e2 : b ≠ da := by intro w; rw [w, has] at e; cases e
            have e3 : b ≠ dl := by intro w; rw [w, hls] at e; cases e
            rw [hk1 b o e1 e2 e3 z] at e
            cases e
        walk_at "rd"
        refine rd_dnewT fun na hna => ?_
        have hn1 : h ≠ na := ne_of_none hh hna
        walk_at "rd"
        refine rd_dnewK fun nl hnl => ?_
        have hn2 : h ≠ nl := ne_of_none (by walk_at "hp") hnl
        have hn3 : na ≠ nl := ne_of_none (by walk_at "hp") hnl
        have hnl1 : H1 nl = none := by
          rw [upd_ne (ne_symm' hn2), upd_ne (ne_symm' hn3)] at hnl
          exact hnl
        walk_at "rd"
        refine newt_s (Nat.le_of_ble_eq_true rfl) fun q H2 hq s2 hq2 => ?_
        have hqh : h ≠ q := ne_of_none upd_same hq
        have hqn : na ≠ q := ne_of_none (by walk_at "hp") hq
        have hql : nl ≠ q := ne_of_none (by walk_at "hp") hq
        have hq1 : H1 q = none := by
          rw [upd_ne (ne_symm' hqh), upd_ne (ne_symm' hql), upd_ne (ne_symm' hqh), upd_ne (ne_symm' hqn)] at hq
          exact hq
        refine k q na nl _ ⟨⟨dx, by walk_at "hp"⟩, by walk_at "hp", by walk_at "hp"⟩ (hk1.trans fun b o g1 g2 g3 e => s2 _ _ ?_) (keep hq1) (keep hna) (keep hnl1) hn3 hq2
        have e1 : b ≠ na := ne_of_none e hna
        have e2 : b ≠ nl := ne_of_none e hnl1
        rw [upd_ne g1, upd_ne e2, upd_ne g1, upd_ne e1]
        exact e
end
end Lh
namespace Lh
open PySem PySem.Spec PyProof.Rows L2
section
variable {P : Program} {w : World} {K : PySem.W.Frag} {mg : Str → Option Value} {base : Heap}
abbrev s__law_terms : Stmt := top 19
abbrev N__law_terms : List Str := ["_law_script", "_law_k", "_law_low", "_law_high", "_law_length"]
theorem sc__law_terms : FnScope ["_law_script", "_law_k", "_law_low", "_law_high", "_law_length"] ["_law_script", "_law_k"] (defScope s__law_terms) := ⟨rfl, rfl, rfl, by decide +kernel, rfl, by decide +kernel, by decide +kernel⟩
theorem ok__law_terms {f : Addr} {fd : FuncData} (F : Fun K "_law_terms" "_law_terms" s__law_terms f fd) (D__law_mix : FnB P w K mg base CX0 2 "_law_mix" ["_law_script", "_law_k"] (spMix K)) :
    FnOk P w K mg base CX0 3 f fd ["_law_script", "_law_k"] (spTerms K) := by
  refine F.ok sc__law_terms (fun vs H Q E h => ?_) (fun cdv A outer s H vs Q E hr h => ?_)
  · obtain ⟨a, ns, k, rfl, _⟩ := h
    rfl
  · obtain ⟨a, ns, k, rfl, hS, q⟩ := h
    obtain ⟨f__law_mix, fd__law_mix, G__law_mix, g__law_mix, k__law_mix, b__law_mix⟩ := D__law_mix
    refine ⟨_, (pss_cons (ps_set (i := 2) sc__law_terms.nd rfl (Or.inl rfl) (pe_op op_add pe_int (pe_op op_mod (pe_call G__law_mix (hr.mono (by decide)) rfl g__law_mix k__law_mix b__law_mix .nil pass0 (pa_cons (pv 0) (pa_cons (pv 1) pa_nil))) pe_int)))
    (pss_cons (ps_set (i := 3) sc__law_terms.nd rfl (Or.inl rfl) (pe_op op_add (pv 2) (pe_op op_mod (pe_call G__law_mix (hr.mono (by decide)) rfl g__law_mix k__law_mix b__law_mix .nil pass0 (pa_cons (pv 0) (pa_cons (pe_op op_add (pv 1) pe_int) pa_nil))) pe_int)))
    (pss_cons (ps_set (i := 4) sc__law_terms.nd rfl (Or.inl rfl) (pe_ix ix_list (pe_lst (pa_cons pe_int (pa_cons pe_int (pa_cons pe_int (pa_cons pe_int (pa_cons pe_int (pa_cons pe_int pa_nil))))))) (pe_op op_mod (pe_call G__law_mix (hr.mono (by decide)) rfl g__law_mix k__law_mix b__law_mix .nil pass0 (pa_cons (pv 0) (pa_cons (pe_op op_add (pv 1) pe_int) pa_nil))) pe_int) (fun _ _ => rfl)))
    (pss_one (ps_ret (pe_tup (pa_cons (pv 2) (pa_cons (pv 3) (pa_cons (pv 4) (pa_cons (pe_ix ix_list (pe_lst (pa_cons pe_int (pa_cons pe_int (pa_cons pe_int (pa_cons pe_int (pa_cons pe_int (pa_cons pe_int pa_nil))))))) (pe_op op_mod (pe_call G__law_mix (hr.mono (by decide)) rfl g__law_mix k__law_mix b__law_mix .nil pass0 (pa_cons (pv 0) (pa_cons (pe_op op_add (pv 1) pe_int) pa_nil))) pe_int) (fun _ _ => rfl)) pa_nil)))))))))), ?_⟩
    walk_at "rdm"
    rename_i z1 m1 _ _ _ _ _ _ _
    simp only [List.mem_cons, List.not_mem_nil, or_false, V.int.injEq] at *
    refine q _ _ ⟨_, _, _, _⟩ ?_ ?_ ?_ ?_ ?_ ?_ (by assumption)
    · refine ⟨⟨?_, ?_, ?_⟩, ⟨?_, ?_⟩, ?_, ?_⟩ <;> dsimp only <;> omega
    · dsimp only; omega
    · dsimp only; omega
    · dsimp only; omega
    · walk_at "sm"
    · walk_at "fr"
abbrev s__law_wait : Stmt := top 20
abbrev N__law_wait : List Str := ["_law_terms_here", "_law_ticks_here"]
theorem sc__law_wait : FnScope ["_law_terms_here", "_law_ticks_here"] ["_law_terms_here"] (defScope s__law_wait) := ⟨rfl, rfl, rfl, by decide +kernel, rfl, by decide +kernel, by decide +kernel⟩
theorem ok__law_wait {f : Addr} {fd : FuncData} (F : Fun K "_law_wait" "_law_wait" s__law_wait f fd) : FnOk P w K mg base CX0 1 f fd ["_law_terms_here"] spWait := by
  refine F.ok sc__law_wait (fun vs H Q E h => ?_) (fun cdv A outer s H vs Q E hr h => ?_)
  · obtain ⟨p, T, rfl, _⟩ := h
    rfl
  · obtain ⟨p, T, rfl, hp, hT, h5, hl, q⟩ := h
    obtain ⟨⟨t1, t2, t3⟩, ⟨t4, t5⟩, t6, t7⟩ := id hT
    refine ⟨_, (pss_cons (ps_set (i := 1) sc__law_wait.nd rfl (Or.inl rfl) pe_int)
    (pss_cons (ps_while PassesOwn.never (pt_cmpR op_lt (pe_op op_mul (pv 1) (pe_ix ix_tup (pv 0) pe_int (fun _ _ => rfl))) (pe_ix ix_tup (pv 0) pe_int (fun _ _ => rfl)) (nomark _))
    (pss_one (ps_set (i := 1) sc__law_wait.nd rfl (Or.inl rfl) (pe_op op_add (pv 1) pe_int))))
    (pss_one (ps_ret (pe_op op_mul (pe_ix ix_tup (pv 0) pe_int (fun _ _ => rfl)) (pv 1)))))), ?_⟩
    walk_at "rd"
    refine rd_while (fun m σ H' => ∃ k : Int, σ = [some (.ref p), some (.int k)] ∧ 0 ≤ k ∧ (k - 1) * T.low < T.len ∧ m = (T.len - k * T.low).toNat ∧ H' = H) _ ⟨0, rfl, by omega, by omega, rfl, rfl⟩ ?_
    rintro m σ H' ⟨k, rfl, h0, h1, rfl, rfl⟩
    walk_at "rd"
    refine rd_I (.inr ⟨by omega, by omega⟩) ?_
    walk_at "rd"
    · have e : (k + 1) * T.low = k * T.low + T.low := by rw [Int.add_mul, Int.one_mul]
      have e2 : (k + 1 - 1) * T.low = k * T.low := by rw [Int.add_sub_cancel]
      exact ⟨_, by omega, k + 1, rfl, by omega, by omega, rfl, rfl⟩
    · refine rd_I (.inl ⟨by omega, by omega⟩) ?_
      have e := Tm.ticks_is hT h1 (by omega)
      rw [e]
      exact q
end
end Lh
namespace Lh
open PySem PySem.Spec PyProof.Rows L2
section
variable {P : Program} {w : World} {K : PySem.W.Frag} {mg : Str → Option Value} {base : Heap}
abbrev s__law_ticks : Stmt := top 21
abbrev N__law_ticks : List Str := ["_law_script", "_law_k", "_law_terms_here", "_law_clocks", "_law_many", "_law_way", "_law_j", "_law_step"]
theorem sc__law_ticks : FnScope ["_law_script", "_law_k", "_law_terms_here", "_law_clocks", "_law_many", "_law_way", "_law_j", "_law_step"] ["_law_script", "_law_k", "_law_terms_here", "_law_clocks", "_law_many"] (defScope s__law_ticks) := ⟨rfl, rfl, rfl, by decide +kernel, rfl, by decide +kernel, by decide +kernel⟩
theorem ok__law_ticks {f : Addr} {fd : FuncData} (F : Fun K "_law_ticks" "_law_ticks" s__law_ticks f fd) (z_len : mg "len" = none) (z_range : mg "range" = none) (z_int : mg "int" = none)
    (D__law_mix : FnB P w K mg base CX0 2 "_law_mix" ["_law_script", "_law_k"] (spMix K)) : FnOk P w K mg base CX0 3 f fd ["_law_script", "_law_k", "_law_terms_here", "_law_clocks", "_law_many"] (spTicks K) := by
  refine F.ok sc__law_ticks (fun vs H Q E h => ?_) (fun cdv A outer s H vs Q E hr h => ?_)
  · obtain ⟨a, th, cl, ns, k, m, T, n, clk, rfl, _⟩ := h
    rfl
  · obtain ⟨a, th, cl, ns, k, m, T, n, clk, rfl, hS, hth, hT, h5, hm0, hm1, hn, hcl, q⟩ := h
    obtain ⟨f__law_mix, fd__law_mix, G__law_mix, g__law_mix, k__law_mix, b__law_mix⟩ := D__law_mix
    have hu := hu_of hr
    have hS0 := hS.sq
    obtain ⟨⟨t1, t2, t3⟩, ⟨t4, t5⟩, t6, t7⟩ := id hT
    refine ⟨_, (pss_cons (ps_set (i := 5) sc__law_ticks.nd rfl (Or.inl rfl) (pe_op op_mod (pe_call G__law_mix (hr.mono (by decide)) rfl g__law_mix k__law_mix b__law_mix .nil pass0 (pa_cons (pv 0) (pa_cons pe_int pa_nil))) pe_int))
    (pss_one (ps_for PassesOwn.never rfl (pi_range1 (by rfl) z_range (pa_cons (pe_callB cr_len (by rfl) z_len (by decide +kernel) (pa_cons (pv 3) pa_nil)) pa_nil)) (pg_name (i := 6) sc__law_ticks.nd rfl (Or.inl rfl))
    (pss_cons (ps_set (i := 7) sc__law_ticks.nd rfl (Or.inl rfl) (pe_op op_add (pe_op op_mul (pv 4) (pe_ix ix_tup (pv 2) pe_int (fun _ _ => rfl))) (pe_op op_modN (pe_op op_fdiv (pe_call G__law_mix (hr.mono (by decide)) rfl g__law_mix k__law_mix b__law_mix .nil pass0 (pa_cons (pv 0) (pa_cons (pe_op op_add (pv 1) (pe_op op_mul pe_int (pv 6))) pa_nil))) pe_int) (pe_op op_add (pe_op op_mul (pv 4) (pe_op op_sub (pe_ix ix_tup (pv 2) pe_int (fun _ _ => rfl)) (pe_ix ix_tup (pv 2) pe_int (fun _ _ => rfl)))) pe_int))))
    (pss_cons (ps_if (pt_cmpR op_gt (pv 5) pe_int (nomark _))
    (pss_one (ps_set (i := 7) sc__law_ticks.nd rfl (Or.inl rfl) (pe_op op_mul (pv 4) (pe_ix ix_tup (pv 2) (pe_callTy cr_int1 (by rfl) z_int (by decide +kernel) (pa_cons (pe_cmpR op_eq (pe_cmpR op_lt (pv 6) (pe_ix ix_tup (pv 2) pe_int (fun _ _ => rfl)) (nomark _)) (pe_cmpR op_eq (pv 5) pe_int (nomark _)) (nomark _)) pa_nil)) (fun _ _ => rfl)))))
    pss_nil)
    (pss_one (ps_asg (pe_op op_add (pe_ix ix_list (pv 3) (pv 6) (fun _ _ => rfl)) (pv 7)) (pg_sub (pv 3) (pv 6) set_list)))))))), ?_⟩
    walk_at "rdm"
    rename_i m13 m13a m13b
    obtain ⟨way, hway⟩ : ∃ c, m13 % 3 = c := ⟨_, rfl⟩
    have hw3 : 0 ≤ way ∧ way < 3 := by omega
    rw [hway, rg_len]
    refine rng1 (by omega) (by omega) ?_
    refine forR (fun i σ H5 => ∃ v6 v7 clk', σ = [some (.ref a), some (.int k), some (.ref th), some (.ref cl), some (.int m), some (.int way), v6, v7] ∧ (∀ j, j < n → if j < i then clk j + m * T.low ≤ clk' j ∧ clk' j ≤ clk j + m * T.high else clk' j = clk j) ∧
      Kp cl H H5 ∧ H5 cl = some (.lst ((List.range n).map fun j => V.int (clk' j)))) ⟨_, _, clk, rfl, fun j _ => by rw [if_neg (Nat.not_lt_zero j)], fun _ _ _ e => e, hcl⟩ ?_ ?_
    · rintro i σ H5 hi ⟨v6, v7, clk', rfl, hb, hk, hc5⟩
      have hi' : i < n := by omega
      have hS5 : SqL K H5 a (ns.map V.int) := (hS.to (fun _ z => z) (fun o hn e _ => hk _ _ (fun z => hn (by simp [z])) e)).sq
      have hth5 : H5 th = some (.tup [.int T.low, .int T.high, .int T.len, .int T.kn]) := hk _ _ (ne_of hth hcl (by intro z; cases z)) hth
      have hmd : 0 ≤ m * (T.high - T.low) := Int.mul_nonneg hm0 (by omega)
      walk_at "rdm"
      refine rd_I (.inl ⟨by omega, by omega⟩) ?_
      walk_at "rdm"
      refine rd_I (.inl ⟨by omega, by omega⟩) ?_
      walk_at "rdm"
      refine rd_I (by omega) ?_
      rename_i z17 z17a z17b
      have hf1 := Int.fmod_nonneg_of_pos (z17 / 4) (show 0 < m * (T.high - T.low) + 1 by omega)
      have hf2 := Int.fmod_lt_of_pos (z17 / 4) (show 0 < m * (T.high - T.low) + 1 by omega)
      generalize (z17 / 4).fmod (m * (T.high - T.low) + 1) = fm at *
      have hms : m * (T.high - T.low) = m * T.high - m * T.low := Int.mul_sub _ _ _
      try simp only [List.set_cons_zero, List.set_cons_succ]
      walk_at "rdm"
      · rename_i z18 z18a z18b z18c
        clear z18c
        rcases (show z18 = 0 ∨ z18 = 1 by omega) with rfl | rfl
        · refine rd_ixT (sq_t hth5) rfl ?_
          refine rd_I (.inl ⟨by omega, by omega⟩) ?_
          walk_at "rdm"
          refine rd_ixL (sq_l hc5) (by rw [Int.zero_add]; exact rg_get hi') ?_
          walk_at "rdm"
          refine setl hc5 (by rw [Int.zero_add, rg_len]; exact ixn hi') ?_
          refine ⟨_, _, fun j => if j = i then clk' i + (m * T.low) else clk' j, rfl, fun j hj => ?_, hk.trans kp_upd, ?_⟩
          · have z := hb j hj
            dsimp only
            by_cases e : j = i
            · subst e
              rw [if_neg (Nat.lt_irrefl j)] at z
              rw [if_pos (Nat.lt_succ_self j), if_pos rfl]
              omega
            · rw [if_neg e]
              by_cases e2 : j < i
              · rw [if_pos e2] at z
                rw [if_pos (by omega)]
                exact z
              · rw [if_neg e2] at z
                rw [if_neg (by omega)]
                exact z
          · rw [upd_same, rg_set]
            refine congrArg (fun l => some (HO.lst l)) (List.map_congr_left fun j _ => ?_)
            dsimp only
            split <;> rfl
        · refine rd_ixT (sq_t hth5) rfl ?_
          refine rd_I (.inl ⟨by omega, by omega⟩) ?_
          walk_at "rdm"
          refine rd_ixL (sq_l hc5) (by rw [Int.zero_add]; exact rg_get hi') ?_
          walk_at "rdm"
          refine setl hc5 (by rw [Int.zero_add, rg_len]; exact ixn hi') ?_
          refine ⟨_, _, fun j => if j = i then clk' i + (m * T.high) else clk' j, rfl, fun j hj => ?_, hk.trans kp_upd, ?_⟩
          · have z := hb j hj
            dsimp only
            by_cases e : j = i
            · subst e
              rw [if_neg (Nat.lt_irrefl j)] at z
              rw [if_pos (Nat.lt_succ_self j), if_pos rfl]
              omega
            · rw [if_neg e]
              by_cases e2 : j < i
              · rw [if_pos e2] at z
                rw [if_pos (by omega)]
                exact z
              · rw [if_neg e2] at z
                rw [if_neg (by omega)]
                exact z
          · rw [upd_same, rg_set]
            refine congrArg (fun l => some (HO.lst l)) (List.map_congr_left fun j _ => ?_)
            dsimp only
            split <;> rfl
      · refine rd_ixL (sq_l hc5) (by rw [Int.zero_add]; exact rg_get hi') ?_
        walk_at "rdm"
        refine setl hc5 (by rw [Int.zero_add, rg_len]; exact ixn hi') ?_
        refine ⟨_, _, fun j => if j = i then clk' i + (m * T.low + fm) else clk' j, rfl, fun j hj => ?_, hk.trans kp_upd, ?_⟩
        · have z := hb j hj
          dsimp only
          by_cases e : j = i
          · subst e
            rw [if_neg (Nat.lt_irrefl j)] at z
            rw [if_pos (Nat.lt_succ_self j), if_pos rfl]
            omega
          · rw [if_neg e]
            by_cases e2 : j < i
            · rw [if_pos e2] at z
              rw [if_pos (by omega)]
              exact z
            · rw [if_neg e2] at z
              rw [if_neg (by omega)]
              exact z
        · rw [upd_same, rg_set]
          refine congrArg (fun l => some (HO.lst l)) (List.map_congr_left fun j _ => ?_)
          dsimp only
          split <;> rfl
    · rintro σ H5 ⟨v6, v7, clk', rfl, hb, hk, hc5⟩
      walk_at "rdm"
      refine q H5 clk' (fun j hj => ?_) hk hc5
      have z := hb j hj
      rw [if_pos (by omega)] at z
      exact z
end
end Lh
namespace Lh
open PySem PySem.Spec PyProof.Rows L2
section
variable {P : Program} {w : World} {K : PySem.W.Frag} {mg : Str → Option Value} {base : Heap} {C_Keeper C_Holder C_Terms : Addr}
abbrev s__law_to_all : Stmt := top 23
abbrev N__law_to_all : List Str := ["_law_town", "_law_kind", "_law_name", "_law_number", "_law_keeper"]
theorem sc__law_to_all : FnScope ["_law_town", "_law_kind", "_law_name", "_law_number", "_law_keeper"] ["_law_town", "_law_kind", "_law_name", "_law_number"] (defScope s__law_to_all) := ⟨rfl, rfl, rfl, by decide +kernel, rfl, by decide +kernel, by decide +kernel⟩
theorem ok__law_to_all {f : Addr} {fd : FuncData} (F : Fun K "_law_to_all" "_law_to_all" s__law_to_all f fd) (z_len : mg "len" = none) (z_range : mg "range" = none) :
    FnOk P w K mg base CX0 1 f fd ["_law_town", "_law_kind", "_law_name", "_law_number"] (spToAll K C_Keeper C_Holder C_Terms) := by
  refine F.ok sc__law_to_all (fun vs H Q E h => ?_) (fun cdv A outer s H vs Q E hr h => ?_)
  · obtain ⟨A, T, kn, nh, ns, ps, hs, ms, S, kd, nm, n, q, rfl, _⟩ := h
    rfl
  · obtain ⟨A, T, kn, nh, ns, ps, hs, ms, S, kd, nm, n, q, rfl, W, hq, hkn, hbl, k⟩ := h
    have hu := hu_of hr
    obtain ⟨ls, lw, lc, lb, lk, lh, _, _, _, _, _, _⟩ := id W.L
    refine ⟨_, (pss_one (ps_for PassesOwn.never rfl (pi_range1 (by rfl) z_range (pa_cons (pe_callB cr_len (by rfl) z_len (by decide +kernel) (pa_cons (pe_dget hu (pv 0) pe_str (fun _ _ => rfl)) pa_nil)) pa_nil)) (pg_name (i := 4) sc__law_to_all.nd rfl (Or.inl rfl))
    (pss_one (ps_expr (pe_bm PySem.F.plainAttrs_list PySem.F.slot_list_append PySem.F.type_list_append mt_append (pe_dget hu (pv 0) pe_str (fun _ _ => rfl)) (pa_cons (pe_tup (pa_cons (pv 1) (pa_cons (pv 4) (pa_cons (pv 2) (pa_cons (pv 3) pa_nil))))) pa_nil)))))), ?_⟩
    walk_at "rdm"
    rw [ps_len, W.O.pl]
    refine rng1 (by omega) (by omega) ?_
    refine forR (fun i σ H5 => ∃ v4 ms', σ = [some (.ref A.tw), some (.str (kdS kd)), some (.int (nm : Int)), some (.ref q), v4] ∧ TwAt K C_Keeper C_Holder C_Terms H5 A T kn nh ns ps hs ms' (S.setB (S.bag ++ (List.range i).map fun k => ⟨kd, k, nm, n⟩)) ∧ H5 q = some (.tup [.int n.1, .int n.2]))
      ⟨_, ms, rfl, by rw [List.range_zero, List.map_nil, List.append_nil]; exact W, hq⟩ ?_ ?_
    · rintro i σ H5 hi ⟨v4, ms', rfl, W5, hq5⟩
      obtain ⟨ls5, lw5, lc5, lb5, lk5, lh5, _, _, _, _, _, _⟩ := id W5.L
      walk_at "rdm"
      rename_i p1 H6 e6 s6 h6
      have W6 := W5.same s6
      have hq6 := s6 _ _ hq5
      refine rd_append (p := A.bg) W6.L.bg (sz_lt ?_) ?_
      · rw [ps_len, W6.O.ml]
        show (S.bag ++ (List.range i).map fun k => (⟨kd, k, nm, n⟩ : Msg)).length ≤ 10000000
        rw [List.length_append, List.length_map, List.length_range]
        omega
      · refine ⟨_, ms' ++ [p1], rfl, ?_, ?_⟩
        · have z := W6.addB (m := p1) (b := ⟨kd, i, nm, n⟩) ⟨q, by rw [h6, Int.zero_add], hq6⟩
          rw [List.range_succ, List.map_append, ← List.append_assoc]
          exact z
        · rw [upd_ne (ne_of hq6 W6.L.bg (by intro z; cases z))]
          exact hq6
    · rintro σ H5 ⟨v4, ms', rfl, W5, hq5⟩
      walk_at "rdm"
      exact k ms' H5 W5
end
end Lh
namespace Lh
open PySem PySem.Spec PyProof.Rows L2
section
variable {P : Program} {w : World} {K : PySem.W.Frag} {mg : Str → Option Value} {base : Heap} {C_Terms C_Keeper C_Holder C_Back C_NoKeeper : Addr}
abbrev s__law_come : Stmt := top 22
abbrev N__law_come : List Str := ["_law_message", "_law_town", "_law_keep", "_law_kind", "_law_keeper", "_law_name", "_law_number", "_law_clocks"]
theorem sc__law_come : FnScope ["_law_message", "_law_town", "_law_keep", "_law_kind", "_law_keeper", "_law_name", "_law_number", "_law_clocks"] ["_law_message", "_law_town", "_law_keep"] (defScope s__law_come) := ⟨rfl, rfl, rfl, by decide +kernel, rfl, by decide +kernel, by decide +kernel⟩
set_option maxHeartbeats 0 in
theorem ok__law_come {f : Addr} {fd : FuncData} (F : Fun K "_law_come" "_law_come" s__law_come f fd) (c_Keeper : Cls K C_Keeper) (c_Holder : Cls K C_Holder) (z_len : mg "len" = none)
    (D_Keeper_asked : MtB P w K mg base (L2.CX P w) 3 C_Keeper "asked" ["self", "clock", "name", "number"] (spAsked C_Keeper C_Terms C_Back)) (D_Keeper_freed : MtB P w K mg base (L2.CX P w) 2 C_Keeper "freed" ["self", "clock", "name", "number"] (spFreed C_Keeper C_Back))
    (D_Holder_hear : MtB P w K mg base (L2.CX P w) 2 C_Holder "hear" ["self", "clock", "keeper", "number"] (spHearH C_Holder C_Terms C_Back C_NoKeeper)) :
    FnOk P w K mg base CX0 4 f fd ["_law_message", "_law_town", "_law_keep"] (spCome K C_Keeper C_Holder C_Terms) := by
  refine F.ok sc__law_come (fun vs H Q E h => ?_) (fun cdv A9 outer s H vs Q E hr h => ?_)
  · obtain ⟨A, T, kn, nh, ns, ps, hs, ms, S, o, d, b, i, m, keep, rfl, _⟩ := h
    rfl
  · obtain ⟨A, T, kn, nh, ns, ps, hs, ms, S, o, d, b, i, m, keep, rfl, W, I, hbl, hD, hd, hb, hm, q⟩ := h
    have hu := hu_of hr
    obtain ⟨f_Keeper_asked, fd_Keeper_asked, G_Keeper_asked, M_Keeper_asked, b_Keeper_asked⟩ := D_Keeper_asked
    obtain ⟨f_Keeper_freed, fd_Keeper_freed, G_Keeper_freed, M_Keeper_freed, b_Keeper_freed⟩ := D_Keeper_freed
    obtain ⟨f_Holder_hear, fd_Holder_hear, G_Holder_hear, M_Holder_hear, b_Holder_hear⟩ := D_Holder_hear
    obtain ⟨ls, lw, lc, lb, lk, lh, _, _, _, _, _, _⟩ := id W.L
    have hml := W.O.ml
    have him := (List.getElem?_eq_some_iff.mp hm).1
    obtain ⟨⟨kd, k, nm, n⟩, hbi⟩ : ∃ x, S.bag[i]? = some x := ⟨_, List.getElem?_eq_getElem (by omega)⟩
    have hM := I.M _ (List.mem_of_getElem? hbi)
    obtain ⟨h2, h3, h4, h5, h6, h7⟩ := id hM
    dsimp only at h2 h3 h4 h5 h6 h7
    obtain ⟨qa, hm1, hq1⟩ := W.O.mm i m _ hm hbi
    dsimp only at hm1 hq1
    obtain ⟨p, hp⟩ : ∃ p, ps[k]? = some p := ⟨_, List.getElem?_eq_getElem (by rw [W.O.pl]; exact h3)⟩
    obtain ⟨x, hx⟩ : ∃ x, hs[nm]? = some x := ⟨_, List.getElem?_eq_getElem (by rw [W.O.hn]; exact h4)⟩
    obtain ⟨dk, nk, uk, hpo, _⟩ := id (W.O.ks k p hp)
    obtain ⟨⟨dh, hho⟩, _, _⟩ := id (W.O.hh nm x hx)
    have hlen : ∀ S' : Town, S'.bag.length ≤ b → S'.bag.length ≤ b + 1 := fun _ z => by omega
    refine ⟨_, (pss_cons (ps_asg (pv 0) (pg_tup rfl (pgs_cons (pg_name (i := 3) sc__law_come.nd rfl (Or.inl rfl)) (pgs_cons (pg_name (i := 4) sc__law_come.nd rfl (Or.inl rfl)) (pgs_cons (pg_name (i := 5) sc__law_come.nd rfl (Or.inl rfl)) (pgs_cons (pg_name (i := 6) sc__law_come.nd rfl (Or.inl rfl)) pgs_nil))))))
    (pss_cons (ps_set (i := 7) sc__law_come.nd rfl (Or.inl rfl) (pe_dget hu (pv 1) pe_str (fun _ _ => rfl)))
    (pss_cons (ps_if (pt_cmpR op_eq (pv 3) pe_str (nomark _))
    (pss_one (ps_if (pt_val (pe_meth (pe_ix ix_list (pe_dget hu (pv 1) pe_str (fun _ _ => rfl)) (pv 4) (fun _ _ => rfl)) c_Keeper M_Keeper_asked G_Keeper_asked (hr.mono (by decide)) b_Keeper_asked .nil passL (pa_cons (pe_ix ix_list (pv 7) (pv 4) (fun _ _ => rfl)) (pa_cons (pv 5) (pa_cons (pv 6) pa_nil)))))
    (pss_one (ps_expr (pe_bm PySem.F.plainAttrs_list PySem.F.slot_list_append PySem.F.type_list_append mt_append (pe_dget hu (pv 1) pe_str (fun _ _ => rfl)) (pa_cons (pe_tup (pa_cons pe_str (pa_cons (pv 4) (pa_cons (pv 5) (pa_cons (pv 6) pa_nil))))) pa_nil))))
    pss_nil))
    (pss_one (ps_if (pt_cmpR op_eq (pv 3) pe_str (nomark _))
    (pss_one (ps_expr (pe_meth (pe_ix ix_list (pe_dget hu (pv 1) pe_str (fun _ _ => rfl)) (pv 4) (fun _ _ => rfl)) c_Keeper M_Keeper_freed G_Keeper_freed (hr.mono (by decide)) b_Keeper_freed .nil passL (pa_cons (pe_ix ix_list (pv 7) (pv 4) (fun _ _ => rfl)) (pa_cons (pv 5) (pa_cons (pv 6) pa_nil))))))
    (pss_one (ps_expr (pe_meth (pe_ix ix_list (pe_dget hu (pv 1) pe_str (fun _ _ => rfl)) (pv 5) (fun _ _ => rfl)) c_Holder M_Holder_hear G_Holder_hear (hr.mono (by decide)) b_Holder_hear .nil passL (pa_cons (pe_ix ix_list (pv 7) (pe_op op_add (pe_callB cr_len (by rfl) z_len (by decide +kernel) (pa_cons (pe_dget hu (pv 1) pe_str (fun _ _ => rfl)) pa_nil)) (pv 5)) (fun _ _ => rfl)) (pa_cons (pv 4) (pa_cons (pv 6) pa_nil)))))))))
    (pss_one (ps_if (pt_not (pt_val (pv 2)))
    (pss_one (ps_expr (pe_bm PySem.F.plainAttrs_list PySem.F.slot_list_remove PySem.F.type_list_remove (mt_removeD (units65 hr)) (pe_dget hu (pv 1) pe_str (fun _ _ => rfl)) (pa_cons (pv 0) pa_nil))))
    pss_nil))))), ?_⟩
    walk_at "rdm"
    refine rd_gtup (sq_t hm1) rfl (rd_gcons (rd_gname (rd_gcons (rd_gname (rd_gcons (rd_gname (rd_gcons (rd_gname (rd_gnil ?_)))))))))
    try simp only [List.set_cons_zero, List.set_cons_succ]
    rcases (show kd = 0 ∨ kd = 1 ∨ kd = 2 by omega) with rfl | rfl | rfl
    · walk_at "rdm"
      all_goals first
        | exact absurd rfl ‹¬V.str (kdS 0) = V.str "ask"›
        | skip
      refine rd_ixL (v := .ref p) (sq_l lk) (ps_get hp) ?_
      walk_at "rdm"
      refine rd_ixL (v := .int (S.clk k)) (sq_l lc) (rg_get (by omega)) ?_
      walk_at "rdm"
      refine t_asked W hp (I.kc k h3) hq1 fun H5 W5 t5 => ?_
      obtain ⟨o5, I5, g5⟩ := I.asked hD.ok h3 h4 h5
      have lw5 := W5.L.tw
      have lb5 := W5.L.bg
      have hq5 := t5 _ _ hq1
      try simp only [List.set_cons_zero, List.set_cons_succ]
      cases hk : (kAsk T.wait (S.clk k) (nm : Int) n.1 n.2 (S.ks k)).2 with
      | false =>
        cases keep with
        | true =>
          walk_at "rdm"
          exact q _ ⟨_, _, _, _, _, W5, I5, by rw [setK_bag]; omega⟩
        | false =>
          walk_at "rdm"
          refine t_remove W5 hm fun j hj => ?_
          walk_at "rdm"
          exact q _ (t_fin W5 I5 (by rw [setK_bag]; omega) hj)
      | true =>
        walk_at "rdm"
        rename_i p1 H6 e6 s6 h6
        have W6 := W5.same s6
        refine rd_append (p := A.bg) W6.L.bg (sz_lt (by rw [ps_len]; omega)) ?_
        have W7 := W6.addB (m := p1) (b := ⟨1, k, nm, n⟩) ⟨qa, h6, s6 _ _ hq5⟩
        have I7 := I5.setB (b := (S.setK k (kAsk T.wait (S.clk k) (nm : Int) n.1 n.2 (S.ks k)).1).bag ++ [⟨1, k, nm, n⟩]) fun x hx => by
          rcases List.mem_append.mp hx with z | z
          · exact .inl z
          · rw [List.mem_singleton.mp z]
            exact .inr ⟨by dsimp only; omega, h3, h4, h5, fun _ => g5 hk, fun z => absurd z (by dsimp only; omega)⟩
        have hm7 : (ms ++ [p1])[i]? = some m := by rw [List.getElem?_append_left him]; exact hm
        have lw7 := W7.L.tw
        have lb7 := W7.L.bg
        have hl7 : (((S.setK k (kAsk T.wait (S.clk k) (nm : Int) n.1 n.2 (S.ks k)).1).setB ((S.setK k (kAsk T.wait (S.clk k) (nm : Int) n.1 n.2 (S.ks k)).1).bag ++ [⟨1, k, nm, n⟩])).bag).length ≤ b + 1 := by
          show (S.bag ++ [_]).length ≤ b + 1
          rw [List.length_append, List.length_singleton]
          omega
        cases keep with
        | true =>
          walk_at "rdm"
          exact q _ ⟨_, _, _, _, _, W7, I7, by exact hl7⟩
        | false =>
          walk_at "rdm"
          refine t_remove W7 hm7 fun j hj => ?_
          walk_at "rdm"
          exact q _ (t_fin W7 I7 (by exact hl7) hj)
    · walk_at "rdm"
      all_goals first
        | exact absurd ‹V.str (kdS 1) = V.str "ask"› (by decide)
        | exact absurd ‹V.str (kdS 1) = V.str "free"› (by decide)
        | skip
      refine rd_ixL (v := .ref x.1) (sq_l lh) (hs_get hx) ?_
      walk_at "rdm"
      rw [ps_len, W.O.pl]
      refine rd_ixL (v := .int (S.clk (kn + nm))) (sq_l lc) ?_ ?_
      · rw [show ((kn : Int) + (nm : Int)) = ((kn + nm : Nat) : Int) by omega]
        exact rg_get (by omega)
      walk_at "rdm"
      have hkn := hD.k
      have hk5 := hD.k5
      refine t_hear (n := n) W hx (I.W nm h4).hc ((I.W nm h4).wf hd (by omega)) ⟨by omega, by omega⟩ hq1 fun H5 W5 t5 => ?_
      have I5 := I.hear h4 h3 (h6 rfl)
      have lw5 := W5.L.tw
      have lb5 := W5.L.bg
      try simp only [List.set_cons_zero, List.set_cons_succ]
      cases keep with
      | true =>
        walk_at "rdm"
        exact q _ ⟨_, _, _, _, _, W5, I5, by rw [setH_bag]; omega⟩
      | false =>
        walk_at "rdm"
        refine t_remove W5 hm fun j hj => ?_
        walk_at "rdm"
        exact q _ (t_fin W5 I5 (by rw [setH_bag]; omega) hj)
    · walk_at "rdm"
      all_goals first
        | exact absurd ‹V.str (kdS 2) = V.str "ask"› (by decide)
        | exact absurd rfl ‹¬V.str (kdS 2) = V.str "free"›
        | skip
      refine rd_ixL (v := .ref p) (sq_l lk) (ps_get hp) ?_
      walk_at "rdm"
      refine rd_ixL (v := .int (S.clk k)) (sq_l lc) (rg_get (by omega)) ?_
      walk_at "rdm"
      refine t_freed W hp (I.kc k h3) hq1 fun H5 W5 t5 => ?_
      have I5 := I.freed h3 (h7 rfl)
      have lw5 := W5.L.tw
      have lb5 := W5.L.bg
      try simp only [List.set_cons_zero, List.set_cons_succ]
      cases keep with
      | true =>
        walk_at "rdm"
        exact q _ ⟨_, _, _, _, _, W5, I5, by rw [setK_bag]; omega⟩
      | false =>
        walk_at "rdm"
        refine t_remove W5 hm fun j hj => ?_
        walk_at "rdm"
        exact q _ (t_fin W5 I5 (by rw [setK_bag]; omega) hj)
end
end Lh
namespace Lh
open PySem PySem.Spec PyProof.Rows L2
section
variable {P : Program} {w : World} {K : PySem.W.Frag} {mg : Str → Option Value} {base : Heap} {C_Terms C_Keeper C_Holder C_Back C_NoKeeper : Addr}
abbrev s__law_anew : Stmt := top 24
abbrev N__law_anew : List Str := ["_law_town", "_law_made", "_law_number", "_law_many", "_law_at"]
theorem sc__law_anew : FnScope ["_law_town", "_law_made", "_law_number", "_law_many", "_law_at"] ["_law_town", "_law_made", "_law_number"] (defScope s__law_anew) := ⟨rfl, rfl, rfl, by decide +kernel, rfl, by decide +kernel, by decide +kernel⟩
set_option maxHeartbeats 0 in
theorem ok__law_anew {f : Addr} {fd : FuncData} (F : Fun K "_law_anew" "_law_anew" s__law_anew f fd) (z_len : mg "len" = none)
    (D_Keeper_init : MkB P w K mg base CX0 3 "Keeper" C_Keeper ["self", "terms", "clock"] (spKI C_Keeper C_Terms)) (D_Holder_init : MkB P w K mg base CX0 1 "Holder" C_Holder ["self", "terms", "name", "life", "clock"] (spHI C_Holder)) :
    FnOk P w K mg base CX0 5 f fd ["_law_town", "_law_made", "_law_number"] (spAnew K C_Keeper C_Holder C_Terms) := by
  refine F.ok sc__law_anew (fun vs H Q E h => ?_) (fun cdv A9 outer s H vs Q E hr h => ?_)
  · obtain ⟨A, T, kn, nh, ns, d, n, b, rfl, _⟩ := h
    rfl
  · obtain ⟨A, T, kn, nh, ns, d, n, b, rfl, ⟨ps, hs, ms, S, o, W, I, hbl⟩, hD, q⟩ := h
    have hu := hu_of hr
    obtain ⟨f_Keeper_init, fd_Keeper_init, G_Keeper_init, M_Keeper, g_Keeper, b_Keeper_init⟩ := D_Keeper_init
    obtain ⟨f_Holder_init, fd_Holder_init, G_Holder_init, M_Holder, g_Holder, b_Holder_init⟩ := D_Holder_init
    obtain ⟨ls, lw, lc, lb, lk, lh, _, _, _, _, _, _⟩ := id W.L
    have hnh := hD.n2
    refine ⟨_, (pss_cons (ps_set (i := 3) sc__law_anew.nd rfl (Or.inl rfl) (pe_callB cr_len (by rfl) z_len (by decide +kernel) (pa_cons (pe_dget hu (pv 0) pe_str (fun _ _ => rfl)) pa_nil)))
    (pss_cons (ps_set (i := 4) sc__law_anew.nd rfl (Or.inl rfl) (pe_op op_modN (pv 2) (pe_callB cr_len (by rfl) z_len (by decide +kernel) (pa_cons (pe_dget hu (pv 0) pe_str (fun _ _ => rfl)) pa_nil))))
    (pss_one (ps_if (pt_cmpR op_lt (pv 4) (pv 3) (nomark _))
    (pss_one (ps_asg (pe_make M_Keeper G_Keeper_init (hr.mono (by decide)) rfl g_Keeper b_Keeper_init .nil pass0 (pa_cons (pv 1) (pa_cons (pe_ix ix_list (pe_dget hu (pv 0) pe_str (fun _ _ => rfl)) (pv 4) (fun _ _ => rfl)) pa_nil))) (pg_sub (pe_dget hu (pv 0) pe_str (fun _ _ => rfl)) (pv 4) set_list)))
    (pss_cons (ps_dput hu (pv 0) pe_str (pe_op op_add (pe_dget hu (pv 0) pe_str (fun _ _ => rfl)) pe_int) rfl)
    (pss_one (ps_asg (pe_make M_Holder G_Holder_init (hr.mono (by decide)) rfl g_Holder b_Holder_init .nil pass0 (pa_cons (pv 1) (pa_cons (pe_op op_sub (pv 4) (pv 3)) (pa_cons (pe_dget hu (pv 0) pe_str (fun _ _ => rfl)) (pa_cons (pe_ix ix_list (pe_dget hu (pv 0) pe_str (fun _ _ => rfl)) (pv 4) (fun _ _ => rfl)) pa_nil))))) (pg_sub (pe_dget hu (pv 0) pe_str (fun _ _ => rfl)) (pe_op op_sub (pv 4) (pv 3)) set_list)))))))), ?_⟩
    walk_at "rdm"
    rw [rg_len]
    refine rd_I (by omega) ?_
    have hf1 := Int.fmod_nonneg_of_pos n (show 0 < ((kn + nh : Nat) : Int) by omega)
    have hf2 := Int.fmod_lt_of_pos n (show 0 < ((kn + nh : Nat) : Int) by omega)
    obtain ⟨j, hj⟩ : ∃ j : Nat, n.fmod ((kn + nh : Nat) : Int) = (j : Int) := ⟨(n.fmod ((kn + nh : Nat) : Int)).toNat, by omega⟩
    rw [hj] at hf1 hf2
    rw [hj, ps_len, W.O.pl]
    try simp only [List.set_cons_zero, List.set_cons_succ]
    walk_at "rdm"
    · refine rd_ixL (v := .int (S.clk j)) (sq_l lc) (rg_get (by omega)) ?_
      walk_at "rdm"
      intro x dx hx hdx hne
      have hT1 := W.O.hT.same (same_made (o := .own x) (o' := .ins C_Keeper dx []) hx hdx)
      refine ⟨x, dx, A.t, T, S.clk j, rfl, upd_same, hT1, fun H5 hK hk => ⟨rfl, ?_⟩⟩
      have s5 := made_same hx hdx hk
      have W5 := W.same s5
      have lw5 := W5.L.tw
      have lk5 := W5.L.kl
      walk_at "rdm"
      refine setl (p := A.kl) lk5 (by rw [ps_len]; exact ixn (by rw [W.O.pl]; omega)) ?_
      have hjk : j < kn := by omega
      exact q _ ⟨_, _, _, _, _, W5.newK hjk (W.freshK hx) hK, I.newK hD.ok hjk, by rw [setK_bag]; exact hbl⟩
    · refine dputs lw (by show (5 : Nat) < sizeLine; decide) townD_put ?_
      have W4 := W.toL (l := S.life + 1) kp_upd upd_same
      obtain ⟨ls4, lw4, lc4, lb4, lk4, lh4, _, _, _, _, _, _⟩ := id W4.L
      obtain ⟨h, hh⟩ : ∃ h : Nat, j = kn + h := ⟨j - kn, by omega⟩
      subst hh
      have hhn : h < nh := by omega
      try simp only [List.set_cons_zero, List.set_cons_succ]
      walk_at "rdm"
      refine rd_ixL (v := .int (S.clk (kn + h))) (sq_l lc4) (rg_get (by omega)) ?_
      walk_at "rdm"
      intro x dx hx hdx hne
      rw [show ((kn + h : Nat) : Int) - (kn : Int) = (h : Int) by omega]
      have sm := same_made (o := .own x) (o' := .ins C_Holder dx []) hx hdx
      refine ⟨x, dx, A.t, (h : Int), S.life + 1, S.clk (kn + h), rfl, upd_same, fun H6 da dl hA f1 f2 f3 hk => ⟨rfl, ?_⟩⟩
      have s6 := made_same hx hdx hk
      have W6 := W4.same s6
      have lw6 := W6.L.tw
      have lh6 := W6.L.hl
      have g1 := W4.freshH hx
      have g2 := W4.freshH (same_none sm f1)
      have g3 := W4.freshH (same_none sm f2)
      walk_at "rdm"
      rw [show ((kn + h : Nat) : Int) - (kn : Int) = (h : Int) by omega]
      refine setl (p := A.hl) lh6 (by rw [hs_len]; exact ixn (by rw [W.O.hn]; exact hhn)) ?_
      have hd0 : 0 ≤ d := Int.le_trans (I.W h hhn).m0 (I.W h hhn).md
      exact q _ ⟨_, _, _, _, _, W6.newH (x := (x, da, dl)) hhn (fun y hy => (g1 y hy).1) (fun y hy => (g2 y hy).2.1) (fun y hy => (g3 y hy).2.2) hA, I.newH hhn hd0 (by omega), hbl⟩
end
end Lh
namespace Lh
open PySem PySem.Spec PyProof.Rows L2
section
variable {P : Program} {w : World} {K : PySem.W.Frag} {mg : Str → Option Value} {base : Heap} {C_Terms C_Keeper C_Holder C_Back C_NoKeeper : Addr}
abbrev s__law_one : Stmt := top 25
abbrev N__law_one : List Str := ["_law_town", "_law_many", "_law_hold", "_law_name", "_law_clock", "_law_holds", "_law_until"]
theorem sc__law_one : FnScope ["_law_town", "_law_many", "_law_hold", "_law_name", "_law_clock", "_law_holds", "_law_until"] ["_law_town"] (defScope s__law_one) := ⟨rfl, rfl, rfl, by decide +kernel, rfl, by decide +kernel, by decide +kernel⟩
set_option maxHeartbeats 0 in
theorem ok__law_one {f : Addr} {fd : FuncData} (F : Fun K "_law_one" "_law_one" s__law_one f fd) (c_Holder : Cls K C_Holder) (z_len : mg "len" = none) (z_range : mg "range" = none) (z_int : mg "int" = none)
    (D_Holder_holds : MtB P w K mg base (L2.CX P w) 2 C_Holder "holds" ["self", "clock"] (spHoldsH C_Holder C_Terms C_Back)) (D_Holder_until : MtB P w K mg base (L2.CX P w) 3 C_Holder "until" ["self", "clock"] (spUntilH C_Holder C_Terms C_Back)) :
    FnOk P w K mg base CX0 4 f fd ["_law_town"] (spOne K C_Keeper C_Holder C_Terms) := by
  refine F.ok sc__law_one (fun vs H Q E h => ?_) (fun cdv A9 outer s H vs Q E hr h => ?_)
  · obtain ⟨A, T, kn, nh, ns, d, b, rfl, _⟩ := h
    rfl
  · obtain ⟨A, T, kn, nh, ns, d, b, rfl, ⟨ps, hs, ms, S, o, W, I, hbl⟩, hD, hd, q⟩ := h
    have hu := hu_of hr
    obtain ⟨f_Holder_holds, fd_Holder_holds, G_Holder_holds, M_Holder_holds, b_Holder_holds⟩ := D_Holder_holds
    obtain ⟨f_Holder_until, fd_Holder_until, G_Holder_until, M_Holder_until, b_Holder_until⟩ := D_Holder_until
    obtain ⟨ls, lw, lc, lb, lk, lh, _, _, _, _, _, _⟩ := id W.L
    have hmo := Tm.most_ok T
    have hkn := hD.k
    have hk5 := hD.k5
    have hn3 := hD.n3
    have hmost : 1 ≤ T.most := by omega
    refine ⟨_, (pss_cons (ps_set (i := 1) sc__law_one.nd rfl (Or.inl rfl) (pe_callB cr_len (by rfl) z_len (by decide +kernel) (pa_cons (pe_dget hu (pv 0) pe_str (fun _ _ => rfl)) pa_nil)))
    (pss_cons (ps_set (i := 2) sc__law_one.nd rfl (Or.inl rfl) pe_int)
    (pss_cons (ps_for PassesOwn.never rfl (pi_range1 (by rfl) z_range (pa_cons (pe_callB cr_len (by rfl) z_len (by decide +kernel) (pa_cons (pe_dget hu (pv 0) pe_str (fun _ _ => rfl)) pa_nil)) pa_nil)) (pg_name (i := 3) sc__law_one.nd rfl (Or.inl rfl))
    (pss_cons (ps_set (i := 4) sc__law_one.nd rfl (Or.inl rfl) (pe_ix ix_list (pe_dget hu (pv 0) pe_str (fun _ _ => rfl)) (pe_op op_add (pv 1) (pv 3)) (fun _ _ => rfl)))
    (pss_cons (ps_set (i := 5) sc__law_one.nd rfl (Or.inl rfl) (pe_meth (pe_ix ix_list (pe_dget hu (pv 0) pe_str (fun _ _ => rfl)) (pv 3) (fun _ _ => rfl)) c_Holder M_Holder_holds G_Holder_holds (hr.mono (by decide)) b_Holder_holds .nil passL (pa_cons (pv 4) pa_nil)))
    (pss_cons (ps_set (i := 6) sc__law_one.nd rfl (Or.inl rfl) (pe_meth (pe_ix ix_list (pe_dget hu (pv 0) pe_str (fun _ _ => rfl)) (pv 3) (fun _ _ => rfl)) c_Holder M_Holder_until G_Holder_until (hr.mono (by decide)) b_Holder_until .nil passL (pa_cons (pv 4) pa_nil)))
    (pss_cons (ps_if (PW.pt (pw_or (pt_cmpR op_ne (pv 5) (pe_cmpR op_notno (pv 6) pe_non (nomark _)) (nomark _)) (pw_or1 (PW.pt (pw_and (pt_cmpR op_notno (pv 6) pe_non (nomark _)) (pw_and1 (pt_cmpR op_le (pv 6) (pv 4) (nomark _))))))))
    (pss_one (ps_ret pe_bl))
    pss_nil)
    (pss_one (ps_set (i := 2) sc__law_one.nd rfl (Or.inl rfl) (pe_op op_add (pv 2) (pe_callTy cr_int1 (by rfl) z_int (by decide +kernel) (pa_cons (pv 5) pa_nil))))))))))
    (pss_one (ps_ret (pe_cmpR op_lt (pv 2) pe_int (nomark _))))))), ?_⟩
    walk_at "rdm"
    rw [ps_len, W.O.pl, hs_len, W.O.hn]
    refine rng1 (by omega) (by omega) ?_
    refine forR (fun i σ H5 => ∃ v3 v4 v5 v6 hold S5 o5, σ = [some (.ref A.tw), some (.int (kn : Int)), some (.int hold), v3, v4, v5, v6] ∧ TwAt K C_Keeper C_Holder C_Terms H5 A T kn nh ns ps hs ms S5 ∧ Inv10 T kn nh S5 o5 d ∧ S5.bag.length ≤ b ∧ 0 ≤ hold ∧ hold ≤ 1 ∧
      (hold = 1 → ∃ j, j < i ∧ hHolds T.most (S5.clk (kn + j)) (S5.hs j) = true) ∧ Tup2 H H5) ⟨_, _, _, _, 0, S, o, rfl, W, I, hbl, by omega, by omega, fun z => absurd z (by omega), fun _ _ e => e⟩ ?_ ?_
    · rintro i σ H5 hi ⟨v3, v4, v5, v6, hold, S5, o5, rfl, W5, I5, hb5, ho0, ho1, hex, t5⟩
      have hi' : i < nh := by omega
      obtain ⟨ls5, lw5, lc5, lb5, lk5, lh5, _, _, _, _, _, _⟩ := id W5.L
      obtain ⟨x, hx⟩ : ∃ x, hs[i]? = some x := ⟨_, List.getElem?_eq_getElem (by rw [W5.O.hn]; exact hi')⟩
      obtain ⟨⟨dh, hho⟩, _, _⟩ := id (W5.O.hh i x hx)
      have eix : ((kn : Int) + (0 + (i : Int))) = ((kn + i : Nat) : Int) := by omega
      walk_at "rdm"
      rw [eix]
      refine rd_ixL (v := .int (S5.clk (kn + i))) (sq_l lc5) (rg_get (by omega)) ?_
      try simp only [List.set_cons_zero, List.set_cons_succ]
      walk_at "rdm"
      rw [Int.zero_add]
      refine rd_ixL (v := .ref x.1) (sq_l lh5) (hs_get hx) ?_
      walk_at "rdm"
      have w5 := I5.W i hi'
      refine t_holds W5 hx w5.hc (w5.wf hd (by omega)) fun H6 W6 t6 => ?_
      have I6 := I5.look hi'
      obtain ⟨ls6, lw6, lc6, lb6, lk6, lh6, _, _, _, _, _, _⟩ := id W6.L
      obtain ⟨⟨dh6, hho6⟩, _, _⟩ := id (W6.O.hh i x hx)
      try simp only [List.set_cons_zero, List.set_cons_succ]
      walk_at "rdm"
      refine rd_ixL (v := .ref x.1) (sq_l lh6) (hs_get hx) ?_
      walk_at "rdm"
      have w6 := I6.W i hi'
      refine t_until W6 hx w6.hc (w6.wf hd (by omega)) fun v H7 W7 t7 hv => ?_
      have I7 := I6.look hi'
      have hv2 := until_gt hmost hv
      have e1 : (S5.setH i (hLook T.len (S5.clk (kn + i)) (S5.hs i))).hs i = hLook T.len (S5.clk (kn + i)) (S5.hs i) := setH_same
      rw [e1] at hv2
      have hvv : (hHolds T.most (S5.clk (kn + i)) (S5.hs i) = false ∧ v = .non) ∨ (hHolds T.most (S5.clk (kn + i)) (S5.hs i) = true ∧ ∃ e, v = .int e ∧ S5.clk (kn + i) < e) := hv2
      obtain ⟨S7, hS7⟩ : ∃ S7, (S5.setH i (hLook T.len (S5.clk (kn + i)) (S5.hs i))).setH i (hLook T.len (S5.clk (kn + i)) ((S5.setH i (hLook T.len (S5.clk (kn + i)) (S5.hs i))).hs i)) = S7 := ⟨_, rfl⟩
      have k1 : ∀ j, S7.clk j = S5.clk j := fun j => by rw [← hS7]; rfl
      have k2 : ∀ j, hHolds T.most (S7.clk (kn + j)) (S7.hs j) = hHolds T.most (S5.clk (kn + j)) (S5.hs j) := fun j => by
        rw [k1, ← hS7]
        by_cases e : j = i
        · subst e
          rw [setH_same, setH_same]
          rfl
        · rw [setH_ne e, setH_ne e]
      have k3 : S7.bag = S5.bag := by rw [← hS7]; rfl
      have W7 : TwAt K C_Keeper C_Holder C_Terms H7 A T kn nh ns ps hs ms S7 := by rw [← hS7]; exact W7
      have I7 : Inv10 T kn nh S7 o5 d := by rw [← hS7]; exact I7
      try simp only [List.set_cons_zero, List.set_cons_succ]
      rcases hvv with ⟨e2, rfl⟩ | ⟨e2, e, rfl, he⟩
      · rw [e2]
        walk_at "rdm"
        refine bif_me ?_
        walk_at "rdm"
        exact ⟨_, _, _, _, _, S7, o5, rfl, W7, I7, by rw [k3]; exact hb5, by omega, by omega, fun z => by
          obtain ⟨j, j1, j2⟩ := hex (by omega)
          exact ⟨j, by omega, by rw [k2]; exact j2⟩, fun qq xx ee => t7 _ _ (t6 _ _ (t5 _ _ ee))⟩
      · rw [e2]
        walk_at "rdm"
        refine bif_me ?_
        walk_at "rdm"
        have h0 : hold = 0 := by
          by_cases z : hold = 1
          · obtain ⟨j, j1, j2⟩ := hex z
            exact (never_two I5 hkn (by omega) hi' (by omega) j2 e2).elim
          · omega
        exact ⟨_, _, _, _, _, S7, o5, rfl, W7, I7, by rw [k3]; exact hb5, by omega, by omega, fun _ => ⟨i, by omega, by rw [k2]; exact e2⟩, fun qq xx ee => t7 _ _ (t6 _ _ (t5 _ _ ee))⟩
    · rintro σ H5 ⟨v3, v4, v5, v6, hold, S5, o5, rfl, W5, I5, hb5, ho0, ho1, hex, t5⟩
      walk_at "rdm"
      rw [decide_eq_true (by omega)]
      exact q H5 ⟨_, _, _, _, _, W5, I5, hb5⟩ t5
end
end Lh
namespace Lh
open PySem PySem.Spec PyProof.Rows L2
section
variable {P : Program} {w : World} {K : PySem.W.Frag} {mg : Str → Option Value} {base : Heap} {C_Terms C_Keeper C_Holder C_Back C_NoKeeper : Addr}
abbrev s__law_scene : Stmt := top 26
abbrev N__law_scene : List Str := ["_law_script", "_law_town", "_law_terms_here", "_law_made", "_law_many", "_law_name", "_law_number", "_law_keeper"]
theorem sc__law_scene : FnScope ["_law_script", "_law_town", "_law_terms_here", "_law_made", "_law_many", "_law_name", "_law_number", "_law_keeper"] ["_law_script", "_law_town", "_law_terms_here", "_law_made"] (defScope s__law_scene) := ⟨rfl, rfl, rfl, by decide +kernel, rfl, by decide +kernel, by decide +kernel⟩
set_option maxHeartbeats 0 in
theorem ok__law_scene {f : Addr} {fd : FuncData} (F : Fun K "_law_scene" "_law_scene" s__law_scene f fd) (c_Keeper : Cls K C_Keeper) (c_Holder : Cls K C_Holder) (z_len : mg "len" = none) (z_range : mg "range" = none) (z_int : mg "int" = none)
    (D__law_mix : FnB P w K mg base CX0 2 "_law_mix" ["_law_script", "_law_k"] (spMix K)) (D__law_wait : FnB P w K mg base CX0 1 "_law_wait" ["_law_terms_here"] spWait)
    (D__law_ticks : FnB P w K mg base CX0 3 "_law_ticks" ["_law_script", "_law_k", "_law_terms_here", "_law_clocks", "_law_many"] (spTicks K)) (D__law_one : FnB P w K mg base CX0 4 "_law_one" ["_law_town"] (spOne K C_Keeper C_Holder C_Terms))
    (D_Keeper_asked : MtB P w K mg base (L2.CX P w) 3 C_Keeper "asked" ["self", "clock", "name", "number"] (spAsked C_Keeper C_Terms C_Back))
    (D_Holder_ask : MtB P w K mg base (L2.CX P w) 2 C_Holder "ask" ["self", "clock"] (spAskH C_Holder C_Terms C_Back)) (D_Holder_hear : MtB P w K mg base (L2.CX P w) 2 C_Holder "hear" ["self", "clock", "keeper", "number"] (spHearH C_Holder C_Terms C_Back C_NoKeeper))
    (D_Keeper_init : MkB P w K mg base CX0 3 "Keeper" C_Keeper ["self", "terms", "clock"] (spKI C_Keeper C_Terms)) :
    FnOk P w K mg base CX0 5 f fd ["_law_script", "_law_town", "_law_terms_here", "_law_made"] (spScene K C_Keeper C_Holder C_Terms) := by
  refine F.ok sc__law_scene (fun vs H Q E h => ?_) (fun cdv A9 outer s H vs Q E hr h => ?_)
  · obtain ⟨A, T, kn, nh, ns, d, b, rfl, _⟩ := h
    rfl
  · obtain ⟨A, T, kn, nh, ns, d, b, rfl, ⟨ps0, hs0, ms0, S0, o0, W0, I0, hb0⟩, hD, hd, q⟩ := h
    have hu := hu_of hr
    obtain ⟨f__law_mix, fd__law_mix, G__law_mix, g__law_mix, k__law_mix, b__law_mix⟩ := D__law_mix
    obtain ⟨f__law_wait, fd__law_wait, G__law_wait, g__law_wait, k__law_wait, b__law_wait⟩ := D__law_wait
    obtain ⟨f__law_ticks, fd__law_ticks, G__law_ticks, g__law_ticks, k__law_ticks, b__law_ticks⟩ := D__law_ticks
    obtain ⟨f__law_one, fd__law_one, G__law_one, g__law_one, k__law_one, b__law_one⟩ := D__law_one
    obtain ⟨f_Keeper_asked, fd_Keeper_asked, G_Keeper_asked, M_Keeper_asked, b_Keeper_asked⟩ := D_Keeper_asked
    obtain ⟨f_Holder_ask, fd_Holder_ask, G_Holder_ask, M_Holder_ask, b_Holder_ask⟩ := D_Holder_ask
    obtain ⟨f_Holder_hear, fd_Holder_hear, G_Holder_hear, M_Holder_hear, b_Holder_hear⟩ := D_Holder_hear
    obtain ⟨f_Keeper_init, fd_Keeper_init, G_Keeper_init, M_Keeper, g_Keeper, b_Keeper_init⟩ := D_Keeper_init
    obtain ⟨ls, lw, lc, lb, lk, lh, _, _, _, _, _, _⟩ := id W0.L
    have hkn := hD.k
    have hk5 := hD.k5
    have hn2 := hD.n2
    have hn3 := hD.n3
    have hw60 := Tm.wait_le hD.ok hD.h5 hD.l12
    have hw1 := Tm.wait1 hD.ok
    refine ⟨_, (pss_cons (ps_set (i := 4) sc__law_scene.nd rfl (Or.inl rfl) (pe_callB cr_len (by rfl) z_len (by decide +kernel) (pa_cons (pe_dget hu (pv 1) pe_str (fun _ _ => rfl)) pa_nil)))
    (pss_cons (ps_for PassesOwn.never rfl (pi_tup (pe_tup (pa_cons pe_int (pa_cons pe_int pa_nil)))) (pg_name (i := 5) sc__law_scene.nd rfl (Or.inl rfl))
    (pss_cons (ps_set (i := 6) sc__law_scene.nd rfl (Or.inl rfl) (pe_meth (pe_ix ix_list (pe_dget hu (pv 1) pe_str (fun _ _ => rfl)) (pv 5) (fun _ _ => rfl)) c_Holder M_Holder_ask G_Holder_ask (hr.mono (by decide)) b_Holder_ask .nil passL (pa_cons (pe_ix ix_list (pe_dget hu (pv 1) pe_str (fun _ _ => rfl)) (pe_op op_add (pv 4) (pv 5)) (fun _ _ => rfl)) pa_nil)))
    (pss_cons (ps_for PassesOwn.never rfl (pi_range1 (by rfl) z_range (pa_cons (pv 4) pa_nil)) (pg_name (i := 7) sc__law_scene.nd rfl (Or.inl rfl))
    (pss_one (ps_if (pt_val (pe_meth (pe_ix ix_list (pe_dget hu (pv 1) pe_str (fun _ _ => rfl)) (pv 7) (fun _ _ => rfl)) c_Keeper M_Keeper_asked G_Keeper_asked (hr.mono (by decide)) b_Keeper_asked .nil passL (pa_cons (pe_ix ix_list (pe_dget hu (pv 1) pe_str (fun _ _ => rfl)) (pv 7) (fun _ _ => rfl)) (pa_cons (pv 5) (pa_cons (pv 6) pa_nil)))))
    (pss_one (ps_expr (pe_meth (pe_ix ix_list (pe_dget hu (pv 1) pe_str (fun _ _ => rfl)) (pv 5) (fun _ _ => rfl)) c_Holder M_Holder_hear G_Holder_hear (hr.mono (by decide)) b_Holder_hear .nil passL (pa_cons (pe_ix ix_list (pe_dget hu (pv 1) pe_str (fun _ _ => rfl)) (pe_op op_add (pv 4) (pv 5)) (fun _ _ => rfl)) (pa_cons (pv 7) (pa_cons (pv 6) pa_nil))))))
    pss_nil)))
    (pss_cons (ps_if (pt_not (pt_val (pe_call G__law_one (hr.mono (by decide)) rfl g__law_one k__law_one b__law_one .nil pass0 (pa_cons (pv 1) pa_nil))))
    (pss_one (ps_ret pe_bl))
    pss_nil)
    (pss_cons (ps_expr (pe_call G__law_ticks (hr.mono (by decide)) rfl g__law_ticks k__law_ticks b__law_ticks .nil pass0 (pa_cons (pv 0) (pa_cons (pe_op op_add pe_int (pv 5)) (pa_cons (pv 2) (pa_cons (pe_dget hu (pv 1) pe_str (fun _ _ => rfl)) (pa_cons (pe_ix ix_list (pe_lst (pa_cons pe_int (pa_cons pe_int (pa_cons pe_int (pa_cons (pe_op op_fdiv (pe_call G__law_wait (hr.mono (by decide)) rfl g__law_wait k__law_wait b__law_wait .nil pass0 (pa_cons (pv 2) pa_nil)) pe_int) pa_nil))))) (pe_op op_mod (pe_call G__law_mix (hr.mono (by decide)) rfl g__law_mix k__law_mix b__law_mix .nil pass0 (pa_cons (pv 0) (pa_cons pe_int pa_nil))) pe_int) (fun _ _ => rfl)) pa_nil)))))))
    (pss_one (ps_for PassesOwn.never rfl (pi_range1 (by rfl) z_range (pa_cons (pe_op op_mul (pv 4) (pe_callTy cr_int1 (by rfl) z_int (by decide +kernel) (pa_cons (pe_cmpR op_eq (pe_op op_mod (pe_call G__law_mix (hr.mono (by decide)) rfl g__law_mix k__law_mix b__law_mix .nil pass0 (pa_cons (pv 0) (pa_cons pe_int pa_nil))) pe_int) pe_int (nomark _)) pa_nil))) pa_nil)) (pg_name (i := 7) sc__law_scene.nd rfl (Or.inl rfl))
    (pss_one (ps_asg (pe_make M_Keeper G_Keeper_init (hr.mono (by decide)) rfl g_Keeper b_Keeper_init .nil pass0 (pa_cons (pv 3) (pa_cons (pe_ix ix_list (pe_dget hu (pv 1) pe_str (fun _ _ => rfl)) (pv 7) (fun _ _ => rfl)) pa_nil))) (pg_sub (pe_dget hu (pv 1) pe_str (fun _ _ => rfl)) (pv 7) set_list))))))))))
    (pss_one (ps_ret (pe_call G__law_one (hr.mono (by decide)) rfl g__law_one k__law_one b__law_one .nil pass0 (pa_cons (pv 1) pa_nil)))))), ?_⟩
    walk_at "rdm"
    rename_i p1 H1 e1 s1 hp1
    rw [ps_len, W0.O.pl]
    refine ituk (sq_t hp1) ?_
    refine forT (xs := [.int 0, .int 1]) (fun i σ H5 => ∃ v5 v6 v7, σ = [some (.ref A.a), some (.ref A.tw), some (.ref A.th), some (.ref A.t), some (.int (kn : Int)), v5, v6, v7] ∧ TwI K C_Keeper C_Holder C_Terms H5 A T kn nh ns (d + (i : Int)) b ∧ H5 p1 = some (.tup [.int 0, .int 1]))
      ⟨_, _, _, rfl, ⟨ps0, hs0, ms0, S0, o0, W0.same s1, I0.up (by omega), hb0⟩, hp1⟩ (fun i σ H5 _ ⟨_, _, _, _, _, z⟩ => sq_t z) ?_ ?_
    · rintro i xv σ H5 hxi ⟨v5, v6, v7, rfl, ⟨ps, hs, ms, S, o, W, I, hb⟩, hp5⟩
      obtain ⟨hi2, rfl⟩ : i < 2 ∧ xv = V.int (i : Int) := by
        match i, hxi with
        | 0, z => cases z; exact ⟨by omega, rfl⟩
        | 1, z => cases z; exact ⟨by omega, rfl⟩
        | n + 2, z => simp at z
      have hin : i < nh := by omega
      obtain ⟨ls5, lw5, lc5, lb5, lk5, lh5, _, _, _, _, _, _⟩ := id W.L
      obtain ⟨x, hx⟩ : ∃ x, hs[i]? = some x := ⟨_, List.getElem?_eq_getElem (by rw [W.O.hn]; exact hin)⟩
      obtain ⟨⟨dh, hho⟩, _, _⟩ := id (W.O.hh i x hx)
      have eix : ((kn : Int) + (i : Int)) = ((kn + i : Nat) : Int) := by omega
      walk_at "rdm"
      refine rd_ixL (v := .ref x.1) (sq_l lh5) (hs_get hx) ?_
      try simp only [List.set_cons_zero, List.set_cons_succ]
      walk_at "rdm"
      rw [eix]
      refine rd_ixL (v := .int (S.clk (kn + i))) (sq_l lc5) (rg_get (by omega)) ?_
      walk_at "rdm"
      refine t_ask W hx (I.W i hin).hc ((I.W i hin).wf (by omega) (by omega)) fun r H6 hr6 W6 t6 => ?_
      have I6 := I.ask hD.ok hin
      have hp6 := t6 _ _ hp5
      have hn6 : nlt ((S.hs i).life, (S.hs i).many) (((S.setH i (hAsk T.len (S.clk (kn + i)) (S.hs i))).hs i).life, ((S.setH i (hAsk T.len (S.clk (kn + i)) (S.hs i))).hs i).many) := by
        rw [setH_same]
        show nlt ((S.hs i).life, (S.hs i).many) ((S.hs i).life, (S.hs i).many + 1)
        exact .inr ⟨rfl, by dsimp only; omega⟩
      have hb6 : (S.setH i (hAsk T.len (S.clk (kn + i)) (S.hs i))).bag.length ≤ b := hb
      generalize S.setH i (hAsk T.len (S.clk (kn + i)) (S.hs i)) = S6 at *
      generalize hnn : ((S.hs i).life, (S.hs i).many) = n at *
      have hr6 : H6 r = some (.tup [.int n.1, .int n.2]) := by rw [← hnn]; exact hr6
      clear hnn W I ls5 lw5 lc5 lb5 lk5 lh5 hho hb hp5
      try simp only [List.set_cons_zero, List.set_cons_succ]
      walk_at "rdm"
      refine rng1 (by omega) (by omega) ?_
      refine forR (fun j σ H7 => ∃ v7 S7 o7, σ = [some (.ref A.a), some (.ref A.tw), some (.ref A.th), some (.ref A.t), some (.int (kn : Int)), some (.int (i : Int)), some (.ref r), v7] ∧ TwAt K C_Keeper C_Holder C_Terms H7 A T kn nh ns ps hs ms S7 ∧ Inv10 T kn nh S7 o7 (d + (i : Int) + 1) ∧ S7.bag.length ≤ b ∧
        H7 r = some (.tup [.int n.1, .int n.2]) ∧ nlt n ((S7.hs i).life, (S7.hs i).many) ∧ H7 p1 = some (.tup [.int 0, .int 1])) ⟨_, S6, o, rfl, W6, I6, hb6, hr6, hn6, hp6⟩ ?_ ?_
      · rintro j σ H7 hj ⟨v7, S7, o7, rfl, W7, I7, hb7, hr7, hn7, hp7⟩
        have hjk : j < kn := by omega
        obtain ⟨ls7, lw7, lc7, lb7, lk7, lh7, _, _, _, _, _, _⟩ := id W7.L
        obtain ⟨p, hp⟩ : ∃ p, ps[j]? = some p := ⟨_, List.getElem?_eq_getElem (by rw [W7.O.pl]; exact hjk)⟩
        obtain ⟨dk, nk, uk, hpo, _⟩ := id (W7.O.ks j p hp)
        walk_at "rdm"
        rw [Int.zero_add]
        refine rd_ixL (v := .ref p) (sq_l lk7) (ps_get hp) ?_
        try simp only [List.set_cons_zero, List.set_cons_succ]
        walk_at "rdm"
        refine rd_ixL (v := .int (S7.clk j)) (sq_l lc7) (rg_get (by omega)) ?_
        walk_at "rdm"
        refine t_asked W7 hp (I7.kc j hjk) hr7 fun H8 W8 t8 => ?_
        obtain ⟨o8, I8, g8⟩ := I7.asked hD.ok hjk hin hn7
        have hr8 := t8 _ _ hr7
        have hp8 := t8 _ _ hp7
        cases hk : (kAsk T.wait (S7.clk j) (i : Int) n.1 n.2 (S7.ks j)).2 with
        | false =>
          walk_at "rdm"
          exact ⟨_, _, o8, rfl, W8, I8, hb7, hr8, hn7, hp8⟩
        | true =>
          obtain ⟨ls8, lw8, lc8, lb8, lk8, lh8, _, _, _, _, _, _⟩ := id W8.L
          obtain ⟨⟨dh8, hho8⟩, _, _⟩ := id (W8.O.hh i x hx)
          walk_at "rdm"
          refine rd_ixL (v := .ref x.1) (sq_l lh8) (hs_get hx) ?_
          walk_at "rdm"
          rw [eix]
          refine rd_ixL (v := .int (S7.clk (kn + i))) (sq_l lc8) (rg_get (by omega)) ?_
          walk_at "rdm"
          have w8 := I8.W i hin
          refine t_hear (n := n) W8 hx w8.hc (w8.wf (by omega) (by omega)) ⟨by omega, by omega⟩ hr8 fun H9 W9 t9 => ?_
          have I9 := I8.hear hin hjk (g8 hk)
          walk_at "rdm"
          refine ⟨_, _, o8, rfl, W9, I9, hb7, t9 _ _ hr8, ?_, t9 _ _ hp8⟩
          rw [setH_same, hHear_lm.1, hHear_lm.2]
          exact hn7
      · rintro σ H7 ⟨v7, S7, o7, rfl, W7, I7, hb7, hr7, hn7, hp7⟩
        walk_at "rdm"
        refine ⟨A, T, kn, nh, ns, d + (i : Int) + 1, b, rfl, ⟨ps, hs, ms, S7, o7, W7, I7, hb7⟩, hD, by omega, fun H8 TW8 t8 => ?_⟩
        obtain ⟨ps8, hs8, ms8, S8, o8, W8, I8, hb8⟩ := TW8
        have hp8 := t8 _ _ hp7
        obtain ⟨ls8, lw8, lc8, lb8, lk8, lh8, _, _, _, _, _, _⟩ := id W8.L
        have hS8 := W8.sq
        have hth8 := W8.O.th
        walk_at "rdm"
        refine spWait_use hth8 hD.ok hD.h5 hD.l12 ?_
        walk_at "rdm"
        rename_i pL H9 e9 s9 hL9 m72 m72a m72b z hz
        simp only [List.mem_cons, List.not_mem_nil, or_false, V.int.injEq] at hz
        have hz0 : 0 ≤ z := by omega
        have hz1 : z ≤ 1000 := by omega
        have W9 := W8.same s9
        refine ⟨A.a, A.th, A.cl, ns, _, z, T, kn + nh, S8.clk, rfl, W9.L.sq.one (by simp), W9.O.th, hD.ok, hD.h5, hz0, hz1, by omega, W9.L.cl, fun H10 c10 hb10 hk10 hc10 => ?_⟩
        have W10 := W9.toC hk10 hc10
        have I10 := I8.tick hD.ok hz0 hb10
        have hp10 := kp_tup2 W9.L.cl lst_tup hk10 _ _ (s9 _ _ hp8)
        have hS10 := W10.sq
        walk_at "rdm"
        refine rd_I (.inl ⟨by omega, by omega⟩) ?_
        rename_i z2 z2a z2b z2c
        have hzz : 0 ≤ (kn : Int) * z2 ∧ (kn : Int) * z2 ≤ kn := by
          rcases (show z2 = 0 ∨ z2 = 1 by omega) with rfl | rfl
          · exact ⟨by omega, by omega⟩
          · exact ⟨by omega, by omega⟩
        walk_at "rdm"
        refine rng1 (by omega) (by omega) ?_
        refine forR (fun j σ H11 => ∃ v7, σ = [some (.ref A.a), some (.ref A.tw), some (.ref A.th), some (.ref A.t), some (.int (kn : Int)), some (.int (i : Int)), some (.ref r), v7] ∧ TwI K C_Keeper C_Holder C_Terms H11 A T kn nh ns (d + (i : Int) + 1) b ∧ H11 p1 = some (.tup [.int 0, .int 1]))
          ⟨_, rfl, ⟨_, _, _, _, _, W10, I10, hb8⟩, hp10⟩ ?_ ?_
        · rintro j σ H11 hj ⟨v7, rfl, ⟨ps, hs, ms, S, o, W, I, hb⟩, hp11⟩
          have hjk : j < kn := by omega
          obtain ⟨ls11, lw11, lc11, lb11, lk11, lh11, _, _, _, _, _, _⟩ := id W.L
          walk_at "rdm"
          rw [Int.zero_add]
          refine rd_ixL (v := .int (S.clk j)) (sq_l lc11) (rg_get (by omega)) ?_
          try simp only [List.set_cons_zero, List.set_cons_succ]
          walk_at "rdm"
          intro y dy hy hdy hne
          have sm := same_made (o := .own y) (o' := .ins C_Keeper dy []) hy hdy
          refine ⟨y, dy, A.t, T, S.clk j, rfl, upd_same, W.O.hT.same sm, fun H12 hK hk => ⟨rfl, ?_⟩⟩
          have s12 := made_same hy hdy hk
          have W12 := W.same s12
          have lw12 := W12.L.tw
          have lk12 := W12.L.kl
          walk_at "rdm"
          refine setl (p := A.kl) lk12 (by rw [ps_len]; exact ixn (by rw [W.O.pl]; omega)) ?_
          have hp12 := s12 _ _ hp11
          exact ⟨_, rfl, ⟨_, _, _, _, _, W12.newK hjk (W.freshK hy) hK, I.newK hD.ok hjk, by rw [setK_bag]; exact hb⟩, by rw [upd_ne (ne_of hp12 lk12 (by intro z; cases z))]; exact hp12⟩
        · rintro σ H11 ⟨v7, rfl, ⟨ps, hs, ms, S, o, W, I, hb⟩, hp11⟩
          walk_at "rdm"
          exact ⟨_, _, _, rfl, ⟨ps, hs, ms, S, o, W, I.up (by omega), hb⟩, hp11⟩
    · rintro σ H5 ⟨v5, v6, v7, rfl, TW5, hp5⟩
      walk_at "rdm"
      refine ⟨A, T, kn, nh, ns, d + 2, b, rfl, TW5, hD, by omega, fun H6 TW6 _ => ?_⟩
      exact q H6 TW6
end
end Lh
namespace Lh
open PySem PySem.Spec PyProof.Rows L2
def spLaw (K : PySem.W.Frag) : Sp := fun vs H Q _ => ∃ (a : Addr) (ns : List Int), vs = [.ref a] ∧ SqL K H a (ns.map V.int) ∧ ∀ H', Q (.bl true) H'
section
variable {P : Program} {w : World} {K : PySem.W.Frag} {mg : Str → Option Value} {base : Heap} {C_Terms C_Keeper C_Holder C_BadTerms C_Back C_NoKeeper C_NotAsked : Addr}
abbrev s_law : Stmt := top 27
abbrev N_law : List Str := ["_law_script", "_law_terms_here", "_law_made", "_law_holders", "_law_clocks", "_law_town", "_law_k", "_law_number", "_law_way", "_law_name", "_law_clock", "_law_last", "_law_j"]
theorem sc_law : FnScope ["_law_script", "_law_terms_here", "_law_made", "_law_holders", "_law_clocks", "_law_town", "_law_k", "_law_number", "_law_way", "_law_name", "_law_clock", "_law_last", "_law_j"] ["_law_script"] (defScope s_law) := ⟨rfl, rfl, rfl, by decide +kernel, rfl, by decide +kernel, by decide +kernel⟩
set_option maxHeartbeats 0 in
theorem ok_law {f : Addr} {fd : FuncData} (F : Fun K "law" "law" s_law f fd) (c_Keeper : Cls K C_Keeper) (c_Holder : Cls K C_Holder) (z_range : mg "range" = none) (z_len : mg "len" = none) (z_min : mg "min" = none)
    (D__law_mix : FnB P w K mg base CX0 2 "_law_mix" ["_law_script", "_law_k"] (spMix K)) (D__law_terms : FnB P w K mg base CX0 3 "_law_terms" ["_law_script", "_law_k"] (spTerms K)) (D__law_wait : FnB P w K mg base CX0 1 "_law_wait" ["_law_terms_here"] spWait)
    (D__law_ticks : FnB P w K mg base CX0 3 "_law_ticks" ["_law_script", "_law_k", "_law_terms_here", "_law_clocks", "_law_many"] (spTicks K)) (D__law_one : FnB P w K mg base CX0 4 "_law_one" ["_law_town"] (spOne K C_Keeper C_Holder C_Terms))
    (D__law_scene : FnB P w K mg base CX0 5 "_law_scene" ["_law_script", "_law_town", "_law_terms_here", "_law_made"] (spScene K C_Keeper C_Holder C_Terms)) (D__law_come : FnB P w K mg base CX0 4 "_law_come" ["_law_message", "_law_town", "_law_keep"] (spCome K C_Keeper C_Holder C_Terms))
    (D__law_to_all : FnB P w K mg base CX0 1 "_law_to_all" ["_law_town", "_law_kind", "_law_name", "_law_number"] (spToAll K C_Keeper C_Holder C_Terms)) (D__law_anew : FnB P w K mg base CX0 5 "_law_anew" ["_law_town", "_law_made", "_law_number"] (spAnew K C_Keeper C_Holder C_Terms))
    (D_Holder_ask : MtB P w K mg base (L2.CX P w) 2 C_Holder "ask" ["self", "clock"] (spAskH C_Holder C_Terms C_Back)) (D_Holder_until : MtB P w K mg base (L2.CX P w) 3 C_Holder "until" ["self", "clock"] (spUntilH C_Holder C_Terms C_Back))
    (D_Holder_free : MtB P w K mg base (L2.CX P w) 2 C_Holder "free" ["self", "clock"] (spFreeH C_Holder C_Terms C_Back C_NotAsked))
    (D_Terms_init : MkB P w K mg base (L2.CX P w) 1 "Terms" C_Terms ["self", "low", "high", "length", "keepers"] (spTI C_Terms C_BadTerms)) (D_Keeper_init : MkB P w K mg base CX0 3 "Keeper" C_Keeper ["self", "terms", "clock"] (spKI C_Keeper C_Terms)) (D_Holder_init : MkB P w K mg base CX0 1 "Holder" C_Holder ["self", "terms", "name", "life", "clock"] (spHI C_Holder)) :
    FnOk P w K mg base CX0 6 f fd ["_law_script"] (spLaw K) := by
  refine F.ok sc_law (fun vs H Q E h => ?_) (fun cdv A9 outer s H vs Q E hr h => ?_)
  · obtain ⟨a, ns, rfl, _⟩ := h
    rfl
  · obtain ⟨a, ns, rfl, hS, q⟩ := h
    obtain ⟨f__law_mix, fd__law_mix, G__law_mix, g__law_mix, k__law_mix, b__law_mix⟩ := D__law_mix
    obtain ⟨f__law_terms, fd__law_terms, G__law_terms, g__law_terms, k__law_terms, b__law_terms⟩ := D__law_terms
    obtain ⟨f__law_wait, fd__law_wait, G__law_wait, g__law_wait, k__law_wait, b__law_wait⟩ := D__law_wait
    obtain ⟨f__law_ticks, fd__law_ticks, G__law_ticks, g__law_ticks, k__law_ticks, b__law_ticks⟩ := D__law_ticks
    obtain ⟨f__law_one, fd__law_one, G__law_one, g__law_one, k__law_one, b__law_one⟩ := D__law_one
    obtain ⟨f__law_scene, fd__law_scene, G__law_scene, g__law_scene, k__law_scene, b__law_scene⟩ := D__law_scene
    obtain ⟨f__law_come, fd__law_come, G__law_come, g__law_come, k__law_come, b__law_come⟩ := D__law_come
    obtain ⟨f__law_to_all, fd__law_to_all, G__law_to_all, g__law_to_all, k__law_to_all, b__law_to_all⟩ := D__law_to_all
    obtain ⟨f__law_anew, fd__law_anew, G__law_anew, g__law_anew, k__law_anew, b__law_anew⟩ := D__law_anew
    obtain ⟨f_Holder_ask, fd_Holder_ask, G_Holder_ask, M_Holder_ask, b_Holder_ask⟩ := D_Holder_ask
    obtain ⟨f_Holder_until, fd_Holder_until, G_Holder_until, M_Holder_until, b_Holder_until⟩ := D_Holder_until
    obtain ⟨f_Holder_free, fd_Holder_free, G_Holder_free, M_Holder_free, b_Holder_free⟩ := D_Holder_free
    obtain ⟨f_Terms_init, fd_Terms_init, G_Terms_init, M_Terms, g_Terms, b_Terms_init⟩ := D_Terms_init
    obtain ⟨f_Keeper_init, fd_Keeper_init, G_Keeper_init, M_Keeper, g_Keeper, b_Keeper_init⟩ := D_Keeper_init
    obtain ⟨f_Holder_init, fd_Holder_init, G_Holder_init, M_Holder, g_Holder, b_Holder_init⟩ := D_Holder_init
    have hu := hu_of hr
    refine ⟨_, (pss_cons (ps_set (i := 1) sc_law.nd rfl (Or.inr rfl) (pe_call G__law_terms (hr.mono (by decide)) rfl g__law_terms k__law_terms b__law_terms .nil pass0 (pa_cons (pv 0) (pa_cons pe_int pa_nil))))
    (pss_cons (ps_set (i := 2) sc_law.nd rfl (Or.inr rfl) (pe_make M_Terms G_Terms_init (hr.mono (by decide)) rfl g_Terms b_Terms_init .nil passL (pa_cons (pe_ix ix_tup (pv 1) pe_int (fun _ _ => rfl)) (pa_cons (pe_ix ix_tup (pv 1) pe_int (fun _ _ => rfl)) (pa_cons (pe_ix ix_tup (pv 1) pe_int (fun _ _ => rfl)) (pa_cons (pe_ix ix_tup (pv 1) pe_int (fun _ _ => rfl)) pa_nil))))))
    (pss_cons (ps_set (i := 3) sc_law.nd rfl (Or.inl rfl) (pe_op op_add pe_int (pe_op op_mod (pe_call G__law_mix (hr.mono (by decide)) rfl g__law_mix k__law_mix b__law_mix .nil pass0 (pa_cons (pv 0) (pa_cons pe_int pa_nil))) pe_int)))
    (pss_cons (ps_set (i := 4) sc_law.nd rfl (Or.inr rfl) (pe_lc (own := [("_law_j", 12)]) (g := gName 12) rfl sc_law.nd (pi_range1 (by rfl) z_range (pa_cons (pe_op op_add (pe_ix ix_tup (pv 1) pe_int (fun _ _ => rfl)) (pv 3)) pa_nil)) (blkOk_by (own := [("_law_j", 12)]) (N := N_law) (sc := defScope s_law) (by decide +kernel)) (fun _ _ _ _ _ => pg_name (i := 12) sc_law.nd rfl (Or.inl rfl)) (fun _ _ _ _ _ => pts_nil) (fun _ _ _ _ _ => (pe_op op_mod (pe_call G__law_mix (hr.mono (by decide)) rfl g__law_mix k__law_mix b__law_mix .nil pass0 (pa_cons (pv 0) (pa_cons (pe_op op_add pe_int (pv 12)) pa_nil))) pe_int))))
    (pss_cons (ps_set (i := 5) sc_law.nd rfl (Or.inl rfl) (pe_disp (pps_cons pe_str (pv 4) (pps_cons pe_str (pe_lst pa_nil) (pps_cons pe_str pe_int pps_nil))) (by rfl) (by rfl) (fun z => by cases z) (by decide)))
    (pss_cons (ps_dput hu (pv 5) pe_str (pe_lc (te := tMake C_Keeper (spKI C_Keeper C_Terms) [] E0 (tCons (tVar 2) (tCons (tOp (rIxL K) (tVar 4) (tVar 12)) tNil))) (own := [("_law_j", 12)]) (g := gName 12) rfl sc_law.nd (pi_range1 (by rfl) z_range (pa_cons (pe_ix ix_tup (pv 1) pe_int (fun _ _ => rfl)) pa_nil)) (blkOk_by (own := [("_law_j", 12)]) (N := N_law) (sc := defScope s_law) (by decide +kernel)) (fun _ _ _ _ _ => pg_name (i := 12) sc_law.nd rfl (Or.inl rfl)) (fun _ _ _ _ _ => pts_nil) (fun _ _ _ _ _ => (pe_make M_Keeper G_Keeper_init (hr.mono (by decide)) rfl g_Keeper b_Keeper_init .nil pass0 (pa_cons (pv 2) (pa_cons (pe_ix ix_list (pv 4) (pv 12) (fun _ _ => rfl)) pa_nil))))) rfl)
    (pss_cons (ps_dput hu (pv 5) pe_str (pe_lc (te := tMake C_Holder (spHI C_Holder) [] E0 (tCons (tVar 2) (tCons (tVar 12) (tCons (tC (.int 0)) (tCons (tOp (rIxL K) (tVar 4) (tOp (rI0 fun i j => V.int (i + j)) (tOp (rIxT K) (tVar 1) (tC (.int 3))) (tVar 12))) tNil))))) (own := [("_law_j", 12)]) (g := gName 12) rfl sc_law.nd (pi_range1 (by rfl) z_range (pa_cons (pv 3) pa_nil)) (blkOk_by (own := [("_law_j", 12)]) (N := N_law) (sc := defScope s_law) (by decide +kernel)) (fun _ _ _ _ _ => pg_name (i := 12) sc_law.nd rfl (Or.inl rfl)) (fun _ _ _ _ _ => pts_nil) (fun _ _ _ _ _ => (pe_make M_Holder G_Holder_init (hr.mono (by decide)) rfl g_Holder b_Holder_init .nil pass0 (pa_cons (pv 2) (pa_cons (pv 12) (pa_cons pe_int (pa_cons (pe_ix ix_list (pv 4) (pe_op op_add (pe_ix ix_tup (pv 1) pe_int (fun _ _ => rfl)) (pv 12)) (fun _ _ => rfl)) pa_nil))))))) rfl)
    (pss_cons (ps_expr (pe_call G__law_ticks (hr.mono (by decide)) rfl g__law_ticks k__law_ticks b__law_ticks .nil pass0 (pa_cons (pv 0) (pa_cons pe_int (pa_cons (pv 1) (pa_cons (pv 4) (pa_cons (pe_op op_add (pe_op op_fdivN (pe_call G__law_wait (hr.mono (by decide)) rfl g__law_wait k__law_wait b__law_wait .nil pass0 (pa_cons (pv 1) pa_nil)) (pe_ix ix_tup (pv 1) pe_int (fun _ _ => rfl))) pe_int) pa_nil)))))))
    (pss_cons (ps_if (PW.pt (pw_and (pt_cmpR op_eq (pe_op op_mod (pe_call G__law_mix (hr.mono (by decide)) rfl g__law_mix k__law_mix b__law_mix .nil pass0 (pa_cons (pv 0) (pa_cons pe_int pa_nil))) pe_int) pe_int (nomark _)) (pw_and1 (pt_not (pt_val (pe_call G__law_scene (hr.mono (by decide)) rfl g__law_scene k__law_scene b__law_scene .nil pass0 (pa_cons (pv 0) (pa_cons (pv 5) (pa_cons (pv 1) (pa_cons (pv 2) pa_nil))))))))))
    (pss_one (ps_ret pe_bl))
    pss_nil)
    (pss_cons (ps_for PassesOwn.never rfl (pi_range1 (by rfl) z_range (pa_cons (pe_op op_mod (pe_call G__law_mix (hr.mono (by decide)) rfl g__law_mix k__law_mix b__law_mix .nil pass0 (pa_cons (pv 0) (pa_cons pe_int pa_nil))) pe_int) pa_nil)) (pg_name (i := 6) sc_law.nd rfl (Or.inl rfl))
    (pss_cons (ps_set (i := 7) sc_law.nd rfl (Or.inl rfl) (pe_call G__law_mix (hr.mono (by decide)) rfl g__law_mix k__law_mix b__law_mix .nil pass0 (pa_cons (pv 0) (pa_cons (pe_op op_add pe_int (pv 6)) pa_nil))))
    (pss_cons (ps_set (i := 8) sc_law.nd rfl (Or.inl rfl) (pe_op op_mod (pv 7) pe_int))
    (pss_cons (ps_set (i := 9) sc_law.nd rfl (Or.inl rfl) (pe_op op_modN (pe_op op_fdiv (pv 7) pe_int) (pv 3)))
    (pss_cons (ps_set (i := 10) sc_law.nd rfl (Or.inl rfl) (pe_ix ix_list (pv 4) (pe_op op_add (pe_ix ix_tup (pv 1) pe_int (fun _ _ => rfl)) (pv 9)) (fun _ _ => rfl)))
    (pss_cons (ps_if (pt_cmpR op_lt (pv 8) pe_int (nomark _))
    (pss_one (ps_expr (pe_call G__law_ticks (hr.mono (by decide)) rfl g__law_ticks k__law_ticks b__law_ticks .nil pass0 (pa_cons (pv 0) (pa_cons (pe_op op_add pe_int (pv 6)) (pa_cons (pv 1) (pa_cons (pv 4) (pa_cons (pe_ix ix_list (pe_lst (pa_cons pe_int (pa_cons pe_int (pa_cons pe_int (pa_cons (pe_call G__law_wait (hr.mono (by decide)) rfl g__law_wait k__law_wait b__law_wait .nil pass0 (pa_cons (pv 1) pa_nil)) pa_nil))))) (pe_op op_mod (pe_op op_fdiv (pv 7) pe_int) pe_int) (fun _ _ => rfl)) pa_nil))))))))
    (pss_one (ps_if (pt_cmpR op_lt (pv 8) pe_int (nomark _))
    (pss_one (ps_expr (pe_call G__law_to_all (hr.mono (by decide)) rfl g__law_to_all k__law_to_all b__law_to_all .nil pass0 (pa_cons (pv 5) (pa_cons pe_str (pa_cons (pv 9) (pa_cons (pe_meth (pe_ix ix_list (pe_dget hu (pv 5) pe_str (fun _ _ => rfl)) (pv 9) (fun _ _ => rfl)) c_Holder M_Holder_ask G_Holder_ask (hr.mono (by decide)) b_Holder_ask .nil passL (pa_cons (pv 10) pa_nil)) pa_nil)))))))
    (pss_one (ps_if (PW.pt (pw_and (pt_cmpR op_eq (pv 8) pe_int (nomark _)) (pw_and1 (pt_cmpR op_notno (pe_meth (pe_ix ix_list (pe_dget hu (pv 5) pe_str (fun _ _ => rfl)) (pv 9) (fun _ _ => rfl)) c_Holder M_Holder_until G_Holder_until (hr.mono (by decide)) b_Holder_until .nil passL (pa_cons (pv 10) pa_nil)) pe_non (nomark _)))))
    (pss_one (ps_expr (pe_call G__law_to_all (hr.mono (by decide)) rfl g__law_to_all k__law_to_all b__law_to_all .nil pass0 (pa_cons (pv 5) (pa_cons pe_str (pa_cons (pv 9) (pa_cons (pe_meth (pe_ix ix_list (pe_dget hu (pv 5) pe_str (fun _ _ => rfl)) (pv 9) (fun _ _ => rfl)) c_Holder M_Holder_free G_Holder_free (hr.mono (by decide)) b_Holder_free .nil passL (pa_cons (pv 10) pa_nil)) pa_nil)))))))
    (pss_one (ps_if (PW.pt (pw_and (pt_cmpR op_eq (pv 8) pe_int (nomark _)) (pw_and1 (PW.pt (pw_or (pt_cmpR op_eq (pe_op op_mod (pe_op op_fdiv (pv 7) pe_int) pe_int) pe_int (nomark _)) (pw_or1 (pt_cmpR op_eq (pe_op op_mod (pe_call G__law_mix (hr.mono (by decide)) rfl g__law_mix k__law_mix b__law_mix .nil pass0 (pa_cons (pv 0) (pa_cons pe_int pa_nil))) pe_int) pe_int (nomark _))))))))
    (pss_one (ps_expr (pe_call G__law_anew (hr.mono (by decide)) rfl g__law_anew k__law_anew b__law_anew .nil pass0 (pa_cons (pv 5) (pa_cons (pv 2) (pa_cons (pe_op op_fdiv (pv 7) pe_int) pa_nil))))))
    (pss_one (ps_if (pt_tru (pe_dget hu (pv 5) pe_str (fun _ _ => rfl)))
    (pss_cons (ps_set (i := 11) sc_law.nd rfl (Or.inl rfl) (pe_ifExp (pt_cmpR op_gt (pe_op op_mod (pe_op op_fdiv (pv 7) pe_int) pe_int) pe_int (nomark _)) (pe_callB (cr_min2 rfl) (by rfl) z_min (by decide +kernel) (pa_cons (pe_callB cr_len (by rfl) z_len (by decide +kernel) (pa_cons (pe_dget hu (pv 5) pe_str (fun _ _ => rfl)) pa_nil)) (pa_cons pe_int pa_nil))) (pe_callB cr_len (by rfl) z_len (by decide +kernel) (pa_cons (pe_dget hu (pv 5) pe_str (fun _ _ => rfl)) pa_nil))))
    (pss_one (ps_expr (pe_call G__law_come (hr.mono (by decide)) rfl g__law_come k__law_come b__law_come .nil pass0 (pa_cons (pe_ix ix_list (pe_dget hu (pv 5) pe_str (fun _ _ => rfl)) (pe_op op_sub (pe_op op_sub (pe_callB cr_len (by rfl) z_len (by decide +kernel) (pa_cons (pe_dget hu (pv 5) pe_str (fun _ _ => rfl)) pa_nil)) pe_int) (pe_op op_modN (pe_op op_fdiv (pv 7) pe_int) (pv 11))) (fun _ _ => rfl)) (pa_cons (pv 5) (pa_cons (pe_cmpR op_eq (pe_op op_mod (pe_op op_fdiv (pv 7) pe_int) pe_int) pe_int (nomark _)) pa_nil)))))))
    pss_nil)))))))))
    (pss_one (ps_if (pt_not (pt_val (pe_call G__law_one (hr.mono (by decide)) rfl g__law_one k__law_one b__law_one .nil pass0 (pa_cons (pv 5) pa_nil))))
    (pss_one (ps_ret pe_bl))
    pss_nil))))))))
    (pss_one (ps_ret pe_bl)))))))))))), ?_⟩
    walk_at "rdm"
    refine spTerms_use hS fun th H1 T hT h5 hl hn s1 fth hth => ?_
    have hS1 : SqL K H1 a (ns.map V.int) := s1.seq hS
    obtain ⟨⟨t1, t2, t3⟩, ⟨t4, t5⟩, t6, t7⟩ := id hT
    walk_at "rdm"
    intro x dx hx hdx hne
    refine ⟨x, dx, T, rfl, upd_same, fun _ H2 hT2 hk => ⟨rfl, ?_⟩, fun z => (z hT).elim⟩
    have s2 := made_same hx hdx hk
    have hth2 := s2 _ _ hth
    have hS2 := s2.seq hS1
    try simp only [List.set_cons_zero, List.set_cons_succ]
    walk_at "rdm"
    rename_i m4 m4a m4b
    obtain ⟨nh, hnh⟩ : ∃ nh : Nat, 2 + m4 % 2 = (nh : Int) := ⟨(2 + m4 % 2).toNat, by omega⟩
    obtain ⟨kn, hkn⟩ : ∃ kn : Nat, T.kn = (kn : Int) := ⟨T.kn.toNat, by omega⟩
    have hnh2 : 2 ≤ nh ∧ nh ≤ 3 := by omega
    have hk5 : 1 ≤ kn ∧ kn ≤ 5 := by omega
    rw [hnh]
    refine rd_rng1 ?_
    walk_at "rdm"
    refine rng1 (by omega) (by omega) ?_
    intro L hL
    have eL : (T.kn + (nh : Int)).toNat = kn + nh := by omega
    rw [eL]
    refine lc_it walk_range (fun i H5 => ∃ c : Nat → Int, H5 L = some (.lst ((List.range i).map fun j => V.int (c j))) ∧ Same H2 H5) ⟨fun _ => 0, upd_same, Same.upd hL⟩ (fun _ _ _ _ => True.intro) ?_ ?_
    · rintro i v H5 H6 hi ⟨c, g1, g5⟩ ⟨rfl, rfl⟩
      have hS5 := g5.seq hS2
      walk_at "rd"
      refine ⟨rfl, ?_⟩
      refine rd_yes ?_
      rw [if_pos rfl]
      walk_at "rdm"
      rename_i mj mja mjb
      refine ⟨_, g1, sz_lt (by rw [rg_len]; omega), fun j => if j = i then mj % 1000 else c j, ?_, fun b o e => by rw [upd_ne (fun z => by rw [z, hL] at e; cases e)]; exact g5 _ _ e⟩
      rw [upd_same, rg_snoc]
      refine congrArg (fun l => some (HO.lst l)) (List.map_congr_left fun j _ => ?_)
      dsimp only
      split <;> rfl
    rintro H5 ⟨c, hL5, s5⟩
    have hL2 : H2 L = none := hL
    walk_at "rdm"
    refine rd_disp fun tw htw => ?_
    walk_at "rdm"
    rename_i bg H6 e6 s6 hbg6
    have htw6 := s6 _ _ (upd_same : (upd H5 tw (.dK [])) tw = some (.dK []))
    have sT := Same.upd (o := .dK []) htw
    have s56 := Same.trans sT s6
    have nLbg : L ≠ bg := ne_of_none (sT _ _ hL5) e6
    have hL6 := s56 _ _ hL5
    have htw2 : H2 tw = none := same_none s5 htw
    have hbg2 : H2 bg = none := same_none (Same.trans s5 sT) e6
    refine dspk (kvs' := [(Sum.inr "clocks", .ref L), (Sum.inr "bag", .ref bg), (Sum.inr "life", .int 0)]) [(Sum.inr "clocks", .ref L), (Sum.inr "bag", .ref bg), (Sum.inr "life", .int 0)] htw6 rfl (Nat.le_of_ble_eq_true rfl) (by first | rfl | kernel_rfl) ?_
    obtain ⟨H7, hH7⟩ : ∃ H7, upd H6 tw (.dK [(Sum.inr "clocks", .ref L), (Sum.inr "bag", .ref bg), (Sum.inr "life", .int 0)]) = H7 := ⟨_, rfl⟩
    have k7 : Kp tw H6 H7 := by rw [← hH7]; exact kp_upd
    have htw7 : H7 tw = some (.dK [(Sum.inr "clocks", .ref L), (Sum.inr "bag", .ref bg), (Sum.inr "life", .int 0)]) := by rw [← hH7]; exact upd_same
    rw [hH7]
    clear hH7
    have hL7 := (kp_still htw6 k7).1 _ _ hL6
    have hbg7 := (kp_still htw6 k7).1 _ _ hbg6
    have s27 : Same H2 H7 := fun b o e => k7 _ _ (ne_of_none e htw2) (s56 _ _ (s5 _ _ e))
    have hT7 := hT2.same s27
    have hth7 := s27 _ _ hth2
    clear k7 hL6 hbg6 sT s56 s6 e6 htw6 htw hL5 s5 hL
    try simp only [List.set_cons_zero, List.set_cons_succ]
    walk_at "rdm"
    refine rd_rng1 ?_
    walk_at "rdm"
    refine rng1 (by omega) (by omega) ?_
    intro kl hkl
    have ek : T.kn.toNat = kn := by omega
    rw [ek]
    have nLkl : L ≠ kl := ne_of_none hL7 hkl
    have nbkl : bg ≠ kl := ne_of_none hbg7 hkl
    have hkl2 : H2 kl = none := same_none s27 hkl
    refine lc_it walk_range (fun i H8 => ∃ ps : List Addr, H8 kl = some (.lst (ps.map V.ref)) ∧ ps.length = i ∧ ps.Nodup ∧ KsAt C_Keeper H8 x ps (fun j => ⟨c j, c j + T.wait, none⟩) ∧ Same H7 H8) ⟨[], upd_same, rfl, List.nodup_nil, (fun j p e => (by simp at e)), Same.upd hkl⟩ (fun _ _ _ _ => True.intro) ?_ ?_
    · rintro i v H8 H9 hi ⟨ps, g1, g2, g3, g4, g5⟩ ⟨rfl, rfl⟩
      have hT8 := hT7.same g5
      have hL8 := g5 _ _ hL7
      walk_at "rd"
      refine ⟨rfl, ?_⟩
      refine rd_yes ?_
      rw [if_pos rfl]
      walk_at "rd"
      refine rd_ixL (v := .int (c i)) (sq_l hL8) (by rw [Int.zero_add]; exact rg_get (by omega)) ?_
      walk_at "rd"
      intro p dp hp hdp hnp
      refine ⟨p, dp, x, T, c i, rfl, upd_same, hT8.same (same_made hp hdp), fun H9 hK hk2 => ⟨rfl, ?_⟩⟩
      have s9 := made_same hp hdp hk2
      have g9 := s9 _ _ g1
      have k10 : Kp kl H9 (upd H9 kl (.lst (ps.map V.ref ++ [.ref p]))) := kp_upd
      have t10 := tup_kp g9 (fun _ z => by cases z) k10
      have hpm : p ∉ ps := fun m => by
        obtain ⟨j, hj, e⟩ := List.getElem_of_mem m
        obtain ⟨_, _, _, z, _⟩ := g4 j p (by rw [List.getElem?_eq_getElem hj, e])
        rw [hp] at z
        cases z
      have ne : ∀ p' st, KAt C_Keeper H9 p' x st → p' ≠ kl := fun p' st z => by
        obtain ⟨_, _, _, z, _⟩ := z
        exact ne_of z g9 (by intro w; cases w)
      refine ⟨ps.map V.ref, g9, sz_lt (by rw [List.length_map]; omega), ps ++ [p], by rw [upd_same, List.map_append]; rfl, by rw [List.length_append, g2]; rfl, nd_snoc g3 hpm, fun j p' e => ?_, fun b o e => k10 _ _ (fun z => by rw [z, hkl] at e; cases e) (s9 _ _ (g5 _ _ e))⟩
      rw [List.getElem?_append] at e
      split at e
      · have z := (g4 j p' e).same s9
        exact z.kp (ne _ _ z) t10 k10
      · rename_i hlt
        have ep : p' = p := by
          have := List.mem_of_getElem? e
          exact List.mem_singleton.mp this
        have ej : j = i := by
          have := (List.getElem?_eq_some_iff.mp e).1
          rw [List.length_singleton] at this
          omega
        rw [ep, ej]
        exact hK.kp (ne _ _ hK) t10 k10
    rintro H8 ⟨ps, hkl8, hpl, hnd, hKs8, s78⟩
    have htw8 := s78 _ _ htw7
    walk_at "rdm"
    refine dputs (kvs' := [(Sum.inr "clocks", .ref L), (Sum.inr "bag", .ref bg), (Sum.inr "life", .int 0), (Sum.inr "keepers", .ref kl)]) htw8 (by show (3 : Nat) < sizeLine; decide) (by first | rfl | kernel_rfl) ?_
    obtain ⟨H9, hH9⟩ : ∃ H9, upd H8 tw (.dK [(Sum.inr "clocks", .ref L), (Sum.inr "bag", .ref bg), (Sum.inr "life", .int 0), (Sum.inr "keepers", .ref kl)]) = H9 := ⟨_, rfl⟩
    have k9 : Kp tw H8 H9 := by rw [← hH9]; exact kp_upd
    have htw9 : H9 tw = some (.dK [(Sum.inr "clocks", .ref L), (Sum.inr "bag", .ref bg), (Sum.inr "life", .int 0), (Sum.inr "keepers", .ref kl)]) := by rw [← hH9]; exact upd_same
    rw [hH9]
    clear hH9
    have hL9 := (kp_still htw8 k9).1 _ _ (s78 _ _ hL7)
    have hbg9 := (kp_still htw8 k9).1 _ _ (s78 _ _ hbg7)
    have hkl9 := (kp_still htw8 k9).1 _ _ hkl8
    have s29 : Same H2 H9 := fun b o e => k9 _ _ (ne_of_none e htw2) (s78 _ _ (s27 _ _ e))
    have hKs9 : KsAt C_Keeper H9 x ps (fun j => ⟨c j, c j + T.wait, none⟩) := fun j p e => (hKs8 j p e).kpd htw8 k9
    have hth9 := s29 _ _ hth2
    clear hKs8 hkl8 htw8 k9 s78 htw7 hL7 hbg7 s27 hT7 hth7 hkl
    try simp only [List.set_cons_zero, List.set_cons_succ]
    walk_at "rdm"
    refine rd_rng1 ?_
    walk_at "rdm"
    refine rng1 (by omega) (by omega) ?_
    intro hl0 hhl
    have eh : ((nh : Int)).toNat = nh := by omega
    rw [eh]
    have nLhl : L ≠ hl0 := ne_of_none hL9 hhl
    have nbhl : bg ≠ hl0 := ne_of_none hbg9 hhl
    have nkhl : kl ≠ hl0 := ne_of_none hkl9 hhl
    have hhl2 : H2 hl0 = none := same_none s29 hhl
    refine lc_it walk_range (fun i H10 => ∃ hs : List (Addr × Addr × Addr), H10 hl0 = some (.lst (hs.map fun z => V.ref z.1)) ∧ hs.length = i ∧ (hs.map (·.1)).Nodup ∧ (hs.map (·.2.1)).Nodup ∧ (hs.map (·.2.2)).Nodup ∧
      (∀ (j : Nat) (z : Addr × Addr × Addr), hs[j]? = some z → HAt C_Holder H10 z.1 x (j : Int) z.2.1 z.2.2 ⟨0, c (kn + j), 0, [], []⟩) ∧ Same H9 H10)
      ⟨[], upd_same, rfl, List.nodup_nil, List.nodup_nil, List.nodup_nil, (fun j p e => (by simp at e)), Same.upd hhl⟩ (fun _ _ _ _ => True.intro) ?_ ?_
    · rintro i v H10 H11 hi ⟨hs, g1, g2, n1, n2, n3, g4, g5⟩ ⟨rfl, rfl⟩
      have hL10 := g5 _ _ hL9
      have hth10 := g5 _ _ hth9
      walk_at "rd"
      refine ⟨rfl, ?_⟩
      refine rd_yes ?_
      rw [if_pos rfl]
      walk_at "rd"
      refine rd_ixL (v := .int (c (kn + i))) (sq_l hL10) (by rw [show T.kn + (0 + (i : Int)) = ((kn + i : Nat) : Int) by omega]; exact rg_get (by omega)) ?_
      walk_at "rd"
      intro y dy hy hdy hny
      have sm := same_made (o := .own y) (o' := .ins C_Holder dy []) hy hdy
      refine ⟨y, dy, x, 0 + (i : Int), 0, c (kn + i), rfl, upd_same, fun H12 da dl hA f1 f2 f3 hk2 => ⟨rfl, ?_⟩⟩
      rw [Int.zero_add] at hA
      have s12 := made_same hy hdy hk2
      have g12 := s12 _ _ g1
      have k13 : Kp hl0 H12 (upd H12 hl0 (.lst ((hs.map fun z => V.ref z.1) ++ [.ref y]))) := kp_upd
      have fresh : ∀ p, H11 p = none → ∀ z ∈ hs, z.1 ≠ p ∧ z.2.1 ≠ p ∧ z.2.2 ≠ p := fun p hp z hz => by
        obtain ⟨j, hj, e⟩ := List.getElem_of_mem hz
        obtain ⟨⟨_, z1⟩, z2, z3⟩ := g4 j z (by rw [List.getElem?_eq_getElem hj, e])
        exact ⟨fun w => (by rw [w, hp] at z1; cases z1), fun w => (by rw [w, hp] at z2; cases z2), fun w => (by rw [w, hp] at z3; cases z3)⟩
      refine ⟨hs.map fun z => V.ref z.1, g12, sz_lt (by rw [List.length_map]; omega), hs ++ [(y, da, dl)], by rw [upd_same, List.map_append]; rfl, by rw [List.length_append, g2]; rfl, nd_map_snoc n1 fun z hz => (fresh y hy z hz).1, nd_map_snoc n2 fun z hz => (fresh da (same_none sm f1) z hz).2.1, nd_map_snoc n3 fun z hz => (fresh dl (same_none sm f2) z hz).2.2, fun j z e => ?_,
        fun b o e => k13 _ _ (fun w => by rw [w, hhl] at e; cases e) (s12 _ _ (g5 _ _ e))⟩
      rw [List.getElem?_append] at e
      split at e
      · exact ((g4 j z e).same s12).kpl g12 k13
      · have ep := List.mem_singleton.mp (List.mem_of_getElem? e)
        have ej : j = i := by
          have := (List.getElem?_eq_some_iff.mp e).1
          rw [List.length_singleton] at this
          omega
        rw [ep, ej]
        exact hA.kpl g12 k13
    rintro H10 ⟨hs, hhl10, hhn, n1, n2, n3, hHs10, s910⟩
    have htw10 := s910 _ _ htw9
    walk_at "rdm"
    refine dputs (kvs' := townD ⟨a, th, x, tw, L, bg, kl, hl0⟩ 0) htw10 (by show (4 : Nat) < sizeLine; decide) (by first | rfl | kernel_rfl) ?_
    obtain ⟨A, rfl, rfl, rfl, rfl, rfl, rfl, rfl, rfl⟩ : ∃ A : Adr, a = A.a ∧ th = A.th ∧ x = A.t ∧ tw = A.tw ∧ L = A.cl ∧ bg = A.bg ∧ kl = A.kl ∧ hl0 = A.hl := ⟨⟨a, th, x, tw, L, bg, kl, hl0⟩, rfl, rfl, rfl, rfl, rfl, rfl, rfl, rfl⟩
    obtain ⟨H11, hH11⟩ : ∃ H11, upd H10 A.tw (.dK (townD A 0)) = H11 := ⟨_, rfl⟩
    have k11 : Kp A.tw H10 H11 := by rw [← hH11]; exact kp_upd
    have htw11 : H11 A.tw = some (.dK (townD A 0)) := by rw [← hH11]; exact upd_same
    have hH11 : upd H10 A.tw (.dK (townD ⟨A.a, A.th, A.t, A.tw, A.cl, A.bg, A.kl, A.hl⟩ 0)) = H11 := hH11
    rw [hH11]
    clear hH11
    have s211 : Same H2 H11 := fun b o e => k11 _ _ (ne_of_none e htw2) (s910 _ _ (s29 _ _ e))
    have st11 := (kp_still htw10 k11).1
    have hD : Dim T kn nh := ⟨hT, hkn.symm, hk5.2, h5, hl, hnh2.1, hnh2.2⟩
    have W11 : TwAt K C_Keeper C_Holder C_Terms H11 A T kn nh ns ps hs [] ⟨c, fun j => ⟨c j, c j + T.wait, none⟩, fun h => ⟨0, c (kn + h), 0, [], []⟩, [], 0⟩ :=
      ⟨⟨ScrM.of hS2 s211 (fun b hb => by
          simp only [List.mem_cons, List.not_mem_nil, or_false] at hb
          rcases hb with rfl | rfl | rfl | rfl
          · exact hL2
          · exact hbg2
          · exact hkl2
          · exact hhl2), htw11, st11 _ _ (s910 _ _ hL9), st11 _ _ (s910 _ _ hbg9), st11 _ _ (s910 _ _ hkl9), st11 _ _ hhl10, nLbg, nLkl, nLhl, nbkl, nbhl, nkhl⟩,
        ⟨s211 _ _ hth2, hT2.same s211, hpl, hhn, rfl, hnd, n1, n2, n3, fun j p e => ((hKs9 j p e).same s910).kpd htw10 k11, fun j z e => (hHs10 j z e).kpd htw10 (fun w => by
          have := (hHs10 j z e).ls
          rw [w, htw10] at this
          have this : (some (HO.dK ((Sum.inr "clocks", V.ref A.cl) :: _)) : Option HO) = some (HO.dK []) := this
          cases this) k11, fun i m b e => (by cases e)⟩⟩
    have I11 := Inv10.init (T := T) (kn := kn) (nh := nh) (c := c)
    have hth11 := W11.O.th
    have hS11 := W11.sq
    clear hHs10 n1 n2 n3 hhl10 htw10 s910 k11 hKs9 htw9 hL9 hbg9 hkl9 s29 hpl hnd hhn st11
    try simp only [List.set_cons_zero, List.set_cons_succ]
    walk_at "rdm"
    refine spWait_use hth11 hT h5 hl ?_
    walk_at "rdm"
    have hw60 := Tm.wait_le hT h5 hl
    have hw1 := Tm.wait1 hT
    refine rd_I ⟨by omega, by omega⟩ ?_
    have ef : T.wait.fdiv T.low = T.wait / T.low := Int.fdiv_eq_ediv_of_nonneg _ (by omega)
    have e0 : 0 ≤ T.wait / T.low := Int.ediv_nonneg (by omega) (by omega)
    have e9 : T.wait / T.low ≤ T.wait := Int.ediv_le_self _ (by omega)
    rw [ef]
    generalize T.wait / T.low = qq at *
    walk_at "rdm"
    refine ⟨A.a, A.th, A.cl, ns, _, qq + 1, T, kn + nh, c, rfl, W11.L.sq.one (by simp), hth11, hT, h5, by omega, by omega, by omega, W11.L.cl, fun H12 c12 hb12 hk12 hc12 => ?_⟩
    have W12 := W11.toC hk12 hc12
    have I12 := I11.tick hT (m := qq + 1) (by omega) hb12
    have hS12 := W12.sq
    clear W11 I11 hth11 hS11 hb12 hk12 hc12 htw11 s211 hS hS1 hS2 fth hth hth2 hth9 hx hne hT2 hk htw2 hL2 hbg2 nLbg hkl2 nLkl nbkl hhl hhl2 nLhl nbhl nkhl ef
    refine rd_seq ?_
    refine cut_nx (P := fun σ' H' => σ' = [some (.ref A.a), some (.ref A.th), some (.ref A.t), some (.int (nh : Int)), some (.ref A.cl), some (.ref A.tw), none, none, none, none, none, none, none] ∧ TwI K C_Keeper C_Holder C_Terms H' A T kn nh ns 2 0) ?_ ?_
    · rintro σ' H' ⟨rfl, ⟨ps, hs, ms, S, o, W, I, hb⟩⟩
      have hS20 := W.sq
      walk_at "rdm"
      rename_i m15 m15a m15b
      refine rng1 (by omega) (by omega) ?_
      refine forR (fun i σ H => ∃ v6 v7 v8 v9 v10 v11, σ = [some (.ref A.a), some (.ref A.th), some (.ref A.t), some (.int (nh : Int)), some (.ref A.cl), some (.ref A.tw), v6, v7, v8, v9, v10, v11, none] ∧ TwI K C_Keeper C_Holder C_Terms H A T kn nh ns (2 + (i : Int)) (10 * i)) ⟨_, _, _, _, _, _, rfl, ⟨ps, hs, ms, S, o, W, I.up (by omega), hb⟩⟩ ?_ ?_
      · clear W I hb hS20
        rintro i σ H20 hi ⟨v6, v7, v8, v9, v10, v11, rfl, ⟨ps, hs, ms, S, o, W, I, hb⟩⟩
        have hi60 : i < 61 := by omega
        have hS20 := W.sq
        have hth20 := W.O.th
        obtain ⟨ls, lw, lc, lb, lk, lh, _, _, _, _, _, _⟩ := id W.L
        walk_at "rdm"
        rename_i m ma mb
        refine rd_I (by omega) ?_
        have hf1 := Int.fmod_nonneg_of_pos (m / 16) (show 0 < (nh : Int) by omega)
        have hf2 := Int.fmod_lt_of_pos (m / 16) (show 0 < (nh : Int) by omega)
        obtain ⟨h, hh⟩ : ∃ h : Nat, (m / 16).fmod (nh : Int) = (h : Int) := ⟨((m / 16).fmod (nh : Int)).toNat, by omega⟩
        have hhn : h < nh := by omega
        rw [hh]
        clear hf1 hf2 hh
        obtain ⟨way, hway⟩ : ∃ c, m % 16 = c := ⟨_, rfl⟩
        rw [hway]
        clear hway
        try simp only [List.set_cons_zero, List.set_cons_succ]
        walk_at "rdm"
        refine rd_ixL (v := .int (S.clk (kn + h))) (sq_l lc) (by rw [show T.kn + (h : Int) = ((kn + h : Nat) : Int) by omega]; exact rg_get (by omega)) ?_
        refine rd_seq ?_
        try simp only [List.set_cons_zero, List.set_cons_succ]
        obtain ⟨x, hx⟩ : ∃ x, hs[h]? = some x := ⟨_, List.getElem?_eq_getElem (by rw [W.O.hn]; exact hhn)⟩
        obtain ⟨⟨dh, hho⟩, _, _⟩ := id (W.O.hh h x hx)
        refine cut_nx (P := fun σ' H' => ∃ v11, σ' = [some (.ref A.a), some (.ref A.th), some (.ref A.t), some (.int (nh : Int)), some (.ref A.cl), some (.ref A.tw), some (.int (0 + (i : Int))), some (.int m), some (.int way), some (.int (h : Int)), some (.int (S.clk (kn + h))), v11, none] ∧ TwI K C_Keeper C_Holder C_Terms H' A T kn nh ns (2 + (i : Int) + 1) (10 * i + 10)) ?_ ?_
        · rintro σ' H' ⟨v11, rfl, TW⟩
          walk_at "rdm"
          refine ⟨A, T, kn, nh, ns, 2 + (i : Int) + 1, 10 * i + 10, rfl, TW, hD, by omega, fun H21 TW21 _ => ?_⟩
          obtain ⟨ps, hs, ms, S, o, W, I, hb⟩ := TW21
          walk_at "rdm"
          exact ⟨_, _, _, _, _, _, rfl, ⟨ps, hs, ms, S, o, W, I.up (by omega), by omega⟩⟩
        intro N' key
        have hmost : 1 ≤ T.most := by have := Tm.most_ok T; omega
        refine cut_else (P := fun H' => H' = H20) ?_ ?_
        · intro H' e
          subst e
          refine cut_else (P := fun H'' => H'' = H') ?_ ?_
          · intro H'' e
            subst e
            refine cut_else (P := fun H' => TwI K C_Keeper C_Holder C_Terms H' A T kn nh ns (2 + (i : Int)) (10 * i)) ?_ ?_
            · generalize S.clk (kn + h) = ck at *
              clear lw lc lb lk lh hS20 hth20 hho W I hb hx
              rintro H' ⟨ps, hs, ms, S, o, W, I, hb⟩
              refine cut_else (P := fun H' => TwI K C_Keeper C_Holder C_Terms H' A T kn nh ns (2 + (i : Int)) (10 * i)) ?_ ?_
              · clear W I hb
                rintro H' ⟨ps, hs, ms, S, o, W, I, hb⟩
                have lw := W.L.tw
                have lb := W.L.bg
                walk_at "rdm"
                cases hemp : (ms.map V.ref).isEmpty with
                | true =>
                  walk_at "rdm"
                  exact key _ _ ⟨_, rfl, TwI.up ⟨ps, hs, ms, S, o, W, I, hb⟩ (by omega) (by omega)⟩
                | false =>
                  have hlen : 0 < (ms.map V.ref).length := by
                    cases ms with
                    | nil => cases hemp
                    | cons _ _ => simp
                  walk_at "rdm"
                  all_goals
                    refine rd_I (by omega) ?_
                    walk_at "rdm"
                    refine rd_bagix lb (by omega) (by omega) fun j mm hj => ?_
                    walk_at "rdm"
                    refine ⟨A, T, kn, nh, ns, ps, hs, ms, S, o, 2 + (i : Int), 10 * i, j, mm, _, rfl, W, I, hb, hD, by omega, by omega, hj, fun H21 TW => ?_⟩
                    exact key _ _ ⟨_, rfl, TW.up (by omega) (by omega)⟩
              · intro s' key2
                have hS21 := W.sq
                walk_at "rdm"
                · refine ⟨A, T, kn, nh, ns, 2 + (i : Int), _, 10 * i, rfl, ⟨ps, hs, ms, S, o, W, I, hb⟩, hD, fun H21 TW => ?_⟩
                  exact key _ _ ⟨_, rfl, TW.up (by omega) (by omega)⟩
                · refine ⟨A, T, kn, nh, ns, 2 + (i : Int), _, 10 * i, rfl, ⟨ps, hs, ms, S, o, W, I, hb⟩, hD, fun H21 TW => ?_⟩
                  exact key _ _ ⟨_, rfl, TW.up (by omega) (by omega)⟩
                · exact key2 _ ⟨ps, hs, ms, S, o, W, I, hb⟩
                · exact key2 _ ⟨ps, hs, ms, S, o, W, I, hb⟩
            · intro s' key2
              walk_at "rdm"
              · refine rd_ixL (v := .ref x.1) (sq_l lh) (hs_get hx) ?_
                walk_at "rdm"
                refine t_until W hx (I.W h hhn).hc ((I.W h hhn).wf (by omega) (by omega)) fun v H21 W21 t21 hv => ?_
                have I21 := I.look hhn
                rcases until_gt hmost hv with ⟨e2, rfl⟩ | ⟨e2, e, rfl, he⟩
                · walk_at "rdm"
                  exact key2 _ ⟨_, _, _, _, _, W21, I21, hb⟩
                · have e3 : hHolds T.most ((S.setH h (hLook T.len (S.clk (kn + h)) (S.hs h))).clk (kn + h)) ((S.setH h (hLook T.len (S.clk (kn + h)) (S.hs h))).hs h) = true := by
                    rw [setH_same]
                    exact e2
                  have hmn := holds_many I21 hmost hhn e3
                  obtain ⟨ls21, lw21, lc21, lb21, lk21, lh21, _, _, _, _, _, _⟩ := id W21.L
                  obtain ⟨⟨dh21, hho21⟩, _, _⟩ := id (W21.O.hh h x hx)
                  walk_at "rdm"
                  refine rd_ixL (v := .ref x.1) (sq_l lh21) (hs_get hx) ?_
                  walk_at "rdm"
                  refine t_free W21 hx (I21.W h hhn).hc ((I21.W h hhn).wf (by omega) (by omega)) hmn fun r hs' H22 hr22 W22 t22 => ?_
                  have I22 := I21.free hhn
                  walk_at "rdm"
                  refine ⟨A, T, kn, nh, ns, ps, hs', ms, _, 2, h, (((S.setH h (hLook T.len (S.clk (kn + h)) (S.hs h))).hs h).life, ((S.setH h (hLook T.len (S.clk (kn + h)) (S.hs h))).hs h).many - 1), r, rfl, W22, hr22, hk5.2, ?_, fun ms' H23 W23 => ?_⟩
                  · show S.bag.length ≤ 100000
                    omega
                  · have I23 := I22.addAll (kd := 2) (n := (((S.setH h (hLook T.len (S.clk (kn + h)) (S.hs h))).hs h).life, ((S.setH h (hLook T.len (S.clk (kn + h)) (S.hs h))).hs h).many - 1)) hhn (.inr rfl) (by
                      rw [setH_same (S := S.setH h (hLook T.len (S.clk (kn + h)) (S.hs h)))]
                      exact .inr ⟨rfl, by dsimp only [hFree]; omega⟩) (fun _ y hy => by
                      rw [setH_same (S := S.setH h (hLook T.len (S.clk (kn + h)) (S.hs h)))] at hy
                      cases hy)
                    refine key _ _ ⟨_, rfl, ⟨_, _, _, _, _, W23, I23.up (by omega), ?_⟩⟩
                    show (S.bag ++ (List.range kn).map _).length ≤ 10 * i + 10
                    rw [addAll_len]
                    omega
              · exact key2 _ ⟨_, _, _, _, _, W, I, hb⟩
          · intro s' key2
            walk_at "rdm"
            · refine rd_ixL (v := .ref x.1) (sq_l lh) (hs_get hx) ?_
              walk_at "rdm"
              refine t_ask W hx (I.W h hhn).hc ((I.W h hhn).wf (by omega) (by omega)) fun r H21 hr21 W21 t21 => ?_
              have I21 := I.ask hT hhn
              walk_at "rdm"
              refine ⟨A, T, kn, nh, ns, ps, hs, ms, _, 0, h, ((S.hs h).life, (S.hs h).many), r, rfl, W21, hr21, hk5.2, ?_, fun ms' H22 W22 => ?_⟩
              · show S.bag.length ≤ 100000
                omega
              · have I22 := I21.addAll (kd := 0) (n := ((S.hs h).life, (S.hs h).many)) hhn (.inl rfl) (by
                  rw [setH_same]
                  exact .inr ⟨rfl, by dsimp only [hAsk]; omega⟩) (fun w => absurd w (by omega))
                refine key _ _ ⟨_, rfl, ⟨_, _, _, _, _, W22, I22.up (by omega), ?_⟩⟩
                show (S.bag ++ (List.range kn).map _).length ≤ 10 * i + 10
                rw [addAll_len]
                omega
            · exact key2 _ rfl
        · intro s' key2
          walk_at "rdm"
          · refine spWait_use hth20 hT h5 hl ?_
            walk_at "rdm"
            rename_i pL H21 e21 s21 hL21 z hz
            simp only [List.mem_cons, List.not_mem_nil, or_false, V.int.injEq] at hz
            have hz0 : 0 ≤ z := by omega
            have hz1 : z ≤ 1000 := by omega
            have W21 := W.same s21
            refine ⟨A.a, A.th, A.cl, ns, _, z, T, kn + nh, S.clk, rfl, W21.L.sq.one (by simp), W21.O.th, hT, h5, hz0, hz1, by omega, W21.L.cl, fun H22 c22 hb22 hk22 hc22 => ?_⟩
            exact key _ _ ⟨_, rfl, ⟨_, _, _, _, _, W21.toC hk22 hc22, (I.tick hT hz0 hb22).up (by omega), Nat.le_trans hb (by omega)⟩⟩
          · exact key2 _ rfl
      · rintro σ H20 ⟨v6, v7, v8, v9, v10, v11, rfl, TW⟩
        walk_at "rdm"
        exact q _
    · intro N' key
      walk_at "rdm"
      · refine ⟨A, T, kn, nh, ns, 0, 0, rfl, ⟨_, _, _, _, _, W12, I12, Nat.le_refl _⟩, hD, by omega, fun H13 TW => ?_⟩
        walk_at "rdm"
        exact key _ _ ⟨rfl, TW⟩
      · exact key _ _ ⟨rfl, ⟨_, _, _, _, _, W12, I12.up (by omega), Nat.le_refl _⟩⟩
end
end Lh
namespace Lh
open PySem PySem.Spec PyProof.Rows L2
theorem all_mk {l : PySem.W.OpenLaw} {w : World} {K : PySem.W.Frag} {h : Heap} {mg : Str → Option Value} {fa : Addr} (X : K.In h) (G : h.Ns mainGlobals mg) (hfa : mg "law" = some (.ref fa))
    {C_Terms C_Keeper C_Holder C_LeaseError C_BadTerms C_Back C_NoKeeper C_NotAsked f_Terms_init f_Terms_ticks f_Terms_wait f_Terms_most f_Keeper_init f_Keeper_look f_Keeper_is_let f_Keeper_asked f_Keeper_freed f_Holder_init f_Holder_look f_Holder_ask f_Holder_hear f_Holder_holds f_Holder_until f_Holder_free f__law_cell f__law_mix f__law_terms f__law_wait f__law_ticks f__law_come f__law_to_all f__law_anew f__law_one f__law_scene f_law : Addr}
    {od_Terms_init an_Terms_init : Option Addr} {sl_Terms_init : Array (Option Value)} {oc_Terms_init kV_Terms_init dc_Terms_init pm_Terms_init cd_Terms_init ct_Terms_init : Value}
    {od_Terms_ticks an_Terms_ticks : Option Addr} {sl_Terms_ticks : Array (Option Value)} {oc_Terms_ticks kV_Terms_ticks dc_Terms_ticks pm_Terms_ticks cd_Terms_ticks ct_Terms_ticks : Value}
    {od_Terms_wait an_Terms_wait : Option Addr} {sl_Terms_wait : Array (Option Value)} {oc_Terms_wait kV_Terms_wait dc_Terms_wait pm_Terms_wait cd_Terms_wait ct_Terms_wait : Value}
    {od_Terms_most an_Terms_most : Option Addr} {sl_Terms_most : Array (Option Value)} {oc_Terms_most kV_Terms_most dc_Terms_most pm_Terms_most cd_Terms_most ct_Terms_most : Value}
    {od_Keeper_init an_Keeper_init : Option Addr} {sl_Keeper_init : Array (Option Value)} {oc_Keeper_init kV_Keeper_init dc_Keeper_init pm_Keeper_init cd_Keeper_init ct_Keeper_init : Value}
    {od_Keeper_look an_Keeper_look : Option Addr} {sl_Keeper_look : Array (Option Value)} {oc_Keeper_look kV_Keeper_look dc_Keeper_look pm_Keeper_look cd_Keeper_look ct_Keeper_look : Value}
    {od_Keeper_is_let an_Keeper_is_let : Option Addr} {sl_Keeper_is_let : Array (Option Value)} {oc_Keeper_is_let kV_Keeper_is_let dc_Keeper_is_let pm_Keeper_is_let cd_Keeper_is_let ct_Keeper_is_let : Value}
    {od_Keeper_asked an_Keeper_asked : Option Addr} {sl_Keeper_asked : Array (Option Value)} {oc_Keeper_asked kV_Keeper_asked dc_Keeper_asked pm_Keeper_asked cd_Keeper_asked ct_Keeper_asked : Value}
    {od_Keeper_freed an_Keeper_freed : Option Addr} {sl_Keeper_freed : Array (Option Value)} {oc_Keeper_freed kV_Keeper_freed dc_Keeper_freed pm_Keeper_freed cd_Keeper_freed ct_Keeper_freed : Value}
    {od_Holder_init an_Holder_init : Option Addr} {sl_Holder_init : Array (Option Value)} {oc_Holder_init kV_Holder_init dc_Holder_init pm_Holder_init cd_Holder_init ct_Holder_init : Value}
    {od_Holder_look an_Holder_look : Option Addr} {sl_Holder_look : Array (Option Value)} {oc_Holder_look kV_Holder_look dc_Holder_look pm_Holder_look cd_Holder_look ct_Holder_look : Value}
    {od_Holder_ask an_Holder_ask : Option Addr} {sl_Holder_ask : Array (Option Value)} {oc_Holder_ask kV_Holder_ask dc_Holder_ask pm_Holder_ask cd_Holder_ask ct_Holder_ask : Value}
    {od_Holder_hear an_Holder_hear : Option Addr} {sl_Holder_hear : Array (Option Value)} {oc_Holder_hear kV_Holder_hear dc_Holder_hear pm_Holder_hear cd_Holder_hear ct_Holder_hear : Value}
    {od_Holder_holds an_Holder_holds : Option Addr} {sl_Holder_holds : Array (Option Value)} {oc_Holder_holds kV_Holder_holds dc_Holder_holds pm_Holder_holds cd_Holder_holds ct_Holder_holds : Value}
    {od_Holder_until an_Holder_until : Option Addr} {sl_Holder_until : Array (Option Value)} {oc_Holder_until kV_Holder_until dc_Holder_until pm_Holder_until cd_Holder_until ct_Holder_until : Value}
    {od_Holder_free an_Holder_free : Option Addr} {sl_Holder_free : Array (Option Value)} {oc_Holder_free kV_Holder_free dc_Holder_free pm_Holder_free cd_Holder_free ct_Holder_free : Value}
    {od__law_cell an__law_cell : Option Addr} {sl__law_cell : Array (Option Value)} {oc__law_cell kV__law_cell dc__law_cell pm__law_cell cd__law_cell ct__law_cell : Value}
    {od__law_mix an__law_mix : Option Addr} {sl__law_mix : Array (Option Value)} {oc__law_mix kV__law_mix dc__law_mix pm__law_mix cd__law_mix ct__law_mix : Value}
    {od__law_terms an__law_terms : Option Addr} {sl__law_terms : Array (Option Value)} {oc__law_terms kV__law_terms dc__law_terms pm__law_terms cd__law_terms ct__law_terms : Value}
    {od__law_wait an__law_wait : Option Addr} {sl__law_wait : Array (Option Value)} {oc__law_wait kV__law_wait dc__law_wait pm__law_wait cd__law_wait ct__law_wait : Value}
    {od__law_ticks an__law_ticks : Option Addr} {sl__law_ticks : Array (Option Value)} {oc__law_ticks kV__law_ticks dc__law_ticks pm__law_ticks cd__law_ticks ct__law_ticks : Value}
    {od__law_come an__law_come : Option Addr} {sl__law_come : Array (Option Value)} {oc__law_come kV__law_come dc__law_come pm__law_come cd__law_come ct__law_come : Value}
    {od__law_to_all an__law_to_all : Option Addr} {sl__law_to_all : Array (Option Value)} {oc__law_to_all kV__law_to_all dc__law_to_all pm__law_to_all cd__law_to_all ct__law_to_all : Value}
    {od__law_anew an__law_anew : Option Addr} {sl__law_anew : Array (Option Value)} {oc__law_anew kV__law_anew dc__law_anew pm__law_anew cd__law_anew ct__law_anew : Value}
    {od__law_one an__law_one : Option Addr} {sl__law_one : Array (Option Value)} {oc__law_one kV__law_one dc__law_one pm__law_one cd__law_one ct__law_one : Value}
    {od__law_scene an__law_scene : Option Addr} {sl__law_scene : Array (Option Value)} {oc__law_scene kV__law_scene dc__law_scene pm__law_scene cd__law_scene ct__law_scene : Value}
    {od_law an_law : Option Addr} {sl_law : Array (Option Value)} {oc_law kV_law dc_law pm_law cd_law ct_law : Value}
    {t_MOST_STEP t_MOST_LENGTH t_MOST_KEEPERS : Tok}
    (aC_Terms : PySem.W.nsIn K mainGlobals "Terms" = some (some (.ref C_Terms)))
    (pg_Terms : PySem.W.plainGet K C_Terms Str.empty = true)
    (hd_Terms : PySem.W.hasDictIn K C_Terms = true)
    (po_Terms : PySem.W.plainOver K C_Terms = true)
    (sa_Terms : PySem.W.findIn K (.ref C_Terms) "__setattr__" = some (some (.builtin "object.__setattr__")))
    (mk_Terms : PySem.W.makesIn K C_Terms = true)
    (kc_Terms : PySem.W.keepIn K (.ref C_Terms) = true)
    (n_Terms_low : PySem.W.findIn K (.ref C_Terms) "low" = some none)
    (n_Terms_high : PySem.W.findIn K (.ref C_Terms) "high" = some none)
    (n_Terms_length : PySem.W.findIn K (.ref C_Terms) "length" = some none)
    (n_Terms_keepers : PySem.W.findIn K (.ref C_Terms) "keepers" = some none)
    (aC_Keeper : PySem.W.nsIn K mainGlobals "Keeper" = some (some (.ref C_Keeper)))
    (pg_Keeper : PySem.W.plainGet K C_Keeper Str.empty = true)
    (hd_Keeper : PySem.W.hasDictIn K C_Keeper = true)
    (po_Keeper : PySem.W.plainOver K C_Keeper = true)
    (sa_Keeper : PySem.W.findIn K (.ref C_Keeper) "__setattr__" = some (some (.builtin "object.__setattr__")))
    (mk_Keeper : PySem.W.makesIn K C_Keeper = true)
    (kc_Keeper : PySem.W.keepIn K (.ref C_Keeper) = true)
    (n_Keeper_terms : PySem.W.findIn K (.ref C_Keeper) "terms" = some none)
    (n_Keeper_clock : PySem.W.findIn K (.ref C_Keeper) "clock" = some none)
    (n_Keeper_ends : PySem.W.findIn K (.ref C_Keeper) "ends" = some none)
    (n_Keeper_name : PySem.W.findIn K (.ref C_Keeper) "name" = some none)
    (n_Keeper_number : PySem.W.findIn K (.ref C_Keeper) "number" = some none)
    (aC_Holder : PySem.W.nsIn K mainGlobals "Holder" = some (some (.ref C_Holder)))
    (pg_Holder : PySem.W.plainGet K C_Holder Str.empty = true)
    (hd_Holder : PySem.W.hasDictIn K C_Holder = true)
    (po_Holder : PySem.W.plainOver K C_Holder = true)
    (sa_Holder : PySem.W.findIn K (.ref C_Holder) "__setattr__" = some (some (.builtin "object.__setattr__")))
    (mk_Holder : PySem.W.makesIn K C_Holder = true)
    (kc_Holder : PySem.W.keepIn K (.ref C_Holder) = true)
    (n_Holder_terms : PySem.W.findIn K (.ref C_Holder) "terms" = some none)
    (n_Holder_name : PySem.W.findIn K (.ref C_Holder) "name" = some none)
    (n_Holder_life : PySem.W.findIn K (.ref C_Holder) "life" = some none)
    (n_Holder_clock : PySem.W.findIn K (.ref C_Holder) "clock" = some none)
    (n_Holder_many : PySem.W.findIn K (.ref C_Holder) "many" = some none)
    (n_Holder_asks : PySem.W.findIn K (.ref C_Holder) "asks" = some none)
    (n_Holder_lets : PySem.W.findIn K (.ref C_Holder) "lets" = some none)
    (aX_LeaseError : PySem.W.nsIn K mainGlobals "LeaseError" = some (some (.ref C_LeaseError)))
    (xk_LeaseError : PySem.W.keepIn K (.ref C_LeaseError) = true)
    (xq_LeaseError : PySem.W.excIn K C_LeaseError [.type "ValueError", .type "Exception", .type "BaseException", .type "object"] "ValueError.__new__" = true)
    (xs_LeaseError : PySem.W.subIn K (.ref C_LeaseError) (.type "BaseException") = some true)
    (xt_LeaseError : PySem.W.typeIn K (.ref C_LeaseError) = some (.type "type"))
    (e1_LeaseError : PySem.W.findIn K (.ref C_LeaseError) "__getattribute__" = some (some (.builtin "BaseException.__getattribute__")))
    (e2_LeaseError : PySem.W.findIn K (.ref C_LeaseError) "__getattr__" = some none)
    (e4_LeaseError : PySem.W.hasDictIn K C_LeaseError = true)
    (e5_LeaseError : PySem.W.findIn K (.ref C_LeaseError) "__class__" = some (some (.builtin "object.__class__")))
    (e6_LeaseError : PySem.W.specialIn K (.builtin "object.__class__") "__get__" = some (some (.builtin "getset_descriptor.__get__")))
    (e7_LeaseError : PySem.W.takesIn K (.builtin "object.__class__") = some true)
    (e8_LeaseError : PySem.W.mroIn K C_LeaseError (.type "object") = some true)
    (aX_BadTerms : PySem.W.nsIn K mainGlobals "BadTerms" = some (some (.ref C_BadTerms)))
    (xk_BadTerms : PySem.W.keepIn K (.ref C_BadTerms) = true)
    (xq_BadTerms : PySem.W.excIn K C_BadTerms [.type "ValueError", .type "Exception", .type "BaseException", .type "object"] "ValueError.__new__" = true)
    (xs_BadTerms : PySem.W.subIn K (.ref C_BadTerms) (.type "BaseException") = some true)
    (xt_BadTerms : PySem.W.typeIn K (.ref C_BadTerms) = some (.type "type"))
    (e1_BadTerms : PySem.W.findIn K (.ref C_BadTerms) "__getattribute__" = some (some (.builtin "BaseException.__getattribute__")))
    (e2_BadTerms : PySem.W.findIn K (.ref C_BadTerms) "__getattr__" = some none)
    (e4_BadTerms : PySem.W.hasDictIn K C_BadTerms = true)
    (e5_BadTerms : PySem.W.findIn K (.ref C_BadTerms) "__class__" = some (some (.builtin "object.__class__")))
    (e6_BadTerms : PySem.W.specialIn K (.builtin "object.__class__") "__get__" = some (some (.builtin "getset_descriptor.__get__")))
    (e7_BadTerms : PySem.W.takesIn K (.builtin "object.__class__") = some true)
    (e8_BadTerms : PySem.W.mroIn K C_BadTerms (.type "object") = some true)
    (aX_Back : PySem.W.nsIn K mainGlobals "Back" = some (some (.ref C_Back)))
    (xk_Back : PySem.W.keepIn K (.ref C_Back) = true)
    (xq_Back : PySem.W.excIn K C_Back [.type "ValueError", .type "Exception", .type "BaseException", .type "object"] "ValueError.__new__" = true)
    (xs_Back : PySem.W.subIn K (.ref C_Back) (.type "BaseException") = some true)
    (xt_Back : PySem.W.typeIn K (.ref C_Back) = some (.type "type"))
    (e1_Back : PySem.W.findIn K (.ref C_Back) "__getattribute__" = some (some (.builtin "BaseException.__getattribute__")))
    (e2_Back : PySem.W.findIn K (.ref C_Back) "__getattr__" = some none)
    (e4_Back : PySem.W.hasDictIn K C_Back = true)
    (e5_Back : PySem.W.findIn K (.ref C_Back) "__class__" = some (some (.builtin "object.__class__")))
    (e6_Back : PySem.W.specialIn K (.builtin "object.__class__") "__get__" = some (some (.builtin "getset_descriptor.__get__")))
    (e7_Back : PySem.W.takesIn K (.builtin "object.__class__") = some true)
    (e8_Back : PySem.W.mroIn K C_Back (.type "object") = some true)
    (aX_NoKeeper : PySem.W.nsIn K mainGlobals "NoKeeper" = some (some (.ref C_NoKeeper)))
    (xk_NoKeeper : PySem.W.keepIn K (.ref C_NoKeeper) = true)
    (xq_NoKeeper : PySem.W.excIn K C_NoKeeper [.type "ValueError", .type "Exception", .type "BaseException", .type "object"] "ValueError.__new__" = true)
    (xs_NoKeeper : PySem.W.subIn K (.ref C_NoKeeper) (.type "BaseException") = some true)
    (xt_NoKeeper : PySem.W.typeIn K (.ref C_NoKeeper) = some (.type "type"))
    (e1_NoKeeper : PySem.W.findIn K (.ref C_NoKeeper) "__getattribute__" = some (some (.builtin "BaseException.__getattribute__")))
    (e2_NoKeeper : PySem.W.findIn K (.ref C_NoKeeper) "__getattr__" = some none)
    (e4_NoKeeper : PySem.W.hasDictIn K C_NoKeeper = true)
    (e5_NoKeeper : PySem.W.findIn K (.ref C_NoKeeper) "__class__" = some (some (.builtin "object.__class__")))
    (e6_NoKeeper : PySem.W.specialIn K (.builtin "object.__class__") "__get__" = some (some (.builtin "getset_descriptor.__get__")))
    (e7_NoKeeper : PySem.W.takesIn K (.builtin "object.__class__") = some true)
    (e8_NoKeeper : PySem.W.mroIn K C_NoKeeper (.type "object") = some true)
    (aX_NotAsked : PySem.W.nsIn K mainGlobals "NotAsked" = some (some (.ref C_NotAsked)))
    (xk_NotAsked : PySem.W.keepIn K (.ref C_NotAsked) = true)
    (xq_NotAsked : PySem.W.excIn K C_NotAsked [.type "ValueError", .type "Exception", .type "BaseException", .type "object"] "ValueError.__new__" = true)
    (xs_NotAsked : PySem.W.subIn K (.ref C_NotAsked) (.type "BaseException") = some true)
    (xt_NotAsked : PySem.W.typeIn K (.ref C_NotAsked) = some (.type "type"))
    (e1_NotAsked : PySem.W.findIn K (.ref C_NotAsked) "__getattribute__" = some (some (.builtin "BaseException.__getattribute__")))
    (e2_NotAsked : PySem.W.findIn K (.ref C_NotAsked) "__getattr__" = some none)
    (e4_NotAsked : PySem.W.hasDictIn K C_NotAsked = true)
    (e5_NotAsked : PySem.W.findIn K (.ref C_NotAsked) "__class__" = some (some (.builtin "object.__class__")))
    (e6_NotAsked : PySem.W.specialIn K (.builtin "object.__class__") "__get__" = some (some (.builtin "getset_descriptor.__get__")))
    (e7_NotAsked : PySem.W.takesIn K (.builtin "object.__class__") = some true)
    (e8_NotAsked : PySem.W.mroIn K C_NotAsked (.type "object") = some true)
    (a_Terms_init : PySem.W.findIn K (.ref C_Terms) "__init__" = some (some (.ref f_Terms_init)))
    (i_Terms_init : PySem.W.isFn K (.ref f_Terms_init) = true)
    (l_Terms_init : K.lookup f_Terms_init = some ⟨oc_Terms_init, od_Terms_init, .func (PySem.W.fnOf "__init__" "Terms.__init__" (defArgs s_Terms_init) (defBody s_Terms_init) (defScope s_Terms_init) .none kV_Terms_init dc_Terms_init pm_Terms_init an_Terms_init cd_Terms_init ct_Terms_init), sl_Terms_init⟩)
    (c_Terms_init : PySem.W.codeIn K cd_Terms_init "Terms.__init__" = true)
    (k_Terms_init : PySem.W.keepIn K (.ref f_Terms_init) = true)
    (a_Terms_ticks : PySem.W.findIn K (.ref C_Terms) "ticks" = some (some (.ref f_Terms_ticks)))
    (i_Terms_ticks : PySem.W.isFn K (.ref f_Terms_ticks) = true)
    (l_Terms_ticks : K.lookup f_Terms_ticks = some ⟨oc_Terms_ticks, od_Terms_ticks, .func (PySem.W.fnOf "ticks" "Terms.ticks" (defArgs s_Terms_ticks) (defBody s_Terms_ticks) (defScope s_Terms_ticks) .none kV_Terms_ticks dc_Terms_ticks pm_Terms_ticks an_Terms_ticks cd_Terms_ticks ct_Terms_ticks), sl_Terms_ticks⟩)
    (c_Terms_ticks : PySem.W.codeIn K cd_Terms_ticks "Terms.ticks" = true)
    (k_Terms_ticks : PySem.W.keepIn K (.ref f_Terms_ticks) = true)
    (a_Terms_wait : PySem.W.findIn K (.ref C_Terms) "wait" = some (some (.ref f_Terms_wait)))
    (i_Terms_wait : PySem.W.isFn K (.ref f_Terms_wait) = true)
    (l_Terms_wait : K.lookup f_Terms_wait = some ⟨oc_Terms_wait, od_Terms_wait, .func (PySem.W.fnOf "wait" "Terms.wait" (defArgs s_Terms_wait) (defBody s_Terms_wait) (defScope s_Terms_wait) .none kV_Terms_wait dc_Terms_wait pm_Terms_wait an_Terms_wait cd_Terms_wait ct_Terms_wait), sl_Terms_wait⟩)
    (c_Terms_wait : PySem.W.codeIn K cd_Terms_wait "Terms.wait" = true)
    (k_Terms_wait : PySem.W.keepIn K (.ref f_Terms_wait) = true)
    (a_Terms_most : PySem.W.findIn K (.ref C_Terms) "most" = some (some (.ref f_Terms_most)))
    (i_Terms_most : PySem.W.isFn K (.ref f_Terms_most) = true)
    (l_Terms_most : K.lookup f_Terms_most = some ⟨oc_Terms_most, od_Terms_most, .func (PySem.W.fnOf "most" "Terms.most" (defArgs s_Terms_most) (defBody s_Terms_most) (defScope s_Terms_most) .none kV_Terms_most dc_Terms_most pm_Terms_most an_Terms_most cd_Terms_most ct_Terms_most), sl_Terms_most⟩)
    (c_Terms_most : PySem.W.codeIn K cd_Terms_most "Terms.most" = true)
    (k_Terms_most : PySem.W.keepIn K (.ref f_Terms_most) = true)
    (a_Keeper_init : PySem.W.findIn K (.ref C_Keeper) "__init__" = some (some (.ref f_Keeper_init)))
    (i_Keeper_init : PySem.W.isFn K (.ref f_Keeper_init) = true)
    (l_Keeper_init : K.lookup f_Keeper_init = some ⟨oc_Keeper_init, od_Keeper_init, .func (PySem.W.fnOf "__init__" "Keeper.__init__" (defArgs s_Keeper_init) (defBody s_Keeper_init) (defScope s_Keeper_init) .none kV_Keeper_init dc_Keeper_init pm_Keeper_init an_Keeper_init cd_Keeper_init ct_Keeper_init), sl_Keeper_init⟩)
    (c_Keeper_init : PySem.W.codeIn K cd_Keeper_init "Keeper.__init__" = true)
    (k_Keeper_init : PySem.W.keepIn K (.ref f_Keeper_init) = true)
    (a_Keeper_look : PySem.W.findIn K (.ref C_Keeper) "look" = some (some (.ref f_Keeper_look)))
    (i_Keeper_look : PySem.W.isFn K (.ref f_Keeper_look) = true)
    (l_Keeper_look : K.lookup f_Keeper_look = some ⟨oc_Keeper_look, od_Keeper_look, .func (PySem.W.fnOf "look" "Keeper.look" (defArgs s_Keeper_look) (defBody s_Keeper_look) (defScope s_Keeper_look) .none kV_Keeper_look dc_Keeper_look pm_Keeper_look an_Keeper_look cd_Keeper_look ct_Keeper_look), sl_Keeper_look⟩)
    (c_Keeper_look : PySem.W.codeIn K cd_Keeper_look "Keeper.look" = true)
    (k_Keeper_look : PySem.W.keepIn K (.ref f_Keeper_look) = true)
    (a_Keeper_is_let : PySem.W.findIn K (.ref C_Keeper) "is_let" = some (some (.ref f_Keeper_is_let)))
    (i_Keeper_is_let : PySem.W.isFn K (.ref f_Keeper_is_let) = true)
    (l_Keeper_is_let : K.lookup f_Keeper_is_let = some ⟨oc_Keeper_is_let, od_Keeper_is_let, .func (PySem.W.fnOf "is_let" "Keeper.is_let" (defArgs s_Keeper_is_let) (defBody s_Keeper_is_let) (defScope s_Keeper_is_let) .none kV_Keeper_is_let dc_Keeper_is_let pm_Keeper_is_let an_Keeper_is_let cd_Keeper_is_let ct_Keeper_is_let), sl_Keeper_is_let⟩)
    (c_Keeper_is_let : PySem.W.codeIn K cd_Keeper_is_let "Keeper.is_let" = true)
    (k_Keeper_is_let : PySem.W.keepIn K (.ref f_Keeper_is_let) = true)
    (a_Keeper_asked : PySem.W.findIn K (.ref C_Keeper) "asked" = some (some (.ref f_Keeper_asked)))
    (i_Keeper_asked : PySem.W.isFn K (.ref f_Keeper_asked) = true)
    (l_Keeper_asked : K.lookup f_Keeper_asked = some ⟨oc_Keeper_asked, od_Keeper_asked, .func (PySem.W.fnOf "asked" "Keeper.asked" (defArgs s_Keeper_asked) (defBody s_Keeper_asked) (defScope s_Keeper_asked) .none kV_Keeper_asked dc_Keeper_asked pm_Keeper_asked an_Keeper_asked cd_Keeper_asked ct_Keeper_asked), sl_Keeper_asked⟩)
    (c_Keeper_asked : PySem.W.codeIn K cd_Keeper_asked "Keeper.asked" = true)
    (k_Keeper_asked : PySem.W.keepIn K (.ref f_Keeper_asked) = true)
    (a_Keeper_freed : PySem.W.findIn K (.ref C_Keeper) "freed" = some (some (.ref f_Keeper_freed)))
    (i_Keeper_freed : PySem.W.isFn K (.ref f_Keeper_freed) = true)
    (l_Keeper_freed : K.lookup f_Keeper_freed = some ⟨oc_Keeper_freed, od_Keeper_freed, .func (PySem.W.fnOf "freed" "Keeper.freed" (defArgs s_Keeper_freed) (defBody s_Keeper_freed) (defScope s_Keeper_freed) .none kV_Keeper_freed dc_Keeper_freed pm_Keeper_freed an_Keeper_freed cd_Keeper_freed ct_Keeper_freed), sl_Keeper_freed⟩)
    (c_Keeper_freed : PySem.W.codeIn K cd_Keeper_freed "Keeper.freed" = true)
    (k_Keeper_freed : PySem.W.keepIn K (.ref f_Keeper_freed) = true)
    (a_Holder_init : PySem.W.findIn K (.ref C_Holder) "__init__" = some (some (.ref f_Holder_init)))
    (i_Holder_init : PySem.W.isFn K (.ref f_Holder_init) = true)
    (l_Holder_init : K.lookup f_Holder_init = some ⟨oc_Holder_init, od_Holder_init, .func (PySem.W.fnOf "__init__" "Holder.__init__" (defArgs s_Holder_init) (defBody s_Holder_init) (defScope s_Holder_init) .none kV_Holder_init dc_Holder_init pm_Holder_init an_Holder_init cd_Holder_init ct_Holder_init), sl_Holder_init⟩)
    (c_Holder_init : PySem.W.codeIn K cd_Holder_init "Holder.__init__" = true)
    (k_Holder_init : PySem.W.keepIn K (.ref f_Holder_init) = true)
    (a_Holder_look : PySem.W.findIn K (.ref C_Holder) "look" = some (some (.ref f_Holder_look)))
    (i_Holder_look : PySem.W.isFn K (.ref f_Holder_look) = true)
    (l_Holder_look : K.lookup f_Holder_look = some ⟨oc_Holder_look, od_Holder_look, .func (PySem.W.fnOf "look" "Holder.look" (defArgs s_Holder_look) (defBody s_Holder_look) (defScope s_Holder_look) .none kV_Holder_look dc_Holder_look pm_Holder_look an_Holder_look cd_Holder_look ct_Holder_look), sl_Holder_look⟩)
    (c_Holder_look : PySem.W.codeIn K cd_Holder_look "Holder.look" = true)
    (k_Holder_look : PySem.W.keepIn K (.ref f_Holder_look) = true)
    (a_Holder_ask : PySem.W.findIn K (.ref C_Holder) "ask" = some (some (.ref f_Holder_ask)))
    (i_Holder_ask : PySem.W.isFn K (.ref f_Holder_ask) = true)
    (l_Holder_ask : K.lookup f_Holder_ask = some ⟨oc_Holder_ask, od_Holder_ask, .func (PySem.W.fnOf "ask" "Holder.ask" (defArgs s_Holder_ask) (defBody s_Holder_ask) (defScope s_Holder_ask) .none kV_Holder_ask dc_Holder_ask pm_Holder_ask an_Holder_ask cd_Holder_ask ct_Holder_ask), sl_Holder_ask⟩)
    (c_Holder_ask : PySem.W.codeIn K cd_Holder_ask "Holder.ask" = true)
    (k_Holder_ask : PySem.W.keepIn K (.ref f_Holder_ask) = true)
    (a_Holder_hear : PySem.W.findIn K (.ref C_Holder) "hear" = some (some (.ref f_Holder_hear)))
    (i_Holder_hear : PySem.W.isFn K (.ref f_Holder_hear) = true)
    (l_Holder_hear : K.lookup f_Holder_hear = some ⟨oc_Holder_hear, od_Holder_hear, .func (PySem.W.fnOf "hear" "Holder.hear" (defArgs s_Holder_hear) (defBody s_Holder_hear) (defScope s_Holder_hear) .none kV_Holder_hear dc_Holder_hear pm_Holder_hear an_Holder_hear cd_Holder_hear ct_Holder_hear), sl_Holder_hear⟩)
    (c_Holder_hear : PySem.W.codeIn K cd_Holder_hear "Holder.hear" = true)
    (k_Holder_hear : PySem.W.keepIn K (.ref f_Holder_hear) = true)
    (a_Holder_holds : PySem.W.findIn K (.ref C_Holder) "holds" = some (some (.ref f_Holder_holds)))
    (i_Holder_holds : PySem.W.isFn K (.ref f_Holder_holds) = true)
    (l_Holder_holds : K.lookup f_Holder_holds = some ⟨oc_Holder_holds, od_Holder_holds, .func (PySem.W.fnOf "holds" "Holder.holds" (defArgs s_Holder_holds) (defBody s_Holder_holds) (defScope s_Holder_holds) .none kV_Holder_holds dc_Holder_holds pm_Holder_holds an_Holder_holds cd_Holder_holds ct_Holder_holds), sl_Holder_holds⟩)
    (c_Holder_holds : PySem.W.codeIn K cd_Holder_holds "Holder.holds" = true)
    (k_Holder_holds : PySem.W.keepIn K (.ref f_Holder_holds) = true)
    (a_Holder_until : PySem.W.findIn K (.ref C_Holder) "until" = some (some (.ref f_Holder_until)))
    (i_Holder_until : PySem.W.isFn K (.ref f_Holder_until) = true)
    (l_Holder_until : K.lookup f_Holder_until = some ⟨oc_Holder_until, od_Holder_until, .func (PySem.W.fnOf "until" "Holder.until" (defArgs s_Holder_until) (defBody s_Holder_until) (defScope s_Holder_until) .none kV_Holder_until dc_Holder_until pm_Holder_until an_Holder_until cd_Holder_until ct_Holder_until), sl_Holder_until⟩)
    (c_Holder_until : PySem.W.codeIn K cd_Holder_until "Holder.until" = true)
    (k_Holder_until : PySem.W.keepIn K (.ref f_Holder_until) = true)
    (a_Holder_free : PySem.W.findIn K (.ref C_Holder) "free" = some (some (.ref f_Holder_free)))
    (i_Holder_free : PySem.W.isFn K (.ref f_Holder_free) = true)
    (l_Holder_free : K.lookup f_Holder_free = some ⟨oc_Holder_free, od_Holder_free, .func (PySem.W.fnOf "free" "Holder.free" (defArgs s_Holder_free) (defBody s_Holder_free) (defScope s_Holder_free) .none kV_Holder_free dc_Holder_free pm_Holder_free an_Holder_free cd_Holder_free ct_Holder_free), sl_Holder_free⟩)
    (c_Holder_free : PySem.W.codeIn K cd_Holder_free "Holder.free" = true)
    (k_Holder_free : PySem.W.keepIn K (.ref f_Holder_free) = true)
    (a__law_cell : PySem.W.nsIn K mainGlobals "_law_cell" = some (some (.ref f__law_cell)))
    (l__law_cell : K.lookup f__law_cell = some ⟨oc__law_cell, od__law_cell, .func (PySem.W.fnOf "_law_cell" "_law_cell" (defArgs s__law_cell) (defBody s__law_cell) (defScope s__law_cell) .none kV__law_cell dc__law_cell pm__law_cell an__law_cell cd__law_cell ct__law_cell), sl__law_cell⟩)
    (c__law_cell : PySem.W.codeIn K cd__law_cell "_law_cell" = true)
    (k__law_cell : PySem.W.keepIn K (.ref f__law_cell) = true)
    (a__law_mix : PySem.W.nsIn K mainGlobals "_law_mix" = some (some (.ref f__law_mix)))
    (l__law_mix : K.lookup f__law_mix = some ⟨oc__law_mix, od__law_mix, .func (PySem.W.fnOf "_law_mix" "_law_mix" (defArgs s__law_mix) (defBody s__law_mix) (defScope s__law_mix) .none kV__law_mix dc__law_mix pm__law_mix an__law_mix cd__law_mix ct__law_mix), sl__law_mix⟩)
    (c__law_mix : PySem.W.codeIn K cd__law_mix "_law_mix" = true)
    (k__law_mix : PySem.W.keepIn K (.ref f__law_mix) = true)
    (a__law_terms : PySem.W.nsIn K mainGlobals "_law_terms" = some (some (.ref f__law_terms)))
    (l__law_terms : K.lookup f__law_terms = some ⟨oc__law_terms, od__law_terms, .func (PySem.W.fnOf "_law_terms" "_law_terms" (defArgs s__law_terms) (defBody s__law_terms) (defScope s__law_terms) .none kV__law_terms dc__law_terms pm__law_terms an__law_terms cd__law_terms ct__law_terms), sl__law_terms⟩)
    (c__law_terms : PySem.W.codeIn K cd__law_terms "_law_terms" = true)
    (k__law_terms : PySem.W.keepIn K (.ref f__law_terms) = true)
    (a__law_wait : PySem.W.nsIn K mainGlobals "_law_wait" = some (some (.ref f__law_wait)))
    (l__law_wait : K.lookup f__law_wait = some ⟨oc__law_wait, od__law_wait, .func (PySem.W.fnOf "_law_wait" "_law_wait" (defArgs s__law_wait) (defBody s__law_wait) (defScope s__law_wait) .none kV__law_wait dc__law_wait pm__law_wait an__law_wait cd__law_wait ct__law_wait), sl__law_wait⟩)
    (c__law_wait : PySem.W.codeIn K cd__law_wait "_law_wait" = true)
    (k__law_wait : PySem.W.keepIn K (.ref f__law_wait) = true)
    (a__law_ticks : PySem.W.nsIn K mainGlobals "_law_ticks" = some (some (.ref f__law_ticks)))
    (l__law_ticks : K.lookup f__law_ticks = some ⟨oc__law_ticks, od__law_ticks, .func (PySem.W.fnOf "_law_ticks" "_law_ticks" (defArgs s__law_ticks) (defBody s__law_ticks) (defScope s__law_ticks) .none kV__law_ticks dc__law_ticks pm__law_ticks an__law_ticks cd__law_ticks ct__law_ticks), sl__law_ticks⟩)
    (c__law_ticks : PySem.W.codeIn K cd__law_ticks "_law_ticks" = true)
    (k__law_ticks : PySem.W.keepIn K (.ref f__law_ticks) = true)
    (a__law_come : PySem.W.nsIn K mainGlobals "_law_come" = some (some (.ref f__law_come)))
    (l__law_come : K.lookup f__law_come = some ⟨oc__law_come, od__law_come, .func (PySem.W.fnOf "_law_come" "_law_come" (defArgs s__law_come) (defBody s__law_come) (defScope s__law_come) .none kV__law_come dc__law_come pm__law_come an__law_come cd__law_come ct__law_come), sl__law_come⟩)
    (c__law_come : PySem.W.codeIn K cd__law_come "_law_come" = true)
    (k__law_come : PySem.W.keepIn K (.ref f__law_come) = true)
    (a__law_to_all : PySem.W.nsIn K mainGlobals "_law_to_all" = some (some (.ref f__law_to_all)))
    (l__law_to_all : K.lookup f__law_to_all = some ⟨oc__law_to_all, od__law_to_all, .func (PySem.W.fnOf "_law_to_all" "_law_to_all" (defArgs s__law_to_all) (defBody s__law_to_all) (defScope s__law_to_all) .none kV__law_to_all dc__law_to_all pm__law_to_all an__law_to_all cd__law_to_all ct__law_to_all), sl__law_to_all⟩)
    (c__law_to_all : PySem.W.codeIn K cd__law_to_all "_law_to_all" = true)
    (k__law_to_all : PySem.W.keepIn K (.ref f__law_to_all) = true)
    (a__law_anew : PySem.W.nsIn K mainGlobals "_law_anew" = some (some (.ref f__law_anew)))
    (l__law_anew : K.lookup f__law_anew = some ⟨oc__law_anew, od__law_anew, .func (PySem.W.fnOf "_law_anew" "_law_anew" (defArgs s__law_anew) (defBody s__law_anew) (defScope s__law_anew) .none kV__law_anew dc__law_anew pm__law_anew an__law_anew cd__law_anew ct__law_anew), sl__law_anew⟩)
    (c__law_anew : PySem.W.codeIn K cd__law_anew "_law_anew" = true)
    (k__law_anew : PySem.W.keepIn K (.ref f__law_anew) = true)
    (a__law_one : PySem.W.nsIn K mainGlobals "_law_one" = some (some (.ref f__law_one)))
    (l__law_one : K.lookup f__law_one = some ⟨oc__law_one, od__law_one, .func (PySem.W.fnOf "_law_one" "_law_one" (defArgs s__law_one) (defBody s__law_one) (defScope s__law_one) .none kV__law_one dc__law_one pm__law_one an__law_one cd__law_one ct__law_one), sl__law_one⟩)
    (c__law_one : PySem.W.codeIn K cd__law_one "_law_one" = true)
    (k__law_one : PySem.W.keepIn K (.ref f__law_one) = true)
    (a__law_scene : PySem.W.nsIn K mainGlobals "_law_scene" = some (some (.ref f__law_scene)))
    (l__law_scene : K.lookup f__law_scene = some ⟨oc__law_scene, od__law_scene, .func (PySem.W.fnOf "_law_scene" "_law_scene" (defArgs s__law_scene) (defBody s__law_scene) (defScope s__law_scene) .none kV__law_scene dc__law_scene pm__law_scene an__law_scene cd__law_scene ct__law_scene), sl__law_scene⟩)
    (c__law_scene : PySem.W.codeIn K cd__law_scene "_law_scene" = true)
    (k__law_scene : PySem.W.keepIn K (.ref f__law_scene) = true)
    (a_law : PySem.W.nsIn K mainGlobals "law" = some (some (.ref f_law)))
    (l_law : K.lookup f_law = some ⟨oc_law, od_law, .func (PySem.W.fnOf "law" "law" (defArgs s_law) (defBody s_law) (defScope s_law) .none kV_law dc_law pm_law an_law cd_law ct_law), sl_law⟩)
    (c_law : PySem.W.codeIn K cd_law "law" = true)
    (k_law : PySem.W.keepIn K (.ref f_law) = true)
    (z0_len : PySem.W.nsIn K mainGlobals "len" = some none)
    (z0_min : PySem.W.nsIn K mainGlobals "min" = some none)
    (z0_range : PySem.W.nsIn K mainGlobals "range" = some none)
    (z0_list : PySem.W.nsIn K mainGlobals "list" = some none)
    (z0_max : PySem.W.nsIn K mainGlobals "max" = some none)
    (z0_sorted : PySem.W.nsIn K mainGlobals "sorted" = some none)
    (z0_int : PySem.W.nsIn K mainGlobals "int" = some none)
    (g0_MOST_STEP : PySem.W.nsIn K mainGlobals "MOST_STEP" = some (some (.int 1000 t_MOST_STEP)))
    (g0_MOST_LENGTH : PySem.W.nsIn K mainGlobals "MOST_LENGTH" = some (some (.int 1000000 t_MOST_LENGTH)))
    (g0_MOST_KEEPERS : PySem.W.nsIn K mainGlobals "MOST_KEEPERS" = some (some (.int 9 t_MOST_KEEPERS)))
    : ∃ fd : FuncData, (∀ (s : Shared) (v : Value), BindsTo s fd ⟨[v], []⟩ [("_law_script", v)]) ∧ ∀ base : Heap, K.In base → base.Ns mainGlobals mg → FnOk l.prog w K mg base CX0 6 fa fd ["_law_script"] (spLaw K) := by
  have e := hfa.symm.trans (PySem.W.mg_of X G a_law)
  cases e
  have g_Terms := PySem.W.mg_of X G aC_Terms
  have c_Terms : Cls K C_Terms := ⟨pg_Terms, hd_Terms, po_Terms, sa_Terms⟩
  have g_Keeper := PySem.W.mg_of X G aC_Keeper
  have c_Keeper : Cls K C_Keeper := ⟨pg_Keeper, hd_Keeper, po_Keeper, sa_Keeper⟩
  have g_Holder := PySem.W.mg_of X G aC_Holder
  have c_Holder : Cls K C_Holder := ⟨pg_Holder, hd_Holder, po_Holder, sa_Holder⟩
  have g_LeaseError := PySem.W.mg_of X G aX_LeaseError
  have X_LeaseError : ExT K mg "LeaseError" C_LeaseError := ⟨g_LeaseError, xk_LeaseError, xq_LeaseError, xs_LeaseError, xt_LeaseError, ⟨e1_LeaseError, e2_LeaseError, xs_LeaseError, e4_LeaseError, e5_LeaseError, e6_LeaseError, e7_LeaseError, e8_LeaseError⟩⟩
  have g_BadTerms := PySem.W.mg_of X G aX_BadTerms
  have X_BadTerms : ExT K mg "BadTerms" C_BadTerms := ⟨g_BadTerms, xk_BadTerms, xq_BadTerms, xs_BadTerms, xt_BadTerms, ⟨e1_BadTerms, e2_BadTerms, xs_BadTerms, e4_BadTerms, e5_BadTerms, e6_BadTerms, e7_BadTerms, e8_BadTerms⟩⟩
  have g_Back := PySem.W.mg_of X G aX_Back
  have X_Back : ExT K mg "Back" C_Back := ⟨g_Back, xk_Back, xq_Back, xs_Back, xt_Back, ⟨e1_Back, e2_Back, xs_Back, e4_Back, e5_Back, e6_Back, e7_Back, e8_Back⟩⟩
  have g_NoKeeper := PySem.W.mg_of X G aX_NoKeeper
  have X_NoKeeper : ExT K mg "NoKeeper" C_NoKeeper := ⟨g_NoKeeper, xk_NoKeeper, xq_NoKeeper, xs_NoKeeper, xt_NoKeeper, ⟨e1_NoKeeper, e2_NoKeeper, xs_NoKeeper, e4_NoKeeper, e5_NoKeeper, e6_NoKeeper, e7_NoKeeper, e8_NoKeeper⟩⟩
  have g_NotAsked := PySem.W.mg_of X G aX_NotAsked
  have X_NotAsked : ExT K mg "NotAsked" C_NotAsked := ⟨g_NotAsked, xk_NotAsked, xq_NotAsked, xs_NotAsked, xt_NotAsked, ⟨e1_NotAsked, e2_NotAsked, xs_NotAsked, e4_NotAsked, e5_NotAsked, e6_NotAsked, e7_NotAsked, e8_NotAsked⟩⟩
  have z_len := PySem.W.mg_none_of X G z0_len
  have z_min := PySem.W.mg_none_of X G z0_min
  have z_range := PySem.W.mg_none_of X G z0_range
  have z_list := PySem.W.mg_none_of X G z0_list
  have z_max := PySem.W.mg_none_of X G z0_max
  have z_sorted := PySem.W.mg_none_of X G z0_sorted
  have z_int := PySem.W.mg_none_of X G z0_int
  have g_MOST_STEP := PySem.W.mg_of X G g0_MOST_STEP
  have g_MOST_LENGTH := PySem.W.mg_of X G g0_MOST_LENGTH
  have g_MOST_KEEPERS := PySem.W.mg_of X G g0_MOST_KEEPERS
  have F_Terms_init := fun_mk (st := s_Terms_init) l_Terms_init c_Terms_init k_Terms_init
  have b_Terms_init := F_Terms_init.binds (ps := ["self", "low", "high", "length", "keepers"]) fun _ _ _ _ _ _ us hl => match us, hl with | [_, _, _, _, _], _ => rfl
  have F_Terms_ticks := fun_mk (st := s_Terms_ticks) l_Terms_ticks c_Terms_ticks k_Terms_ticks
  have b_Terms_ticks := F_Terms_ticks.binds (ps := ["self"]) fun _ _ _ _ _ _ us hl => match us, hl with | [_], _ => rfl
  have F_Terms_wait := fun_mk (st := s_Terms_wait) l_Terms_wait c_Terms_wait k_Terms_wait
  have b_Terms_wait := F_Terms_wait.binds (ps := ["self"]) fun _ _ _ _ _ _ us hl => match us, hl with | [_], _ => rfl
  have F_Terms_most := fun_mk (st := s_Terms_most) l_Terms_most c_Terms_most k_Terms_most
  have b_Terms_most := F_Terms_most.binds (ps := ["self"]) fun _ _ _ _ _ _ us hl => match us, hl with | [_], _ => rfl
  have F_Keeper_init := fun_mk (st := s_Keeper_init) l_Keeper_init c_Keeper_init k_Keeper_init
  have b_Keeper_init := F_Keeper_init.binds (ps := ["self", "terms", "clock"]) fun _ _ _ _ _ _ us hl => match us, hl with | [_, _, _], _ => rfl
  have F_Keeper_look := fun_mk (st := s_Keeper_look) l_Keeper_look c_Keeper_look k_Keeper_look
  have b_Keeper_look := F_Keeper_look.binds (ps := ["self", "clock"]) fun _ _ _ _ _ _ us hl => match us, hl with | [_, _], _ => rfl
  have F_Keeper_is_let := fun_mk (st := s_Keeper_is_let) l_Keeper_is_let c_Keeper_is_let k_Keeper_is_let
  have b_Keeper_is_let := F_Keeper_is_let.binds (ps := ["self", "clock"]) fun _ _ _ _ _ _ us hl => match us, hl with | [_, _], _ => rfl
  have F_Keeper_asked := fun_mk (st := s_Keeper_asked) l_Keeper_asked c_Keeper_asked k_Keeper_asked
  have b_Keeper_asked := F_Keeper_asked.binds (ps := ["self", "clock", "name", "number"]) fun _ _ _ _ _ _ us hl => match us, hl with | [_, _, _, _], _ => rfl
  have F_Keeper_freed := fun_mk (st := s_Keeper_freed) l_Keeper_freed c_Keeper_freed k_Keeper_freed
  have b_Keeper_freed := F_Keeper_freed.binds (ps := ["self", "clock", "name", "number"]) fun _ _ _ _ _ _ us hl => match us, hl with | [_, _, _, _], _ => rfl
  have F_Holder_init := fun_mk (st := s_Holder_init) l_Holder_init c_Holder_init k_Holder_init
  have b_Holder_init := F_Holder_init.binds (ps := ["self", "terms", "name", "life", "clock"]) fun _ _ _ _ _ _ us hl => match us, hl with | [_, _, _, _, _], _ => rfl
  have F_Holder_look := fun_mk (st := s_Holder_look) l_Holder_look c_Holder_look k_Holder_look
  have b_Holder_look := F_Holder_look.binds (ps := ["self", "clock"]) fun _ _ _ _ _ _ us hl => match us, hl with | [_, _], _ => rfl
  have F_Holder_ask := fun_mk (st := s_Holder_ask) l_Holder_ask c_Holder_ask k_Holder_ask
  have b_Holder_ask := F_Holder_ask.binds (ps := ["self", "clock"]) fun _ _ _ _ _ _ us hl => match us, hl with | [_, _], _ => rfl
  have F_Holder_hear := fun_mk (st := s_Holder_hear) l_Holder_hear c_Holder_hear k_Holder_hear
  have b_Holder_hear := F_Holder_hear.binds (ps := ["self", "clock", "keeper", "number"]) fun _ _ _ _ _ _ us hl => match us, hl with | [_, _, _, _], _ => rfl
  have F_Holder_holds := fun_mk (st := s_Holder_holds) l_Holder_holds c_Holder_holds k_Holder_holds
  have b_Holder_holds := F_Holder_holds.binds (ps := ["self", "clock"]) fun _ _ _ _ _ _ us hl => match us, hl with | [_, _], _ => rfl
  have F_Holder_until := fun_mk (st := s_Holder_until) l_Holder_until c_Holder_until k_Holder_until
  have b_Holder_until := F_Holder_until.binds (ps := ["self", "clock"]) fun _ _ _ _ _ _ us hl => match us, hl with | [_, _], _ => rfl
  have F_Holder_free := fun_mk (st := s_Holder_free) l_Holder_free c_Holder_free k_Holder_free
  have b_Holder_free := F_Holder_free.binds (ps := ["self", "clock"]) fun _ _ _ _ _ _ us hl => match us, hl with | [_, _], _ => rfl
  have F__law_cell := fun_mk (st := s__law_cell) l__law_cell c__law_cell k__law_cell
  have b__law_cell := F__law_cell.binds (ps := ["_law_script", "_law_k"]) fun _ _ _ _ _ _ us hl => match us, hl with | [_, _], _ => rfl
  have F__law_mix := fun_mk (st := s__law_mix) l__law_mix c__law_mix k__law_mix
  have b__law_mix := F__law_mix.binds (ps := ["_law_script", "_law_k"]) fun _ _ _ _ _ _ us hl => match us, hl with | [_, _], _ => rfl
  have F__law_terms := fun_mk (st := s__law_terms) l__law_terms c__law_terms k__law_terms
  have b__law_terms := F__law_terms.binds (ps := ["_law_script", "_law_k"]) fun _ _ _ _ _ _ us hl => match us, hl with | [_, _], _ => rfl
  have F__law_wait := fun_mk (st := s__law_wait) l__law_wait c__law_wait k__law_wait
  have b__law_wait := F__law_wait.binds (ps := ["_law_terms_here"]) fun _ _ _ _ _ _ us hl => match us, hl with | [_], _ => rfl
  have F__law_ticks := fun_mk (st := s__law_ticks) l__law_ticks c__law_ticks k__law_ticks
  have b__law_ticks := F__law_ticks.binds (ps := ["_law_script", "_law_k", "_law_terms_here", "_law_clocks", "_law_many"]) fun _ _ _ _ _ _ us hl => match us, hl with | [_, _, _, _, _], _ => rfl
  have F__law_come := fun_mk (st := s__law_come) l__law_come c__law_come k__law_come
  have b__law_come := F__law_come.binds (ps := ["_law_message", "_law_town", "_law_keep"]) fun _ _ _ _ _ _ us hl => match us, hl with | [_, _, _], _ => rfl
  have F__law_to_all := fun_mk (st := s__law_to_all) l__law_to_all c__law_to_all k__law_to_all
  have b__law_to_all := F__law_to_all.binds (ps := ["_law_town", "_law_kind", "_law_name", "_law_number"]) fun _ _ _ _ _ _ us hl => match us, hl with | [_, _, _, _], _ => rfl
  have F__law_anew := fun_mk (st := s__law_anew) l__law_anew c__law_anew k__law_anew
  have b__law_anew := F__law_anew.binds (ps := ["_law_town", "_law_made", "_law_number"]) fun _ _ _ _ _ _ us hl => match us, hl with | [_, _, _], _ => rfl
  have F__law_one := fun_mk (st := s__law_one) l__law_one c__law_one k__law_one
  have b__law_one := F__law_one.binds (ps := ["_law_town"]) fun _ _ _ _ _ _ us hl => match us, hl with | [_], _ => rfl
  have F__law_scene := fun_mk (st := s__law_scene) l__law_scene c__law_scene k__law_scene
  have b__law_scene := F__law_scene.binds (ps := ["_law_script", "_law_town", "_law_terms_here", "_law_made"]) fun _ _ _ _ _ _ us hl => match us, hl with | [_, _, _, _], _ => rfl
  have F_law := fun_mk (st := s_law) l_law c_law k_law
  have b_law := F_law.binds (ps := ["_law_script"]) fun _ _ _ _ _ _ us hl => match us, hl with | [_], _ => rfl
  refine ⟨PySem.W.fnOf "law" "law" (defArgs s_law) (defBody s_law) (defScope s_law) .none kV_law dc_law pm_law an_law cd_law ct_law, fun s v => .of_eq rfl, fun base _ _ => ?_⟩
  have TT : TTxt K C_Terms := ⟨c_Terms, n_Terms_low, n_Terms_high, n_Terms_length, n_Terms_keepers⟩
  have TK : KTxt K C_Keeper := ⟨c_Keeper, n_Keeper_terms, n_Keeper_clock, n_Keeper_ends, n_Keeper_name, n_Keeper_number⟩
  have TH : HTxt K C_Holder := ⟨c_Holder, n_Holder_terms, n_Holder_name, n_Holder_life, n_Holder_clock, n_Holder_many, n_Holder_asks, n_Holder_lets⟩
  have O1 := ok_Terms_init (P := l.prog) (w := w) (mg := mg) (base := base) F_Terms_init TT X_BadTerms ⟨_, g_MOST_STEP⟩ ⟨_, g_MOST_LENGTH⟩ ⟨_, g_MOST_KEEPERS⟩
  have D1 : MtB l.prog w K mg base CX0 1 C_Terms "ticks" ["self"] (spT0 C_Terms Tm.ticks) := ⟨_, _, ok_Terms_ticks F_Terms_ticks TT, ⟨a_Terms_ticks, i_Terms_ticks, k_Terms_ticks⟩, b_Terms_ticks⟩
  have D2 : MtB l.prog w K mg base CX0 2 C_Terms "wait" ["self"] (spT0 C_Terms Tm.wait) := ⟨_, _, ok_Terms_wait F_Terms_wait TT D1, ⟨a_Terms_wait, i_Terms_wait, k_Terms_wait⟩, b_Terms_wait⟩
  have D3 : MtB l.prog w K mg base CX0 1 C_Terms "most" ["self"] (spT0 C_Terms Tm.most) := ⟨_, _, ok_Terms_most F_Terms_most TT, ⟨a_Terms_most, i_Terms_most, k_Terms_most⟩, b_Terms_most⟩
  have D4 : FnB l.prog w K mg base CX0 1 "_law_cell" ["_law_script", "_law_k"] (spCell K) := ⟨_, _, ok__law_cell F__law_cell z_len, PySem.W.mg_of X G a__law_cell, k__law_cell, b__law_cell⟩
  have D5 : FnB l.prog w K mg base CX0 2 "_law_mix" ["_law_script", "_law_k"] (spMix K) := ⟨_, _, ok__law_mix F__law_mix D4, PySem.W.mg_of X G a__law_mix, k__law_mix, b__law_mix⟩
  have D6 : FnB l.prog w K mg base CX0 3 "_law_terms" ["_law_script", "_law_k"] (spTerms K) := ⟨_, _, ok__law_terms F__law_terms D5, PySem.W.mg_of X G a__law_terms, k__law_terms, b__law_terms⟩
  have D7 : FnB l.prog w K mg base CX0 1 "_law_wait" ["_law_terms_here"] spWait := ⟨_, _, ok__law_wait F__law_wait, PySem.W.mg_of X G a__law_wait, k__law_wait, b__law_wait⟩
  have E1 : MtB l.prog w K mg base (L2.CX l.prog w) 1 C_Keeper "look" ["self", "clock"] (spLookK C_Keeper C_Back) := ⟨_, _, ok_Keeper_look F_Keeper_look TK X_Back, ⟨a_Keeper_look, i_Keeper_look, k_Keeper_look⟩, b_Keeper_look⟩
  have E2 : MtB l.prog w K mg base CX0 1 C_Keeper "is_let" ["self", "clock"] (spIsLet C_Keeper) := ⟨_, _, ok_Keeper_is_let F_Keeper_is_let TK, ⟨a_Keeper_is_let, i_Keeper_is_let, k_Keeper_is_let⟩, b_Keeper_is_let⟩
  have E3 : MtB l.prog w K mg base (L2.CX l.prog w) 3 C_Keeper "asked" ["self", "clock", "name", "number"] (spAsked C_Keeper C_Terms C_Back) := ⟨_, _, ok_Keeper_asked F_Keeper_asked TK c_Terms E1 E2 D2, ⟨a_Keeper_asked, i_Keeper_asked, k_Keeper_asked⟩, b_Keeper_asked⟩
  have E4 : MtB l.prog w K mg base (L2.CX l.prog w) 2 C_Keeper "freed" ["self", "clock", "name", "number"] (spFreed C_Keeper C_Back) := ⟨_, _, ok_Keeper_freed F_Keeper_freed TK z_min E1, ⟨a_Keeper_freed, i_Keeper_freed, k_Keeper_freed⟩, b_Keeper_freed⟩
  have G1 : MtB l.prog w K mg base (L2.CX l.prog w) 1 C_Holder "look" ["self", "clock"] (spLookH C_Holder C_Terms C_Back) := ⟨_, _, ok_Holder_look F_Holder_look TH TT X_Back z_list, ⟨a_Holder_look, i_Holder_look, k_Holder_look⟩, b_Holder_look⟩
  have G2 : MtB l.prog w K mg base (L2.CX l.prog w) 2 C_Holder "ask" ["self", "clock"] (spAskH C_Holder C_Terms C_Back) := ⟨_, _, ok_Holder_ask F_Holder_ask TH G1, ⟨a_Holder_ask, i_Holder_ask, k_Holder_ask⟩, b_Holder_ask⟩
  have G3 : MtB l.prog w K mg base (L2.CX l.prog w) 2 C_Holder "hear" ["self", "clock", "keeper", "number"] (spHearH C_Holder C_Terms C_Back C_NoKeeper) := ⟨_, _, ok_Holder_hear F_Holder_hear TH TT X_NoKeeper z_max G1, ⟨a_Holder_hear, i_Holder_hear, k_Holder_hear⟩, b_Holder_hear⟩
  have G4 : MtB l.prog w K mg base (L2.CX l.prog w) 2 C_Holder "holds" ["self", "clock"] (spHoldsH C_Holder C_Terms C_Back) := ⟨_, _, ok_Holder_holds F_Holder_holds TH c_Terms z_len G1 D3, ⟨a_Holder_holds, i_Holder_holds, k_Holder_holds⟩, b_Holder_holds⟩
  have G5 : MtB l.prog w K mg base (L2.CX l.prog w) 3 C_Holder "until" ["self", "clock"] (spUntilH C_Holder C_Terms C_Back) := ⟨_, _, ok_Holder_until F_Holder_until TH c_Terms z_sorted G4 D3, ⟨a_Holder_until, i_Holder_until, k_Holder_until⟩, b_Holder_until⟩
  have G6 : MtB l.prog w K mg base (L2.CX l.prog w) 2 C_Holder "free" ["self", "clock"] (spFreeH C_Holder C_Terms C_Back C_NotAsked) := ⟨_, _, ok_Holder_free F_Holder_free TH X_Back X_NotAsked G1, ⟨a_Holder_free, i_Holder_free, k_Holder_free⟩, b_Holder_free⟩
  have D8 : FnB l.prog w K mg base CX0 3 "_law_ticks" ["_law_script", "_law_k", "_law_terms_here", "_law_clocks", "_law_many"] (spTicks K) := ⟨_, _, ok__law_ticks F__law_ticks z_len z_range z_int D5, PySem.W.mg_of X G a__law_ticks, k__law_ticks, b__law_ticks⟩
  have D9 : FnB l.prog w K mg base CX0 1 "_law_to_all" ["_law_town", "_law_kind", "_law_name", "_law_number"] (spToAll K C_Keeper C_Holder C_Terms) := ⟨_, _, ok__law_to_all F__law_to_all z_len z_range, PySem.W.mg_of X G a__law_to_all, k__law_to_all, b__law_to_all⟩
  have D10 : FnB l.prog w K mg base CX0 4 "_law_come" ["_law_message", "_law_town", "_law_keep"] (spCome K C_Keeper C_Holder C_Terms) := ⟨_, _, ok__law_come F__law_come c_Keeper c_Holder z_len E3 E4 G3, PySem.W.mg_of X G a__law_come, k__law_come, b__law_come⟩
  have MK1 : MkB l.prog w K mg base CX0 3 "Keeper" C_Keeper ["self", "terms", "clock"] (spKI C_Keeper C_Terms) := ⟨_, _, ok_Keeper_init F_Keeper_init TK c_Terms D2, ⟨mk_Keeper, a_Keeper_init, i_Keeper_init, kc_Keeper⟩, g_Keeper, b_Keeper_init⟩
  have MK2 : MkB l.prog w K mg base CX0 1 "Holder" C_Holder ["self", "terms", "name", "life", "clock"] (spHI C_Holder) := ⟨_, _, ok_Holder_init F_Holder_init TH, ⟨mk_Holder, a_Holder_init, i_Holder_init, kc_Holder⟩, g_Holder, b_Holder_init⟩
  have D11 : FnB l.prog w K mg base CX0 5 "_law_anew" ["_law_town", "_law_made", "_law_number"] (spAnew K C_Keeper C_Holder C_Terms) := ⟨_, _, ok__law_anew F__law_anew z_len MK1 MK2, PySem.W.mg_of X G a__law_anew, k__law_anew, b__law_anew⟩
  have D12 : FnB l.prog w K mg base CX0 4 "_law_one" ["_law_town"] (spOne K C_Keeper C_Holder C_Terms) := ⟨_, _, ok__law_one F__law_one c_Holder z_len z_range z_int G4 G5, PySem.W.mg_of X G a__law_one, k__law_one, b__law_one⟩
  have D13 : FnB l.prog w K mg base CX0 5 "_law_scene" ["_law_script", "_law_town", "_law_terms_here", "_law_made"] (spScene K C_Keeper C_Holder C_Terms) := ⟨_, _, ok__law_scene F__law_scene c_Keeper c_Holder z_len z_range z_int D5 D7 D8 D12 E3 G2 G3 MK1, PySem.W.mg_of X G a__law_scene, k__law_scene, b__law_scene⟩
  exact ok_law F_law c_Keeper c_Holder z_range z_len z_min D5 D6 D7 D8 D12 D13 D10 D9 D11 G2 G5 G6 ⟨_, _, O1, ⟨mk_Terms, a_Terms_init, i_Terms_init, kc_Terms⟩, g_Terms, b_Terms_init⟩ MK1 MK2
theorem walk {l : PySem.W.OpenLaw} {q : Program} {loose : List Str} {XP : (Str → Option Value) → Heap → Prop} {YP : World → Heap → Prop} {d : DefRec} {K : Params → PySem.W.Frag} (hn : l.most = some 63) (hdf : d.params.defaults = [])
    (hY : ∀ (w : World) (h : Heap), YP w h → (K w.params).In h)
    (F : ∀ (w : World) (mg : Str → Option Value) (fa : Addr) (h : Heap), (K w.params).In h → h.Ns mainGlobals mg → mg d.name = some (.ref fa) →
      ∃ fd : FuncData, (∀ (s : Shared) (u : Value), BindsTo s fd ⟨[u], []⟩ [("_law_script", u)]) ∧ ∀ base : Heap, (K w.params).In base → base.Ns mainGlobals mg → FnOk l.prog w (K w.params) mg base CX0 6 fa fd ["_law_script"] (spLaw (K w.params))) :
    PySem.W.WalkO q loose XP YP l.row.toRowW d [] (fun f vs => PySem.call f vs) :=
  L2.walk_of (n := 63) (k := 6) (x := "_law_script") (CX := fun _ => CX0) (sp := fun w => spLaw (K w.params)) hn (by decide) hdf ⟨rfl, by decide, by decide⟩ hY F (fun _ _ a ns hl _ hS => ⟨a, ns, rfl, hS, fun _ => rfl⟩) fun _ _ _ _ _ z => z
end Lh
open PySem PySem.W PyProof.Rows
set_option maxRecDepth 100000 in
set_option maxHeartbeats 0 in
theorem PySem.Challenge.cw_leasehold_k10_whole_never_two_holds : PySem.Challenge.rw_leasehold_k10_whole_never_two.Holds := by
  w_on; o_law; k_head; (case hw => w_witness2)
  k_fill
  refine Lh.walk (l := PySem.Challenge.rw_leasehold_k10_whole_never_two) rfl rfl (fun w h Y => PySem.W.kIn_of Y) ?F
  case F =>
    intro w mg fa h KX G hmg
    refine' Lh.all_mk KX G hmg ?aC_Terms ?pg_Terms ?hd_Terms ?po_Terms ?sa_Terms ?mk_Terms ?kc_Terms ?n_Terms_low ?n_Terms_high ?n_Terms_length ?n_Terms_keepers ?aC_Keeper ?pg_Keeper ?hd_Keeper ?po_Keeper ?sa_Keeper ?mk_Keeper ?kc_Keeper ?n_Keeper_terms ?n_Keeper_clock ?n_Keeper_ends ?n_Keeper_name ?n_Keeper_number ?aC_Holder ?pg_Holder ?hd_Holder ?po_Holder ?sa_Holder ?mk_Holder ?kc_Holder ?n_Holder_terms ?n_Holder_name ?n_Holder_life ?n_Holder_clock ?n_Holder_many ?n_Holder_asks ?n_Holder_lets ?aX_LeaseError ?xk_LeaseError ?xq_LeaseError ?xs_LeaseError ?xt_LeaseError ?e1_LeaseError ?e2_LeaseError ?e4_LeaseError ?e5_LeaseError ?e6_LeaseError ?e7_LeaseError ?e8_LeaseError ?aX_BadTerms ?xk_BadTerms ?xq_BadTerms ?xs_BadTerms ?xt_BadTerms ?e1_BadTerms ?e2_BadTerms ?e4_BadTerms ?e5_BadTerms ?e6_BadTerms ?e7_BadTerms ?e8_BadTerms ?aX_Back ?xk_Back ?xq_Back ?xs_Back ?xt_Back ?e1_Back ?e2_Back ?e4_Back ?e5_Back ?e6_Back ?e7_Back ?e8_Back ?aX_NoKeeper ?xk_NoKeeper ?xq_NoKeeper ?xs_NoKeeper ?xt_NoKeeper ?e1_NoKeeper ?e2_NoKeeper ?e4_NoKeeper ?e5_NoKeeper ?e6_NoKeeper ?e7_NoKeeper ?e8_NoKeeper ?aX_NotAsked ?xk_NotAsked ?xq_NotAsked ?xs_NotAsked ?xt_NotAsked ?e1_NotAsked ?e2_NotAsked ?e4_NotAsked ?e5_NotAsked ?e6_NotAsked ?e7_NotAsked ?e8_NotAsked ?a_Terms_init ?i_Terms_init ?l_Terms_init ?c_Terms_init ?k_Terms_init ?a_Terms_ticks ?i_Terms_ticks ?l_Terms_ticks ?c_Terms_ticks ?k_Terms_ticks ?a_Terms_wait ?i_Terms_wait ?l_Terms_wait ?c_Terms_wait ?k_Terms_wait ?a_Terms_most ?i_Terms_most ?l_Terms_most ?c_Terms_most ?k_Terms_most ?a_Keeper_init ?i_Keeper_init ?l_Keeper_init ?c_Keeper_init ?k_Keeper_init ?a_Keeper_look ?i_Keeper_look ?l_Keeper_look ?c_Keeper_look ?k_Keeper_look ?a_Keeper_is_let ?i_Keeper_is_let ?l_Keeper_is_let ?c_Keeper_is_let ?k_Keeper_is_let ?a_Keeper_asked ?i_Keeper_asked ?l_Keeper_asked ?c_Keeper_asked ?k_Keeper_asked ?a_Keeper_freed ?i_Keeper_freed ?l_Keeper_freed ?c_Keeper_freed ?k_Keeper_freed ?a_Holder_init ?i_Holder_init ?l_Holder_init ?c_Holder_init ?k_Holder_init ?a_Holder_look ?i_Holder_look ?l_Holder_look ?c_Holder_look ?k_Holder_look ?a_Holder_ask ?i_Holder_ask ?l_Holder_ask ?c_Holder_ask ?k_Holder_ask ?a_Holder_hear ?i_Holder_hear ?l_Holder_hear ?c_Holder_hear ?k_Holder_hear ?a_Holder_holds ?i_Holder_holds ?l_Holder_holds ?c_Holder_holds ?k_Holder_holds ?a_Holder_until ?i_Holder_until ?l_Holder_until ?c_Holder_until ?k_Holder_until ?a_Holder_free ?i_Holder_free ?l_Holder_free ?c_Holder_free ?k_Holder_free ?a__law_cell ?l__law_cell ?c__law_cell ?k__law_cell ?a__law_mix ?l__law_mix ?c__law_mix ?k__law_mix ?a__law_terms ?l__law_terms ?c__law_terms ?k__law_terms ?a__law_wait ?l__law_wait ?c__law_wait ?k__law_wait ?a__law_ticks ?l__law_ticks ?c__law_ticks ?k__law_ticks ?a__law_come ?l__law_come ?c__law_come ?k__law_come ?a__law_to_all ?l__law_to_all ?c__law_to_all ?k__law_to_all ?a__law_anew ?l__law_anew ?c__law_anew ?k__law_anew ?a__law_one ?l__law_one ?c__law_one ?k__law_one ?a__law_scene ?l__law_scene ?c__law_scene ?k__law_scene ?a_law ?l_law ?c_law ?k_law ?z0_len ?z0_min ?z0_range ?z0_list ?z0_max ?z0_sorted ?z0_int ?g0_MOST_STEP ?g0_MOST_LENGTH ?g0_MOST_KEEPERS
    (case aC_Terms => k_is)
    (case pg_Terms => k_is)
    (case hd_Terms => k_is)
    (case po_Terms => k_is)
    (case sa_Terms => k_is)
    (case mk_Terms => k_is)
    (case kc_Terms => k_is)
    (case n_Terms_low => k_is)
    (case n_Terms_high => k_is)
    (case n_Terms_length => k_is)
    (case n_Terms_keepers => k_is)
    (case aC_Keeper => k_is)
    (case pg_Keeper => k_is)
    (case hd_Keeper => k_is)
    (case po_Keeper => k_is)
    (case sa_Keeper => k_is)
    (case mk_Keeper => k_is)
    (case kc_Keeper => k_is)
    (case n_Keeper_terms => k_is)
    (case n_Keeper_clock => k_is)
    (case n_Keeper_ends => k_is)
    (case n_Keeper_name => k_is)
    (case n_Keeper_number => k_is)
    (case aC_Holder => k_is)
    (case pg_Holder => k_is)
    (case hd_Holder => k_is)
    (case po_Holder => k_is)
    (case sa_Holder => k_is)
    (case mk_Holder => k_is)
    (case kc_Holder => k_is)
    (case n_Holder_terms => k_is)
    (case n_Holder_name => k_is)
    (case n_Holder_life => k_is)
    (case n_Holder_clock => k_is)
    (case n_Holder_many => k_is)
    (case n_Holder_asks => k_is)
    (case n_Holder_lets => k_is)
    (case aX_LeaseError => k_is)
    (case xk_LeaseError => k_is)
    (case xq_LeaseError => k_exc)
    (case xs_LeaseError => k_is)
    (case xt_LeaseError => k_is)
    (case e1_LeaseError => k_is)
    (case e2_LeaseError => k_is)
    (case e4_LeaseError => k_is)
    (case e5_LeaseError => k_is)
    (case e6_LeaseError => k_is)
    (case e7_LeaseError => k_is)
    (case e8_LeaseError => k_is)
    (case aX_BadTerms => k_is)
    (case xk_BadTerms => k_is)
    (case xq_BadTerms => k_exc)
    (case xs_BadTerms => k_is)
    (case xt_BadTerms => k_is)
    (case e1_BadTerms => k_is)
    (case e2_BadTerms => k_is)
    (case e4_BadTerms => k_is)
    (case e5_BadTerms => k_is)
    (case e6_BadTerms => k_is)
    (case e7_BadTerms => k_is)
    (case e8_BadTerms => k_is)
    (case aX_Back => k_is)
    (case xk_Back => k_is)
    (case xq_Back => k_exc)
    (case xs_Back => k_is)
    (case xt_Back => k_is)
    (case e1_Back => k_is)
    (case e2_Back => k_is)
    (case e4_Back => k_is)
    (case e5_Back => k_is)
    (case e6_Back => k_is)
    (case e7_Back => k_is)
    (case e8_Back => k_is)
    (case aX_NoKeeper => k_is)
    (case xk_NoKeeper => k_is)
    (case xq_NoKeeper => k_exc)
    (case xs_NoKeeper => k_is)
    (case xt_NoKeeper => k_is)
    (case e1_NoKeeper => k_is)
    (case e2_NoKeeper => k_is)
    (case e4_NoKeeper => k_is)
    (case e5_NoKeeper => k_is)
    (case e6_NoKeeper => k_is)
    (case e7_NoKeeper => k_is)
    (case e8_NoKeeper => k_is)
    (case aX_NotAsked => k_is)
    (case xk_NotAsked => k_is)
    (case xq_NotAsked => k_exc)
    (case xs_NotAsked => k_is)
    (case xt_NotAsked => k_is)
    (case e1_NotAsked => k_is)
    (case e2_NotAsked => k_is)
    (case e4_NotAsked => k_is)
    (case e5_NotAsked => k_is)
    (case e6_NotAsked => k_is)
    (case e7_NotAsked => k_is)
    (case e8_NotAsked => k_is)
    (case a_Terms_init => k_is)
    (case i_Terms_init => k_is)
    (case l_Terms_init => k_is)
    (case c_Terms_init => k_is)
    (case k_Terms_init => k_is)
    (case a_Terms_ticks => k_is)
    (case i_Terms_ticks => k_is)
    (case l_Terms_ticks => k_is)
    (case c_Terms_ticks => k_is)
    (case k_Terms_ticks => k_is)
    (case a_Terms_wait => k_is)
    (case i_Terms_wait => k_is)
    (case l_Terms_wait => k_is)
    (case c_Terms_wait => k_is)
    (case k_Terms_wait => k_is)
    (case a_Terms_most => k_is)
    (case i_Terms_most => k_is)
    (case l_Terms_most => k_is)
    (case c_Terms_most => k_is)
    (case k_Terms_most => k_is)
    (case a_Keeper_init => k_is)
    (case i_Keeper_init => k_is)
    (case l_Keeper_init => k_is)
    (case c_Keeper_init => k_is)
    (case k_Keeper_init => k_is)
    (case a_Keeper_look => k_is)
    (case i_Keeper_look => k_is)
    (case l_Keeper_look => k_is)
    (case c_Keeper_look => k_is)
    (case k_Keeper_look => k_is)
    (case a_Keeper_is_let => k_is)
    (case i_Keeper_is_let => k_is)
    (case l_Keeper_is_let => k_is)
    (case c_Keeper_is_let => k_is)
    (case k_Keeper_is_let => k_is)
    (case a_Keeper_asked => k_is)
    (case i_Keeper_asked => k_is)
    (case l_Keeper_asked => k_is)
    (case c_Keeper_asked => k_is)
    (case k_Keeper_asked => k_is)
    (case a_Keeper_freed => k_is)
    (case i_Keeper_freed => k_is)
    (case l_Keeper_freed => k_is)
    (case c_Keeper_freed => k_is)
    (case k_Keeper_freed => k_is)
    (case a_Holder_init => k_is)
    (case i_Holder_init => k_is)
    (case l_Holder_init => k_is)
    (case c_Holder_init => k_is)
    (case k_Holder_init => k_is)
    (case a_Holder_look => k_is)
    (case i_Holder_look => k_is)
    (case l_Holder_look => k_is)
    (case c_Holder_look => k_is)
    (case k_Holder_look => k_is)
    (case a_Holder_ask => k_is)
    (case i_Holder_ask => k_is)
    (case l_Holder_ask => k_is)
    (case c_Holder_ask => k_is)
    (case k_Holder_ask => k_is)
    (case a_Holder_hear => k_is)
    (case i_Holder_hear => k_is)
    (case l_Holder_hear => k_is)
    (case c_Holder_hear => k_is)
    (case k_Holder_hear => k_is)
    (case a_Holder_holds => k_is)
    (case i_Holder_holds => k_is)
    (case l_Holder_holds => k_is)
    (case c_Holder_holds => k_is)
    (case k_Holder_holds => k_is)
    (case a_Holder_until => k_is)
    (case i_Holder_until => k_is)
    (case l_Holder_until => k_is)
    (case c_Holder_until => k_is)
    (case k_Holder_until => k_is)
    (case a_Holder_free => k_is)
    (case i_Holder_free => k_is)
    (case l_Holder_free => k_is)
    (case c_Holder_free => k_is)
    (case k_Holder_free => k_is)
    (case a__law_cell => k_is)
    (case l__law_cell => k_is)
    (case c__law_cell => k_is)
    (case k__law_cell => k_is)
    (case a__law_mix => k_is)
    (case l__law_mix => k_is)
    (case c__law_mix => k_is)
    (case k__law_mix => k_is)
    (case a__law_terms => k_is)
    (case l__law_terms => k_is)
    (case c__law_terms => k_is)
    (case k__law_terms => k_is)
    (case a__law_wait => k_is)
    (case l__law_wait => k_is)
    (case c__law_wait => k_is)
    (case k__law_wait => k_is)
    (case a__law_ticks => k_is)
    (case l__law_ticks => k_is)
    (case c__law_ticks => k_is)
    (case k__law_ticks => k_is)
    (case a__law_come => k_is)
    (case l__law_come => k_is)
    (case c__law_come => k_is)
    (case k__law_come => k_is)
    (case a__law_to_all => k_is)
    (case l__law_to_all => k_is)
    (case c__law_to_all => k_is)
    (case k__law_to_all => k_is)
    (case a__law_anew => k_is)
    (case l__law_anew => k_is)
    (case c__law_anew => k_is)
    (case k__law_anew => k_is)
    (case a__law_one => k_is)
    (case l__law_one => k_is)
    (case c__law_one => k_is)
    (case k__law_one => k_is)
    (case a__law_scene => k_is)
    (case l__law_scene => k_is)
    (case c__law_scene => k_is)
    (case k__law_scene => k_is)
    (case a_law => k_is)
    (case l_law => k_is)
    (case c_law => k_is)
    (case k_law => k_is)
    (case z0_len => k_is)
    (case z0_min => k_is)
    (case z0_range => k_is)
    (case z0_list => k_is)
    (case z0_max => k_is)
    (case z0_sorted => k_is)
    (case z0_int => k_is)
    (case g0_MOST_STEP => k_is)
    (case g0_MOST_LENGTH => k_is)
    (case g0_MOST_KEEPERS => k_is)
#print axioms PySem.Challenge.cw_leasehold_k10_whole_never_two_holds
