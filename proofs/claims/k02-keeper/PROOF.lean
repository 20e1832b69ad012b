import PyProof.Rows.All
import Wide.All
import OpenK.AllK
import Wide.FinOn
import PyProof.EqAt
import PyProof.EqKinds
import PyProof.TupleCall
import HandS.ForMost
import HandS.ForExc
import HandS.DictTup
import HandS.Conv
import HandS.SortKw
import HandS.IsInst
import HandS.ExcIs
import HandS.Style
import HandS.TupLe
import HandS.Flow
import HandS.SetFor
import PySem.Challenge.RW_leasehold_k02_keeper
set_option Elab.async false
set_option linter.all false
set_option maxRecDepth 100000
set_option maxHeartbeats 4000000
namespace Lh
open PySem PySem.Spec PyProof.Rows L2

/-! ### readings, by name: each lemma takes one combinator off -/
/-- a known boolean's two ways -/
def BIf (c : Bool) (A B : Prop) : Prop := if c = true then A else B
theorem bif_t {A B : Prop} (h : A) : BIf true A B := h
theorem bif_f {A B : Prop} (h : B) : BIf false A B := h
theorem bif2 {c : Bool} {A B : Prop} (h1 : c = true → A) (h2 : c = false → B) : BIf c A B := by
  cases c
  · exact h2 rfl
  · exact h1 rfl
theorem bif_d {p : Prop} [Decidable p] {A B : Prop} (h1 : p → A) (h2 : ¬p → B) : BIf (decide p) A B := by
  by_cases h : p
  · rw [decide_eq_true h]; exact h1 h
  · rw [decide_eq_false h]; exact h2 h
theorem bif_nd {p : Prop} [Decidable p] {A B : Prop} (h1 : p → B) (h2 : ¬p → A) : BIf (!decide p) A B := by
  by_cases h : p
  · rw [decide_eq_true h]; exact h1 h
  · rw [decide_eq_false h]; exact h2 h
theorem bif_n {c : Bool} {A B : Prop} (h : BIf c B A) : BIf (!c) A B := by
  cases c <;> exact h
def IsB (x : V) (H : Hp) (Q : Bool → Hp → Prop) : Prop := ∃ k, x = .bl k ∧ Q k H
theorem isb {k : Bool} {H : Hp} {Q : Bool → Hp → Prop} (q : Q k H) : IsB (.bl k) H Q := ⟨k, rfl, q⟩
def FldK (K : PySem.W.Frag) (f : Str) (x : V) (H : Hp) (Q : VK) : Prop := ∃ a C dx fs v, x = .ref a ∧ H a = some (.ins C dx fs) ∧ Cls K C ∧ NoAttr K C f ∧ fs.lookup f = some v ∧ Q v H
theorem fldk {K : PySem.W.Frag} {f : Str} {a C dx : Addr} {fs : List (Str × V)} {v : V} {H : Hp} {Q : VK} (h : H a = some (.ins C dx fs)) (c : Cls K C) (n : NoAttr K C f) (l : fs.lookup f = some v) (q : Q v H) : FldK K f (.ref a) H Q := ⟨a, C, dx, fs, v, rfl, h, c, n, l, q⟩
def MthK (C : Addr) (m : Str) (x : V) (H : Hp) (G : Prop) : Prop := ∃ a dx fs, x = .ref a ∧ H a = some (.ins C dx fs) ∧ fs.lookup m = none ∧ G
theorem mthk {C : Addr} {m : Str} {a dx : Addr} {fs : List (Str × V)} {H : Hp} {G : Prop} (h : H a = some (.ins C dx fs)) (l : fs.lookup m = none) (g : G) : MthK C m (.ref a) H G := ⟨a, dx, fs, rfl, h, l, g⟩
section
variable {K : PySem.W.Frag} {σ : L2.St} {H : Hp} {Q : VK} {QT : Bool → Hp → Prop} {QA : List V → Hp → Prop} {ta tb tc te : TE} {t u : TT} {tA tr : TA} {v x y : V} {r r' : R2} {n : L2.St → Hp → Prop} {rt : VK} {bk ct : L2.St → Hp → Prop} {i : Nat} {s1 s2 : TS}
theorem rd_var (h : σ[i]? = some (some v)) (q : Q v H) : tVar i σ H Q := ⟨v, h, q⟩
theorem rd_c (q : Q v H) : tC v σ H Q := q
theorem rd_op (h : ta σ H fun x H1 => tb σ H1 fun y H2 => r x y H2 Q) : tOp r ta tb σ H Q := h
theorem rd_un {f : V → Hp → VK → Prop} (h : ta σ H fun x H1 => f x H1 Q) : tUn f ta σ H Q := h
theorem rd_I0 {g : Int → Int → V} {a b : Int} (q : Q (g a b) H) : rI0 g (.int a) (.int b) H Q := ⟨a, b, rfl, rfl, q⟩
theorem rd_I {C : Int → Int → Prop} {g : Int → Int → V} {a b : Int} (c : C a b) (q : Q (g a b) H) : rI C g (.int a) (.int b) H Q := ⟨a, b, rfl, rfl, c, q⟩
theorem rd_U {g : Int → V} {a : Int} (q : Q (g a) H) : rU g (.int a) H Q := ⟨a, rfl, q⟩
theorem rd_eq (h : scal x y = true) (q : Q (.bl (decide (x = y))) H) : rEq x y H Q := ⟨h, q⟩
theorem rd_ne (h : scal x y = true) (q : Q (.bl (!decide (x = y))) H) : rNe x y H Q := ⟨h, q⟩
theorem rd_fld {f : Str} (h : ta σ H fun x H1 => FldK K f x H1 Q) : tFld K ta f σ H Q := h
theorem rd_test (h : te σ H fun x H1 => IsB x H1 QT) : tTest te σ H QT := h
theorem rd_B (h : te σ H fun x H1 => IsB x H1 QT) : tB te σ H QT := h
theorem rd_and (h : t σ H fun c H1 => BIf c (u σ H1 QT) (QT false H1)) : tAnd t u σ H QT := h
theorem rd_or (h : t σ H fun c H1 => BIf c (QT true H1) (u σ H1 QT)) : tOr t u σ H QT := h
theorem rd_not (h : t σ H fun c H1 => QT (!c) H1) : tNot t σ H QT := h
theorem rd_andV (h : ta σ H fun x H1 => IsB x H1 fun c H2 => BIf c (tb σ H2 Q) (Q (.bl false) H2)) : tAndV ta tb σ H Q := by
  have e : tAndV ta tb σ H Q = ta σ H fun x H1 => ∃ c, x = .bl c ∧ if c = true then tb σ H1 Q else Q (.bl false) H1 := rfl
  rw [e]; exact h
theorem rd_orV (h : ta σ H fun x H1 => IsB x H1 fun c H2 => BIf c (Q (.bl true) H2) (tb σ H2 Q)) : tOrV ta tb σ H Q := h
theorem rd_notV (h : ta σ H fun x H1 => IsB x H1 fun c H2 => Q (.bl (!c)) H2) : tNotV ta σ H Q := h
theorem rd_ifE (h : t σ H fun c H1 => BIf c (ta σ H1 Q) (tb σ H1 Q)) : tIf t ta tb σ H Q := h
theorem rd_chain (h : ta σ H fun x H1 => tb σ H1 fun y H2 => r x y H2 fun z H3 => IsB z H3 fun k H4 => BIf k (tc σ H4 fun w H5 => r' y w H5 Q) (Q (.bl false) H4)) : tChain r r' ta tb tc σ H Q := h
theorem rd_meth {C : Addr} {m : Str} {sp : Sp} {dvs : List V} {E : XK} (h : ta σ H fun x H1 => MthK C m x H1 (tA σ H1 fun vs H2 => sp (x :: (vs ++ dvs)) H2 Q E)) : tMeth C m sp dvs E ta tA σ H Q := h
theorem rd_call {sp : Sp} {dvs : List V} {E : XK} (h : tA σ H fun vs H1 => sp (vs ++ dvs) H1 Q E) : tCall sp dvs E tA σ H Q := h
theorem rd_callS {sp : Sp} {E : L2.St → XK} (h : tA σ H fun vs H1 => sp vs H1 Q (E σ)) : tCallS sp E tA σ H Q := h
theorem rd_make {C : Addr} {sp : Sp} {dvs : List V} {E : XK} (h : tA σ H fun vs H1 => ∀ x dx, H1 x = none → H1 dx = none → dx ≠ x → sp (.ref x :: (vs ++ dvs)) (upd (upd H1 dx (.own x)) x (.ins C dx [])) (fun v H2 => v = .non ∧ Q (.ref x) H2) E) : tMake C sp dvs E tA σ H Q := h
theorem rd_cb {f : List V → Hp → VK → Prop} (h : tA σ H fun vs H1 => f vs H1 Q) : tCB f tA σ H Q := h
theorem rd_nil (q : QA [] H) : tNil σ H QA := q
theorem rd_cons (h : ta σ H fun x H1 => tr σ H1 fun xs H2 => QA (x :: xs) H2) : tCons ta tr σ H QA := h
theorem rd_tup (h : tA σ H fun xs H1 => xs.length ≤ sizeLine ∧ ∀ p, H1 p = none → Q (.ref p) (upd H1 p (.tup xs))) : tTup tA σ H Q := h
theorem rd_lst (h : tA σ H fun xs H1 => xs.length ≤ sizeLine ∧ ∀ p, H1 p = none → Q (.ref p) (upd H1 p (.lst xs))) : tLst tA σ H Q := h
theorem rd_dget (h : ta σ H fun x H1 => tb σ H1 fun y H2 => ∃ a v, x = .ref a ∧ DGet H2 a y (some v) ∧ Q v H2) : tDGet ta tb σ H Q := h
/-! statements -/
theorem rd_next (q : n σ H) : tNext ⟨n, rt, bk, ct⟩ σ H := q
theorem rd_seq (h : s1 ⟨s2 ⟨n, rt, bk, ct⟩, rt, bk, ct⟩ σ H) : tSeq s1 s2 ⟨n, rt, bk, ct⟩ σ H := h
theorem rd_asg (h : te σ H fun v H1 => n (σ.set i (some v)) H1) : tAsg te (gName i) ⟨n, rt, bk, ct⟩ σ H := h
theorem rd_asgG {g : TG} (h : te σ H fun v H1 => g v σ H1 n) : tAsg te g ⟨n, rt, bk, ct⟩ σ H := h
theorem rd_drop (h : te σ H fun _ H1 => n σ H1) : tDrop te ⟨n, rt, bk, ct⟩ σ H := h
theorem rd_ret (h : te σ H rt) : tRet te ⟨n, rt, bk, ct⟩ σ H := h
theorem rd_retN (h : rt .non H) : tRetN ⟨n, rt, bk, ct⟩ σ H := h
theorem rd_ifS (h : t σ H fun c H1 => BIf c (s1 ⟨n, rt, bk, ct⟩ σ H1) (s2 ⟨n, rt, bk, ct⟩ σ H1)) : tIfS t s1 s2 ⟨n, rt, bk, ct⟩ σ H := h
def SFldK (K : PySem.W.Frag) (f : Str) (x y : V) (H : Hp) (G : Hp → Prop) : Prop := ∃ a C dx fs, x = .ref a ∧ H a = some (.ins C dx fs) ∧ Cls K C ∧ NoAttr K C f ∧ fs.length < 1000 ∧ G (upd H a (.ins C dx (putF f y fs)))
theorem sfldk {f : Str} {a C dx : Addr} {fs fs' : List (Str × V)} {G : Hp → Prop} (h : H a = some (.ins C dx fs)) (c : Cls K C) (na : NoAttr K C f) (l : fs.length < 1000) (e : putF f y fs = fs') (q : G (upd H a (.ins C dx fs'))) : SFldK K f (.ref a) y H G := ⟨a, C, dx, fs, rfl, h, c, na, l, e ▸ q⟩
theorem rd_sfld {f : Str} (h : tb σ H fun y H1 => ta σ H1 fun x H2 => SFldK K f x y H2 fun H3 => n σ H3) : sFld K ta tb f ⟨n, rt, bk, ct⟩ σ H := h
end
theorem ne_symm' {a b : Addr} (h : a ≠ b) : b ≠ a := fun e => h e.symm
theorem lt1000 {n : Nat} (h : n ≤ 100) : n < 1000 := by omega
theorem sz_le {n : Nat} (h : n ≤ 10000000) : n ≤ sizeLine := Nat.le_trans h (by decide)
theorem sz_lt {n : Nat} (h : n ≤ 10000000) : n < sizeLine := Nat.lt_of_le_of_lt h (by decide)

/-! ### a chain of three comparisons -/
def tChain3 (r1 r2 r3 : R2) (ta tb tc td : TE) : TT := fun σ H Q => ta σ H fun x H1 => tb σ H1 fun y H2 => r1 x y H2 fun z H3 => IsB z H3 fun k H4 =>
  BIf k (tc σ H4 fun w H5 => r2 y w H5 fun z H6 => IsB z H6 fun k H7 => BIf k (td σ H7 fun w' H8 => r3 w w' H8 fun z H9 => IsB z H9 Q) (Q false H7)) (Q false H4)
section
variable {X : Cx} {a b c d : Expr} {pos : Pos} {ta tb tc td : TE}
theorem pt_chain3 {op op' op'' : CmpOp} {r r' r'' : R2} (ho : OpR X (compareOp op) r) (ho' : OpR X (compareOp op') r') (ho'' : OpR X (compareOp op'') r'') (ha : PE X a ta) (hb : PE X b tb) (hc : PE X c tc) (hd : PE X d td)
    (hm : lastMarks [op, op', op''] [b, c, d] = false := by with_unfolding_all rfl) : PT X (.Compare a [op, op', op''] [b, c, d] pos) (tChain3 r r' r'' ta tb tc td) := by
  refine ⟨fun pins s σ H Q I h => ?_⟩
  refine isTrue_chain (thn (ha.run pins s σ H _ I h) fun v s1 ⟨x, H1, I1, r1, q1⟩ => test_link (thn (hb.run pins s1 σ H1 _ I1 q1) fun u s2 ⟨y, H2, I2, r2, q2⟩ =>
    thn (ho pins s2 σ H2 x y v u _ I2 r1 r2 q2) fun d s3 ⟨z, H3, I3, r3, k, e, q3⟩ => ?_)) hm
  subst e
  cases r3
  refine wpAny_truthy_bool ?_
  cases k with
  | false => exact ite_ff ⟨H3, I3, q3⟩
  | true =>
    refine ite_tt (test_link (thn (hc.run pins s3 σ H3 _ I3 q3) fun w' s4 ⟨z', H4, I4, r4, q4⟩ => thn (ho' pins s4 σ H4 y z' u w' _ I4 r2 r4 q4) fun d' s5 ⟨z2, H5, I5, r5, k2, e2, q5⟩ => ?_))
    subst e2
    cases r5
    refine wpAny_truthy_bool ?_
    cases k2 with
    | false => exact ite_ff ⟨H5, I5, q5⟩
    | true =>
      refine ite_tt (test_last (thn (hd.run pins s5 σ H5 _ I5 q5) fun w2 s6 ⟨z3, H6, I6, r6, q6⟩ => thn (ho'' pins s6 σ H6 z' z3 w' w2 _ I6 r4 r6 q6) fun d2 s7 ⟨z4, H7, I7, r7, k3, e3, q7⟩ => ?_))
      subst e3
      cases r7
      exact wpAny_truthy_bool ⟨H7, I7, q7⟩
end
section
variable {ta tb tc td : TE} {r1 r2 r3 : R2} {σ : L2.St} {H : Hp} {Q : Bool → Hp → Prop}
theorem rd_chain3 (h : ta σ H fun x H1 => tb σ H1 fun y H2 => r1 x y H2 fun z H3 => IsB z H3 fun k H4 =>
  BIf k (tc σ H4 fun w H5 => r2 y w H5 fun z H6 => IsB z H6 fun k H7 => BIf k (td σ H7 fun w' H8 => r3 w w' H8 fun z H9 => IsB z H9 Q) (Q false H7)) (Q false H4)) : tChain3 r1 r2 r3 ta tb tc td σ H Q := h
end

/-! ### methods and new instances where what is raised is wished for at the caller's slots -/
section
variable {X : Cx} {CX : CXT} {k : Nat} {f C : Addr} {fd : FuncData} {ps : List Str} {sp : Sp} {E : L2.St → XK} {x m : Str} {p pos apos : Pos} {e o : Expr} {es : List Expr} {ta : TE} {t : TA}
def tMethS (C : Addr) (m : Str) (sp : Sp) (E : L2.St → XK) (ta : TE) (t : TA) : TE := fun σ H Q => ta σ H fun x H1 => MthK C m x H1 (t σ H1 fun vs H2 => sp (x :: vs) H2 Q (E σ))
theorem pe_methT {pl : Sem Bool} (he : PE X o ta) (c : Cls X.K C) (hm : Meth X.K C m f) (F : FnOk X.prog X.w X.K X.mg X.base CX k f fd ps sp) (hr : Room k X.A) (hb : Binds X.K fd ps []) (hx : ∀ σ, PassesAt CX X σ (E σ)) (ha : PA X (e :: es) t)
    (hst : starEach (e :: es) X.env = (false, eval e X.env) :: starEach es X.env := by rfl) (hpl : (backTo pos (starEach es X.env)).any (·.1) = false := by rfl)
    (ht : eval (.Call (.Attribute o m apos) (e :: es) [] pos) X.env = (do
      let ov ← eval o X.env
      standAt apos.atName
      let (f, first) ← holding [ov] (getMethod ov m pl)
      callWith pos f first (backTo pos (starEach (e :: es) X.env)) (backToKw pos (keywordEach [] X.env))) := by rfl) :
    PE X (.Call (.Attribute o m apos) (e :: es) [] pos) (tMethS C m sp E ta t) := by
  refine ⟨fun pins s σ H Q I h => ?_⟩
  refine PySem.W.methodCall_KW (pl := pl) (thn (he.run pins s σ H _ I h) fun u s1 ⟨x, H1, I1, rx, a, dx, fs, ex, ea, l, q⟩ => ?_) ht
  subst ex
  obtain rfl : u = Value.ref a := rx
  refine getmeth_ok I1 ea c hm l ?_
  refine PySem.W.callWith_K (first := [.ref a]) (h₀ := X.base) I.ok.mod.kin hm.kp (thn (ha.run pos pins s1 σ H1 _ I1 q) fun us s2 ⟨vs, H2, I2, r, q2⟩ => ⟨I2.kIn, ?_⟩) hst hpl
  exact run_fnS (us := .ref a :: us) (vs := .ref a :: vs) F hr hb (hx σ) I2 (.cons rfl r) q2
theorem run_makeS {pins : List (Addr × Obj)} {σ : L2.St} {H : Hp} {s : Shared} {Q : VK} {us : List Value} {vs : List V} (M : Mk X.K C f) (F : FnOk X.prog X.w X.K X.mg X.base CX k f fd ps sp) (hr : Room (k + 1) X.A) (hb : Binds X.K fd ps [])
    (hx : PassesAt CX X σ (E σ)) (I : Inv X pins σ H s) (r : Vals vs us)
    (h : ∀ x dx, H x = none → H dx = none → dx ≠ x → sp (.ref x :: vs) (upd (upd H dx (.own x)) x (.ins C dx [])) (fun v H2 => v = .non ∧ Q (.ref x) H2) (E σ)) :
    wpAny (model X.prog X.w) X.A (call (.ref C) us) (EP X pins σ Q) X.xe s := by
  have hq := h (s.heap.objs.size + 1) s.heap.objs.size (I.hok.fresh (Nat.le_succ _)) (I.hok.fresh (Nat.le_refl _)) (Nat.ne_of_lt (Nat.lt_succ_self _))
  have I2 := Inv.made (C := C) I
  have r2 : Vals (V.ref (s.heap.objs.size + 1) :: vs) (Value.ref (s.heap.objs.size + 1) :: us) := .cons rfl r
  have hl : (Value.ref (s.heap.objs.size + 1) :: us).length = ps.length := by
    have e := r2.length
    rw [F.len _ _ _ _ hq] at e
    exact e.symm
  have hb2 := hb
  refine wpAny_call (make_map (f := f) I.kIn M.makes M.init (beq_iff_eq.mp M.fn) (codeAny_mono (F.run _ X.stack _ _ ⟨Value.ref (s.heap.objs.size + 1) :: us, []⟩ (Value.ref (s.heap.objs.size + 1) :: us) _ _ (E σ) (hr.make C us [])
    (I2.env0.make C us []) (by have z := hb _ (Value.ref (s.heap.objs.size + 1) :: us) I2.kIn (by rw [List.append_nil]; exact hl); rw [List.append_nil] at z; exact z) r2 hq) fun r s' hq' => ?_))
  cases r with
  | error e => exact hx pins _ _ e s' I2 hq'
  | ok fl =>
    cases fl with
    | ret u =>
      obtain ⟨v, H', I3, rv, ev, q3⟩ := I2.after hq'
      subst ev
      exact ⟨rv, ⟨V.ref (s.heap.objs.size + 1), H', I3, rfl, q3⟩⟩
    | next => exact False.elim hq'
    | brk => exact False.elim hq'
    | cont => exact False.elim hq'
def tMakeS (C : Addr) (sp : Sp) (E : L2.St → XK) (t : TA) : TE := fun σ H Q => t σ H fun vs H1 => ∀ x dx, H1 x = none → H1 dx = none → dx ≠ x → sp (.ref x :: vs) (upd (upd H1 dx (.own x)) x (.ins C dx [])) (fun v H2 => v = .non ∧ Q (.ref x) H2) (E σ)
theorem pe_makeT (M : Mk X.K C f) (F : FnOk X.prog X.w X.K X.mg X.base CX k f fd ps sp) (hr : Room (k + 1) X.A) (hg : Gl X x) (hm : X.mg x = some (.ref C)) (hb : Binds X.K fd ps []) (hx : ∀ σ, PassesAt CX X σ (E σ))
    (ha : PA X (e :: es) t) (hdb : (x == ("__debug__" : Str)) = false := by decide) (he : starEach (e :: es) X.env = (false, eval e X.env) :: starEach es X.env := by rfl) (hpl : (backTo pos (starEach es X.env)).any (·.1) = false := by rfl) :
    PE X (.Call (.Name x p) (e :: es) [] pos) (tMakeS C sp E t) := by
  refine ⟨fun pins s σ H Q I h => ?_⟩
  refine wpAny_Call_Name_kw (ld_glob I hg hm ?_ hdb)
  refine PySem.W.callWith_K (h₀ := X.base) I.ok.mod.kin M.kp (thn (ha.run pos pins s σ H _ I h) fun us s1 ⟨vs, H1, I1, r, q⟩ => ⟨I1.kIn, ?_⟩) he hpl
  exact run_makeS M F hr hb (hx σ) I1 r q
end
section
variable {σ : L2.St} {H : Hp} {Q : VK} {ta : TE} {tA : TA}
theorem rd_methS {C : Addr} {m : Str} {sp : Sp} {E : L2.St → XK} (h : ta σ H fun x H1 => MthK C m x H1 (tA σ H1 fun vs H2 => sp (x :: vs) H2 Q (E σ))) : tMethS C m sp E ta tA σ H Q := h
theorem rd_makeS {C : Addr} {sp : Sp} {E : L2.St → XK} (h : tA σ H fun vs H1 => ∀ x dx, H1 x = none → H1 dx = none → dx ≠ x → sp (.ref x :: vs) (upd (upd H1 dx (.own x)) x (.ins C dx [])) (fun v H2 => v = .non ∧ Q (.ref x) H2) (E σ)) : tMakeS C sp E tA σ H Q := h
end

/-! ### try: body, except x as n: suite, where the error is kept behind the suite -/
/-- a caught error of the class cls, without a dict, known by its class -/
def ExK (cls : Value) (a : Addr) : HO := .ext fun h => ∃ oe, h.get? a = some oe ∧ Zc cls none oe ∧ ∃ vs, oe.data = .fields vs
theorem exK_ok {P : Program} {w : World} {H : Hp} {h : Heap} {a : Addr} {cls : Value} {oe : Obj} (e : h.get? a = some oe) (z : Zc cls none oe) (d : ∃ vs, oe.data = .fields vs) : ObjOk P w H h a (ExK cls a) :=
  ⟨⟨oe, e, z, d⟩, ⟨oe, e⟩, fun _ _ ⟨o, q, r⟩ k => ⟨o, k o q, r⟩⟩
theorem hok_track {P : Program} {w : World} {H : Hp} {h : Heap} {a : Addr} {o : HO} (x : HOk P w H h) (hn : H a = none) (new : ObjOk P w (upd H a o) h a o) : HOk P w (upd H a o) h := fun b u e => by
  by_cases hb : b = a
  · subst hb
    rw [upd_same] at e
    cases e
    exact new
  · rw [upd_ne hb] at e
    exact (x b u e).stay (fun c v _ q => q) (fun c q => by rw [upd_ne (ne_of_none q hn)]; exact q) fun c xs q => by rw [upd_ne (ne_of_none q hn)]; exact q
section
variable {X : Cx} {pins : List (Addr × Obj)} {σ : L2.St} {H : Hp} {s : Shared}
/-- an untracked record of ours is tracked from now on -/
theorem Inv.track {a : Addr} {o : HO} {ob : Obj} {vs : Array Value} (I : Inv X pins σ H s) (hn : H a = none) (h0 : X.s_0.heap.get? a = none) (hg : s.heap.get? a = some ob) (hd : ob.data = .fields vs) (nL : a ≠ X.env.locals) (np : ∀ p ∈ X.pn ++ pins, p.1 ≠ a)
    (new : ObjOk X.prog X.w (upd H a o) s.heap a o) : Inv X pins σ (upd H a o) s := by
  have ne0 : ∀ b u, X.s_0.heap.get? b = some u → b ≠ a := fun b u e z => by
    rw [z, h0] at e
    cases e
  refine ⟨I.ok, I.os, I.bare, ⟨I.base.keep, I.base.slot, fun b u e n hx => ?_, I.base.there, fun b xs e => ?_, fun b u xs e => ?_, fun b ps e => ?_⟩, I.loc, I.cell, ?_, fun x c e => ?_, fun p hp => ?_, hok_track I.hok hn new, I.len⟩
  · rw [upd_ne (ne0 b u e)]
    exact I.base.free b u e n hx
  · have q := I.base.tups b xs e
    rw [upd_ne (ne_of_none q hn)]
    exact q
  · have q := I.base.frzs b u xs e
    rw [upd_ne (ne_of_none q hn)]
    exact q
  · obtain ⟨m, q⟩ := I.base.tbls b ps e
    exact ⟨m, by rw [upd_ne (ne_of_none q hn)]; exact q⟩
  · rw [upd_ne (Ne.symm nL)]
    exact I.free
  · obtain ⟨v, oc, ho, hc⟩ := I.cell x c e
    have hne : c ≠ a := fun z => by
      rw [z, hg] at ho
      cases ho
      rw [hd] at hc
      cases hc
    rw [upd_ne hne]
    exact I.freeC x c e
  · obtain ⟨e, n, ne, nf, d⟩ := I.pin p hp
    exact ⟨e, by rw [upd_ne (np p hp)]; exact n, ne, nf, d⟩
end
/-- what the clause 'except x as n' wishes of an exception of the body, where the error is tracked behind the suite -/
def wAsK (K : PySem.W.Frag) (c : Value) (i : Nat) (ts : Addr → Value → Option Addr → TS) (D : Ends) : WX := fun cls d σ H =>
  d = none ∧ PySem.W.exmOne K cls c = some true ∧ ∀ a, H a = none → ts a cls d { nx := fun σ' H' => D.nx (σ'.set i none) (upd H' a (ExK cls a)), rt := fun _ _ => False, bk := fun _ _ => False, ct := fun _ _ => False } (σ.set i (some (.ref a))) H
section
variable {X : Cx} {x n : Str} {c : Value} {i : Nat} {body suite : List Stmt} {b₀ : Stmt} {np pos pos' : Pos} {tb : WX → TS} {ts : Addr → Value → Option Addr → TS}
theorem ps_try_keep (hs : X.stack = X.env :: X.outer) (hf : X.env.frame = some X.env.locals) (hex : X.ex = []) (hN : X.N.Nodup) (hi : X.N[i]? = some n) (hln : X.env.kindOf n = some .local) (hc : Names X x c)
    (hb : ∀ (W : WX) (pn : List (Addr × Obj)) (xe : Value → Shared → Prop), Takes (X.tr pn xe) W → PassesOwn (model X.prog X.w) X.A X.env xe → PSs (X.tr pn xe) body (tb W))
    (hsu : ∀ (a : Addr) (oe : Obj) (cls : Value) (d : Option Addr) (pn : List (Addr × Obj)), Zc cls d oe → (∃ vs, oe.data = .fields vs) → PSs (X.suite a ((a, oe) :: pn)) (b₀ :: suite) (ts a cls d)) :
    PS X (.Try body [.ExceptHandler (some (.Name x np)) (some n) (b₀ :: suite) pos'] [] [] pos) (fun D σ H => tb (wAsK X.K c i ts D) D σ H) := by
  refine ⟨fun pins s σ H D I h => ?_⟩
  have ok := I.ok
  have hfr : X.A.frames = some (X.env :: X.outer) := by rw [ok.frames, hs]
  have hloc : Loc X.env.scope n := .inl hln
  refine wpAny_Try_except ?_
  refine wpAny_mono ((hb (wAsK X.K c i ts D) (X.pn ++ pins) (fun e s₁ => wpAny (model X.prog X.w) X.A (noteFrame e X.env) (fun _ s₂ => wpAny (model X.prog X.w) X.A (setFlight e none) (fun _ s₃ =>
    wpAny (model X.prog X.w) X.A (handleBy e X.env [.ExceptHandler (some (.Name x np)) (some n) (b₀ :: suite) pos']) (SP X pins D) X.xe s₃) X.xe s₂) X.xe s₁) (fun u s' xx => ?_) PassesOwn.looking).run [] s σ H D (I.toTry _) h) (fun f s1 hsp => ?_) (fun e s1 he => he)
  · -- the catch
    obtain ⟨a, B, sI, pins', σ', H', cls, d, rfl, J', nb, up, sky, na, os, ag, hdn, hb1, hyes⟩ := xx
    subst hdn
    have J : Inv X pins σ' H' sI := J'.ofTry ok
    have sky' : Sky B (X.env :: X.outer) a (Zc cls none) X.env.locals s'.heap := by rw [← hs]; exact sky
    show wpAny (model X.prog X.w) X.A (noteFrame (.ref a) X.env) _ _ _
    refine Sky.land Zc.steady hfr hf sky' fun h3 fl3 up3 => ?_
    have J3 : Inv X pins σ' H' { s' with heap := h3 } := J.landed nb fl3.1 (up.trans up3) os ag
    obtain ⟨oe3, vs3, he3, hz3, hd3⟩ := fl3.there
    have notFr : ∀ {h : Heap} {o : Obj} {vs : Array Value}, h.FunFrames B (X.env :: X.outer) → h.get? a = some o → o.data = .fields vs → a ∉ frs (X.env :: X.outer) := fun {h o vs} ff e dd hm => by
      obtain ⟨_, o', e', hnf⟩ := ff.mem hm
      rw [e] at e'; cases e'
      exact hnf _ dd
    have nfr := notFr fl3.2.2.1 he3 hd3
    have nL : a ≠ X.env.locals := fun z => nfr (List.mem_filterMap.mpr ⟨X.env, List.mem_cons_self, by rw [hf, z]⟩)
    have nF : a ∉ X.fs := fun hm => by
      obtain ⟨e, he, q⟩ := List.mem_filterMap.mp hm
      exact nfr (List.mem_filterMap.mpr ⟨e, List.mem_cons_of_mem _ he, q⟩)
    have nS : a ∉ frs X.stack := by rw [hs]; exact nfr
    have nB : B.get? a = none := fl3.2.1
    have nI : sI.heap.get? a = none := by
      cases e : sI.heap.get? a with
      | none => rfl
      | some o =>
        have z := nb a o e nS
        rw [nB] at z
        cases z
    have n0 : X.s_0.heap.get? a = none := by
      cases e : X.s_0.heap.get? a with
      | none => rfl
      | some o =>
        obtain ⟨o', z⟩ := J.base.there a o e (by rw [hex]; exact fun z => nomatch z)
        rw [nI] at z
        cases z
    have npin : ∀ p ∈ X.pn ++ pins, p.1 ≠ a := fun p hp z => by
      obtain ⟨e, _⟩ := J.pin p hp
      rw [z, nI] at e
      cases e
    have S3 := J3.suite he3 hd3 na nL nF
    refine wpAny_handleBy_cons (codeAny_handlers_test ?_) (by intro q; cases q)
    have LT : PySem.W.Looks (model X.prog X.w) h3 (typeOf (.ref a)) cls := fun A Q E s k q => wpAny_typeOf_ref (k _ _ he3) (by rw [hz3.1]; exact q)
    have LM := PySem.W.exm_one (M := model X.prog X.w) (J3.kIn) LT hb1
    have test : ∀ {Q : Value → Shared → Prop} {E : Value → Shared → Prop}, Q c { s' with heap := h3 } → wpAny (model X.prog X.w) (X.A.mark (some (.ref a))) (eval (.Name x np) X.env) Q E { s' with heap := h3 } := fun {Q E} q => by
      obtain ⟨hg, hdbg, hm | ⟨hm, hv, hnn⟩⟩ := hc
      · exact ld_glob (X := X.suite a ((a, oe3) :: (X.pn ++ pins))) S3 hg hm q hdbg
      · exact ld_blt (X := X.suite a ((a, oe3) :: (X.pn ++ pins))) S3 hg hm hv q hnn hdbg
    refine test (LM.here ?_)
    refine codeAny_handlers_suite_as ?_
    refine HandSPX.lands_againZ fl3 fun h4 fl4 up4 => ?_
    have J4 : Inv X pins σ' H' { s' with heap := h4 } := J.landed nb fl4.1 ((up.trans up3).trans up4) os ag
    obtain ⟨oe4, vs4, he4, hz4, hd4⟩ := fl4.there
    have S4 := J4.suite he4 hd4 na nL nF
    refine store_ok (X := X.suite a ((a, oe4) :: (X.pn ++ pins))) (v := .ref a) S4 hN hi hloc rfl (fun s5 S5 => ?_) (.inr hln)
    refine wpAny_mono ((hsu a oe4 cls none (X.pn ++ pins) hz4 ⟨_, hd4⟩).run [] s5 _ H' _ S5 (hyes a na)) (fun f s6 hsp => ?_) (fun _ _ z => False.elim z)
    cases f with
    | next =>
      obtain ⟨σ6, H6, S6, q6⟩ := hsp
      have S6' : Inv X ((a, oe4) :: pins) σ6 H6 s6 := ⟨ok, S6.os, S6.bare, S6.base, S6.loc, S6.cell, S6.free, S6.freeC, fun p hp => S6.pin p (by
        rcases List.mem_append.mp hp with z | z
        · exact List.mem_append_left _ (List.mem_cons_of_mem _ (List.mem_append_left _ z))
        · rcases List.mem_cons.mp z with z | z
          · rw [z]; exact List.mem_append_left _ List.mem_cons_self
          · exact List.mem_append_left _ (List.mem_cons_of_mem _ (List.mem_append_right _ z))), S6.hok, S6.len⟩
      refine gone_ok (Q := fun _ s7 => SP X pins D .next s7) S6' hN hi hln fun s7 J7 => ?_
      obtain ⟨pa, pb, _, _, _⟩ := J7.pin (a, oe4) (List.mem_append_right _ List.mem_cons_self)
      have J8 : Inv X pins (σ6.set i none) H6 s7 := ⟨ok, J7.os, J7.bare, J7.base, J7.loc, J7.cell, J7.free, J7.freeC, fun p hp => J7.pin p (by
        rcases List.mem_append.mp hp with z | z
        · exact List.mem_append_left _ z
        · exact List.mem_append_right _ (List.mem_cons_of_mem _ z)), J7.hok, J7.len⟩
      exact ⟨_, _, Inv.track J8 pb n0 pa hd4 nL npin (exK_ok pa hz4 ⟨_, hd4⟩), q6⟩
    | brk =>
      obtain ⟨σ6, H6, S6, q6⟩ := hsp
      exact q6.elim
    | cont =>
      obtain ⟨σ6, H6, S6, q6⟩ := hsp
      exact q6.elim
    | ret u =>
      obtain ⟨v6, σ6, H6, S6, r6, q6⟩ := hsp
      exact q6.elim
  · cases f with
    | next =>
      obtain ⟨σ', H', J', q⟩ := hsp
      exact wpAny_execs_nil ⟨σ', H', J'.ofTry ok, q⟩
    | brk =>
      obtain ⟨σ', H', J', q⟩ := hsp
      exact ⟨σ', H', J'.ofTry ok, q⟩
    | cont =>
      obtain ⟨σ', H', J', q⟩ := hsp
      exact ⟨σ', H', J'.ofTry ok, q⟩
    | ret u =>
      obtain ⟨v, σ', H', J', r, q⟩ := hsp
      exact ⟨v, σ', H', J'.ofTry ok, r, q⟩
end
/-! isinstance of a kept error -/
def rIsX (K : PySem.W.Frag) : List V → Hp → VK → Prop := fun xs H Q => ∃ (a D : Addr) (c : V) (u : Value) (b : Bool), xs = [.ref a, c] ∧ ClsV c u ∧ H a = some (ExK (.ref D) a) ∧ ExcC K D ∧ PySem.W.kitOne K (.ref D) u = some b ∧ Q (.bl b) H
def rIsXT (K : PySem.W.Frag) : List V → Hp → VK → Prop := fun xs H Q => ∃ (a D tp : Addr) (cs : List V) (us : List Value) (b : Bool), xs = [.ref a, .ref tp] ∧ H tp = some (.tup cs) ∧ Paired ClsV cs us ∧ H a = some (ExK (.ref D) a) ∧ ExcC K D ∧ PySem.W.kitAny K (.ref D) us = some b ∧ Q (.bl b) H
section
variable {X : Cx}
theorem instAt_exK {pins : List (Addr × Obj)} {σ : L2.St} {H : Hp} {s : Shared} {a D : Addr} (I : Inv X pins σ H s) (h : H a = some (ExK (.ref D) a)) : ∃ oe, PySem.W.InstAt s.heap a oe D none := by
  obtain ⟨⟨oe, hget, hz, vs, hv⟩, _⟩ := I.hok a _ h
  refine ⟨oe, ?_⟩
  obtain ⟨oc, od, oda, osl⟩ := oe
  obtain ⟨h1, h2⟩ := hz
  dsimp only at h1 h2 hv
  subst h1 h2 hv
  exact ⟨hget, rfl, rfl, trivial⟩
theorem call_isX : CallR X (.builtin "isinstance") (rIsX X.K) := by
  intro pins s σ H xs us Q I r h
  obtain ⟨a, D, c, u, b, rfl, k, ha, C, e, q⟩ := h
  obtain ⟨u1, u2, rfl, r1, r2⟩ := vals2 r
  cases r1
  have e2 := k.eq r2
  subst e2
  obtain ⟨oe, J⟩ := instAt_exK I ha
  exact PySem.W.kia_one (PySem.W.handS_kitx_exc C.hg C.hk C.hs C.hd C.ha C.hn C.ht C.hm) I.kIn J e (fun z => nomatch z) fun tk => ⟨.bl b, H, I.kept (t' := tk) fun _ _ z => z, rfl, q⟩
theorem call_isXT : CallR X (.builtin "isinstance") (rIsXT X.K) := by
  intro pins s σ H xs us Q I r h
  obtain ⟨a, D, tp, cs, ws, b, rfl, hT, k, ha, C, e, q⟩ := h
  obtain ⟨u1, u2, rfl, r1, r2⟩ := vals2 r
  cases r1
  cases (show u2 = Value.ref tp from r2)
  obtain ⟨oe, J⟩ := instAt_exK I ha
  obtain ⟨_, its, rv, o, h1, h2, n, h3⟩ := (show ObjOk X.prog X.w H s.heap tp (.tup cs) from I.hok tp _ hT)
  have e3 := ClsV.all k rv
  subst e3
  obtain ⟨oc, od, dt, sl⟩ := o
  simp only at h2 h3
  subst h2 h3
  exact PySem.W.kia_tup (PySem.W.handS_kitx_exc C.hg C.hk C.hs C.hd C.ha C.hn C.ht C.hm) I.kIn J h1 e (fun z => nomatch z) fun tk => ⟨.bl b, H, I.kept (t' := tk) fun _ _ z => z, rfl, q⟩
end
/-! ### named forms of rules whose readings are bare functions -/
def rLen (K : PySem.W.Frag) : List V → Hp → VK → Prop := fun xs H Q => ∃ p ys, xs = [.ref p] ∧ (SqL K H p ys ∨ SqT K H p ys) ∧ Q (.int ys.length) H
def rMax2 : List V → Hp → VK → Prop := fun xs H Q => ∃ i j, xs = [.int i, .int j] ∧ Q (.int (if j > i then j else i)) H
def rMin2 : List V → Hp → VK → Prop := fun xs H Q => ∃ i j, xs = [.int i, .int j] ∧ Q (.int (if j < i then j else i)) H
def rInt1 : List V → Hp → VK → Prop := fun xs H Q => (∃ i, xs = [.int i] ∧ Q (.int i) H) ∨ ∃ k, xs = [.bl k] ∧ Q (.int (if k then 1 else 0)) H
def TruK (K : PySem.W.Frag) (x : V) (H : Hp) (Q : Bool → Hp → Prop) : Prop := ∃ k, TruV K x H k ∧ Q k H
def tTruth (K : PySem.W.Frag) (ta : TE) : TT := fun σ H Q => ta σ H fun x H' => TruK K x H' Q
def b2n (k : Bool) : Int := if k then 1 else 0
def DgK (x y : V) (H : Hp) (Q : VK) : Prop := ∃ a v, x = .ref a ∧ DGet H a y (some v) ∧ Q v H
def NewL (xs : List V) (H : Hp) (Q : VK) : Prop := xs.length ≤ sizeLine ∧ ∀ p, H p = none → Q (.ref p) (upd H p (.lst xs))
def NewT (xs : List V) (H : Hp) (Q : VK) : Prop := xs.length ≤ sizeLine ∧ ∀ p, H p = none → Q (.ref p) (upd H p (.tup xs))
def DinK (x y : V) (H : Hp) (Q : VK) : Prop := ∃ a o, x = .ref a ∧ DGet H a y o ∧ Q (.bl o.isSome) H
def DputK (x y v : V) (H : Hp) (G : Hp → Prop) : Prop := ∃ a H4, x = .ref a ∧ DPut H a y v H4 ∧ G H4
section
variable {X : Cx} {a : Expr} {ta : TE}
theorem cr_len : CallR X (.builtin "len") (rLen X.K) := call_len_seq
theorem cr_max2 (hc : X.calm = true) : CallR X (.builtin "max") rMax2 := call_max2 hc
theorem cr_min2 (hc : X.calm = true) : CallR X (.builtin "min") rMin2 := call_min2 hc
theorem cr_int1 : CallR X (.type "int") rInt1 := call_int1
theorem pt_tru (ha : PE X a ta) (he : ∀ whole, isTrue a X.env whole = (do let v ← whole; standAt a.pos; holding [v] (truthy v)) := by intro _; rfl) : PT X a (tTruth X.K ta) := pt_truth ha he
end
section
variable {K : PySem.W.Frag} {σ : L2.St} {H : Hp} {Q : VK} {QT : Bool → Hp → Prop} {ta tb tc : TE} {tA : TA} {p a : Addr} {xs : List V} {x y v : V} {n : L2.St → Hp → Prop} {rt : VK} {bk ct : L2.St → Hp → Prop}
theorem rd_len (h : SqL K H p xs) (q : Q (.int xs.length) H) : rLen K [.ref p] H Q := ⟨p, xs, rfl, .inl h, q⟩
theorem rd_max2 {i j : Int} (q : Q (.int (max i j)) H) : rMax2 [.int i, .int j] H Q := ⟨i, j, rfl, by
  have e : (if j > i then j else i) = max i j := by split <;> omega
  rw [e]; exact q⟩
theorem rd_min2 {i j : Int} (q : Q (.int (min i j)) H) : rMin2 [.int i, .int j] H Q := ⟨i, j, rfl, by
  have e : (if j < i then j else i) = min i j := by split <;> omega
  rw [e]; exact q⟩
theorem rd_intB {k : Bool} (q : Q (.int (b2n k)) H) : rInt1 [.bl k] H Q := .inr ⟨k, rfl, q⟩
theorem rd_truth (h : ta σ H fun x H1 => TruK K x H1 QT) : tTruth K ta σ H QT := h
theorem trul (h : SqL K H p xs) (q : QT (!xs.isEmpty) H) : TruK K (.ref p) H QT := ⟨_, .inl ⟨xs, h, rfl⟩, q⟩
theorem rd_dget' (h : ta σ H fun x H1 => tb σ H1 fun y H2 => DgK x y H2 Q) : tDGet ta tb σ H Q := h
theorem dgk (h : DGet H a y (some v)) (q : Q v H) : DgK (.ref a) y H Q := ⟨a, v, rfl, h, q⟩
theorem dgi {kvs : List (Key × V)} {i : Int} (h : H a = some (.dK kvs)) (e : valV kvs (Sum.inl i : Key) = some v) (q : Q v H) : DgK (.ref a) (.int i) H Q := ⟨a, v, rfl, by rw [← e]; exact DGet.k (k := Sum.inl i) h, q⟩
theorem dgs {kvs : List (Key × V)} {z : Str} (h : H a = some (.dK kvs)) (e : valV kvs (Sum.inr z : Key) = some v) (q : Q v H) : DgK (.ref a) (.str z) H Q := ⟨a, v, rfl, by rw [← e]; exact DGet.k (k := Sum.inr z) h, q⟩
theorem rd_din (h : ta σ H fun y H1 => tb σ H1 fun x H2 => DinK x y H2 Q) : tDIn ta tb σ H Q := h
theorem rd_dput (h : tc σ H fun v H1 => ta σ H1 fun x H2 => tb σ H2 fun y H3 => DputK x y v H3 fun H4 => n σ H4) : sDPut ta tb tc ⟨n, rt, bk, ct⟩ σ H := h
theorem dputs {kvs kvs' : List (Key × V)} {z : Str} {G : Hp → Prop} (h : H a = some (.dK kvs)) (hl : kvs.length < sizeLine) (e : putK kvs (Sum.inr z : Key) v = kvs') (q : G (upd H a (.dK kvs'))) : DputK (.ref a) (.str z) v H G := ⟨a, _, rfl, DPut.k (k := Sum.inr z) h hl, e ▸ q⟩
theorem dputi {kvs kvs' : List (Key × V)} {i : Int} {G : Hp → Prop} (h : H a = some (.dK kvs)) (hl : kvs.length < sizeLine) (e : putK kvs (Sum.inl i : Key) v = kvs') (q : G (upd H a (.dK kvs'))) : DputK (.ref a) (.int i) v H G := ⟨a, _, rfl, DPut.k (k := Sum.inl i) h hl, e ▸ q⟩
theorem rd_lst' (h : tA σ H fun xs H1 => NewL xs H1 Q) : tLst tA σ H Q := h
theorem rd_tup' (h : tA σ H fun xs H1 => NewT xs H1 Q) : tTup tA σ H Q := h
theorem newl (h : xs.length ≤ 10000000) (q : ∀ p H1, H p = none → H1 = upd H p (.lst xs) → Q (.ref p) H1) : NewL xs H Q := ⟨sz_le h, fun p hp => q p _ hp rfl⟩
theorem newt (h : xs.length ≤ 10000000) (q : ∀ p H1, H p = none → H1 = upd H p (.tup xs) → Q (.ref p) H1) : NewT xs H Q := ⟨sz_le h, fun p hp => q p _ hp rfl⟩
/-- a new object that is read and dropped: all that is known of the heap behind it is that the old stands -/
theorem newl_s (h : xs.length ≤ 10000000) (q : ∀ p H1, H p = none → Same H H1 → H1 p = some (.lst xs) → Q (.ref p) H1) : NewL xs H Q := ⟨sz_le h, fun p hp => q p _ hp (fun b o e => by rw [upd_ne (ne_of_none e hp)]; exact e) upd_same⟩
theorem newt_s (h : xs.length ≤ 10000000) (q : ∀ p H1, H p = none → Same H H1 → H1 p = some (.tup xs) → Q (.ref p) H1) : NewT xs H Q := ⟨sz_le h, fun p hp => q p _ hp (fun b o e => by rw [upd_ne (ne_of_none e hp)]; exact e) upd_same⟩
theorem rd_ixL {i : Int} (h : SqL K H p xs) (e : atI xs i = some v) (q : Q v H) : rIxL K (.ref p) (.int i) H Q := ⟨p, xs, i, v, rfl, rfl, h, e, q⟩
theorem rd_ixT {i : Int} (h : SqT K H p xs) (e : atI xs i = some v) (q : Q v H) : rIxT K (.ref p) (.int i) H Q := ⟨p, xs, i, v, rfl, rfl, h, e, q⟩
theorem at_mem {i : Int} (h0 : 0 ≤ i) (h1 : i < xs.length) : ∃ v, atI xs i = some v ∧ v ∈ xs := by
  obtain ⟨j, rfl⟩ : ∃ j : Nat, i = (j : Int) := ⟨i.toNat, by omega⟩
  have hj : j < xs.length := by omega
  exact ⟨xs[j], atI_nat (List.getElem?_eq_getElem hj), List.getElem_mem hj⟩
def isI : V → Bool
  | .int _ => true
  | _ => false
theorem at_int {i : Int} (h0 : 0 ≤ i) (h1 : i < xs.length) (hx : xs.all isI = true) : ∃ z, atI xs i = some (V.int z) := by
  obtain ⟨v, e, m⟩ := at_mem h0 h1
  have q := List.all_eq_true.mp hx v m
  cases v <;> first | exact ⟨_, e⟩ | exact absurd q Bool.false_ne_true
/-- an item of a menu of ints, the menu laid and dropped -/
theorem rd_menu {i : Int} (h : SqL K H p xs) (hi : 0 ≤ i ∧ i < xs.length) (hx : xs.all isI = true) (q : ∀ z, V.int z ∈ xs → Q (.int z) H) : rIxL K (.ref p) (.int i) H Q := by
  obtain ⟨v, e, m⟩ := at_mem hi.1 hi.2
  have z := List.all_eq_true.mp hx v m
  cases v with
  | int z0 => exact rd_ixL h e (q z0 m)
  | _ => exact absurd z Bool.false_ne_true
theorem Same.rd {H H' : Hp} {p : Addr} {o : HO} (s : Same H H') (h : H p = some o) : H' p = some o := s p o h
theorem Same.upd {H : Hp} {p : Addr} {o : HO} (h : H p = none) : Same H (L2.upd H p o) := fun b u e => by rw [upd_ne (ne_of_none e h)]; exact e
end
/-! ### bundles: a def, a method, a class that is made -/
section
variable (P : Program) (w : World) (K : PySem.W.Frag) (mg : Str → Option Value) (base : Heap)
def FnB (CX : CXT) (k : Nat) (x : Str) (ps : List Str) (sp : Sp) : Prop := ∃ f fd, FnOk P w K mg base CX k f fd ps sp ∧ mg x = some (.ref f) ∧ PySem.W.keepIn K (.ref f) = true ∧ Binds K fd ps []
def MtB (CX : CXT) (k : Nat) (C : Addr) (m : Str) (ps : List Str) (sp : Sp) : Prop := ∃ f fd, FnOk P w K mg base CX k f fd ps sp ∧ Meth K C m f ∧ Binds K fd ps []
def MkB (CX : CXT) (k : Nat) (x : Str) (C : Addr) (ps : List Str) (sp : Sp) : Prop := ∃ f fd, FnOk P w K mg base CX k f fd ps sp ∧ Mk K C f ∧ mg x = some (.ref C) ∧ Binds K fd ps []
end
/-- what the top has written of an own error class -/
structure ExT (K : PySem.W.Frag) (mg : Str → Option Value) (x : Str) (C : Addr) : Prop where
  g : mg x = some (.ref C)
  k : PySem.W.keepIn K (.ref C) = true
  q : PySem.W.excIn K C [.type "ValueError", .type "Exception", .type "BaseException", .type "object"] "ValueError.__new__" = true
  sb : PySem.W.subIn K (.ref C) (.type "BaseException") = some true
  ty : PySem.W.typeIn K (.ref C) = some (.type "type")
  ec : ExcC K C
def Kp (p : Addr) (H H' : Hp) : Prop := ∀ b o, b ≠ p → H b = some o → H' b = some o
theorem kp_upd {p : Addr} {H : Hp} {o : HO} : Kp p H (upd H p o) := fun b u hb e => by rw [upd_ne hb]; exact e
theorem Kp.trans {p : Addr} {H H1 H2 : Hp} (a : Kp p H H1) (b : Kp p H1 H2) : Kp p H H2 := fun c o hc e => b c o hc (a c o hc e)
theorem Same.kp {p : Addr} {H H' : Hp} (s : Same H H') : Kp p H H' := fun b o _ e => s b o e
section
variable {K : PySem.W.Frag} {H : Hp} {Q : VK}
theorem rd_isi {x c : V} {t u : Value} {b : Bool} (k : ClsV c u) (ty : TyX K H x t) (e : PySem.W.kitOne K t u = some b) (q : Q (.bl b) H) : rIsi K [x, c] H Q := ⟨x, c, t, u, b, rfl, k, ty, e, q⟩
theorem rd_isX {a D : Addr} {c : V} {u : Value} {b : Bool} (k : ClsV c u) (h : H a = some (ExK (.ref D) a)) (ec : ExcC K D) (e : PySem.W.kitOne K (.ref D) u = some b) (q : Q (.bl b) H) : rIsX K [.ref a, c] H Q := ⟨a, D, c, u, b, rfl, k, h, ec, e, q⟩
theorem rd_isXT {a D tp : Addr} {cs : List V} {us : List Value} {b : Bool} (ht : H tp = some (.tup cs)) (k : Paired ClsV cs us) (h : H a = some (ExK (.ref D) a)) (ec : ExcC K D) (e : PySem.W.kitAny K (.ref D) us = some b) (q : Q (.bl b) H) : rIsXT K [.ref a, .ref tp] H Q := ⟨a, D, tp, cs, us, b, rfl, ht, k, h, ec, e, q⟩
def rIsNo : R2 := fun x y H Q => y = .non ∧ Q (.bl (decide (x = .non))) H
def rNotNo : R2 := fun x y H Q => y = .non ∧ Q (.bl (!decide (x = .non))) H
theorem rd_isno {x : V} (q : Q (.bl (decide (x = .non))) H) : rIsNo x .non H Q := ⟨rfl, q⟩
theorem rd_notno {x : V} (q : Q (.bl (!decide (x = .non))) H) : rNotNo x .non H Q := ⟨rfl, q⟩
theorem rd_isnoR {a : Addr} (q : Q (.bl false) H) : rIsNo (.ref a) .non H Q := ⟨rfl, q⟩
theorem rd_notnoR {a : Addr} (q : Q (.bl true) H) : rNotNo (.ref a) .non H Q := ⟨rfl, q⟩
theorem rd_isnoN (q : Q (.bl true) H) : rIsNo .non .non H Q := ⟨rfl, q⟩
theorem rd_notnoN (q : Q (.bl false) H) : rNotNo .non .non H Q := ⟨rfl, q⟩
theorem rd_isnoI {i : Int} (q : Q (.bl false) H) : rIsNo (.int i) .non H Q := ⟨rfl, q⟩
theorem rd_notnoI {i : Int} (q : Q (.bl true) H) : rNotNo (.int i) .non H Q := ⟨rfl, q⟩
end
section
variable {X : Cx}
theorem op_isno : OpR X (compareOp .Is) rIsNo := op_isN
theorem op_notno : OpR X (compareOp .IsNot) rNotNo := op_notN
end
section
variable {σ : L2.St} {H : Hp} {Q : VK} {ta : TE} {tA : TA}
theorem rd_call0 {sp : Sp} {E : XK} (h : tA σ H fun vs H1 => sp vs H1 Q E) : tCall sp [] E tA σ H Q := by
  have e : (fun (vs : List V) (H1 : Hp) => sp (vs ++ []) H1 Q E) = fun vs H1 => sp vs H1 Q E := by
    funext vs H1
    rw [List.append_nil]
  show tA σ H fun vs H1 => sp (vs ++ []) H1 Q E
  rw [e]
  exact h
theorem rd_meth0 {C : Addr} {m : Str} {sp : Sp} {E : XK} (h : ta σ H fun x H1 => MthK C m x H1 (tA σ H1 fun vs H2 => sp (x :: vs) H2 Q E)) : tMeth C m sp [] E ta tA σ H Q := by
  have e : (fun (x : V) (H1 : Hp) => MthK C m x H1 (tA σ H1 fun vs H2 => sp (x :: (vs ++ [])) H2 Q E)) = fun x H1 => MthK C m x H1 (tA σ H1 fun vs H2 => sp (x :: vs) H2 Q E) := by
    funext x H1
    simp only [List.append_nil]
  show ta σ H fun x H1 => MthK C m x H1 (tA σ H1 fun vs H2 => sp (x :: (vs ++ [])) H2 Q E)
  rw [e]
  exact h
theorem rd_make0 {C : Addr} {sp : Sp} {E : XK} (h : tA σ H fun vs H1 => ∀ x dx, H1 x = none → H1 dx = none → dx ≠ x → sp (.ref x :: vs) (upd (upd H1 dx (.own x)) x (.ins C dx [])) (fun v H2 => v = .non ∧ Q (.ref x) H2) E) : tMake C sp [] E tA σ H Q := by
  have e : (fun (vs : List V) (H1 : Hp) => ∀ x dx, H1 x = none → H1 dx = none → dx ≠ x → sp (.ref x :: (vs ++ [])) (upd (upd H1 dx (.own x)) x (.ins C dx [])) (fun v H2 => v = .non ∧ Q (.ref x) H2) E) =
    fun vs H1 => ∀ x dx, H1 x = none → H1 dx = none → dx ≠ x → sp (.ref x :: vs) (upd (upd H1 dx (.own x)) x (.ins C dx [])) (fun v H2 => v = .non ∧ Q (.ref x) H2) E := by
    funext vs H1
    simp only [List.append_nil]
  show tA σ H _
  rw [← e] at h
  exact h
end
theorem hp_ne {H : Hp} {a b : Addr} {o : HO} {u : Option HO} (hne : a ≠ b) (hh : H a = u) : L2.upd H b o a = u := (upd_ne hne).trans hh
theorem hp_same {H H' : Hp} {p : Addr} {o : HO} (hs : Same H H') (hh : H p = some o) : H' p = some o := hs p o hh
theorem sq_l {K : PySem.W.Frag} {H : Hp} {a : Addr} {xs : List V} (hh : H a = some (.lst xs)) : SqL K H a xs := SqL.of hh
theorem sq_t {K : PySem.W.Frag} {H : Hp} {a : Addr} {xs : List V} (hh : H a = some (.tup xs)) : SqT K H a xs := SqT.of hh
theorem sq_s {K : PySem.W.Frag} {H H' : Hp} {a : Addr} {xs : List V} (hs : Same H H') (hh : SqL K H a xs) : SqL K H' a xs := hs.seq hh
theorem ne_n1 {H : Hp} {a b : Addr} {o : HO} (h1 : H a = some o) (h2 : H b = none) : a ≠ b := ne_of_none h1 h2
theorem ne_n2 {H : Hp} {a b : Addr} {o : HO} (h1 : H a = some o) (h2 : H b = none) : b ≠ a := (ne_of_none h1 h2).symm
/-! ### isinstance of an own class's instance: the answers -/
theorem kit_self {K : PySem.W.Frag} {C : Addr} : PySem.W.kitOne K (.ref C) (.ref C) = some true := by
  unfold PySem.W.kitOne
  rw [if_pos (beq_self_eq_true _)]
theorem kit_type {K : PySem.W.Frag} {C : Addr} {T : String} {b : Bool} (hm : PySem.W.kitMeta T = true) (h : PySem.W.subIn K (.ref C) (.type T) = some b) : PySem.W.kitOne K (.ref C) (.type T) = some b := by
  unfold PySem.W.kitOne
  rw [if_neg (by simp)]
  show (if PySem.W.kitMeta T = true then PySem.W.subIn K (.ref C) (.type T) else none) = some b
  rw [if_pos hm]
  exact h
theorem kit_ref {K : PySem.W.Frag} {C D : Addr} {b : Bool} (hd : (Value.ref C == Value.ref D) = false) (hc : PySem.W.hasDictIn K D = true) (ht : PySem.W.typeIn K (.ref D) = some (.type "type")) (h : PySem.W.subIn K (.ref C) (.ref D) = some b) : PySem.W.kitOne K (.ref C) (.ref D) = some b := by
  unfold PySem.W.kitOne
  rw [if_neg (by rw [hd]; exact Bool.false_ne_true)]
  obtain ⟨cd, hcd, _⟩ := PySem.W.any_some hc
  have e2 : ((PySem.W.clsIn K D).isSome && PySem.W.typeIn K (.ref D) == some (.type "type")) = true := by rw [hcd, ht] <;> rfl
  show (if ((PySem.W.clsIn K D).isSome && PySem.W.typeIn K (.ref D) == some (.type "type")) = true then PySem.W.subIn K (.ref C) (.ref D) else none) = some b
  rw [if_pos e2]
  exact h
theorem kit_none3 {K : PySem.W.Frag} {t a b c : Value} (h1 : PySem.W.kitOne K t a = some false) (h2 : PySem.W.kitOne K t b = some false) (h3 : PySem.W.kitOne K t c = some false) : PySem.W.kitAny K t [a, b, c] = some false :=
  kitAny_cons h1 (fun _ => kitAny_cons h2 (fun _ => kitAny_cons h3 (fun _ => kitAny_nil) (fun z => nomatch z)) (fun z => nomatch z)) (fun z => nomatch z)
/-! ### pairs of whole numbers compared -/
section
variable {X : Cx} {K : PySem.W.Frag} {H : Hp} {Q : VK}
def PairAt (K : PySem.W.Frag) (H : Hp) (a : Addr) (i j : Int) : Prop := SqT K H a [.int i, .int j]
def rPair (K : PySem.W.Frag) (f : Int → Int → Int → Int → Bool) : R2 := fun x y H Q => ∃ (a b : Addr) (i j k l : Int), x = .ref a ∧ y = .ref b ∧ PairAt K H a i j ∧ PairAt K H b k l ∧ Q (.bl (f i j k l)) H
def fLtP (i j k l : Int) : Bool := decide (i < k ∨ i = k ∧ j < l)
def fGeP (i j k l : Int) : Bool := decide (¬ (i < k ∨ i = k ∧ j < l))
def fEqP (i j k l : Int) : Bool := decide (i = k ∧ j = l)
def fNeP (i j k l : Int) : Bool := !decide (i = k ∧ j = l)
theorem op_ltP (hu : X.A.units < cLine) : OpR X (compareOp .Lt) (rPair X.K fLtP) := by
  intro pins s σ H x y v u Q I rx ry h
  obtain ⟨a, b, i, j, k, l, rfl, rfl, ha, hb, q⟩ := h
  refine op_ltT hu pins s σ H _ _ v u Q I rx ry ⟨a, b, [i, j], [k, l], rfl, rfl, ha, hb, ?_⟩
  have e : HT.lexLt [i, j] [k, l] = fLtP i j k l := by
    rw [HT.lexLt_cons, HT.lexLt_cons, HT.lexLt_nil_nil]
    unfold fLtP
    by_cases h1 : i = k
    · rw [if_pos h1]
      by_cases h2 : j = l
      · rw [if_pos h2]; exact (decide_eq_false (by omega)).symm
      · rw [if_neg h2]
        by_cases h3 : j < l
        · rw [decide_eq_true h3]; exact (decide_eq_true (by omega)).symm
        · rw [decide_eq_false h3]; exact (decide_eq_false (by omega)).symm
    · rw [if_neg h1]
      by_cases h3 : i < k
      · rw [decide_eq_true h3]; exact (decide_eq_true (by omega)).symm
      · rw [decide_eq_false h3]; exact (decide_eq_false (by omega)).symm
  rw [e]
  exact q
theorem op_geP (hu : X.A.units < cLine) : OpR X (compareOp .GtE) (rPair X.K fGeP) := by
  intro pins s σ H x y v u Q I rx ry h
  obtain ⟨a, b, i, j, k, l, rfl, rfl, ha, hb, q⟩ := h
  cases rx
  cases ry
  obtain ⟨its, r1, p1, _⟩ := I.tuple ha
  obtain ⟨its2, r2, p2, _⟩ := I.tuple hb
  obtain ⟨u1, u2, rfl, e1, e2⟩ := vals2 r1
  obtain ⟨w1, w2, rfl, f1, f2⟩ := vals2 r2
  obtain ⟨t1, rfl⟩ := e1
  obtain ⟨t2, rfl⟩ := e2
  obtain ⟨t3, rfl⟩ := f1
  obtain ⟨t4, rfl⟩ := f2
  have R := Ob.RcOp.tuples_ge (A := X.A) (s := s) (e := fun n => match n with | 0 => i == k | _ => j == l) (r := fun n => match n with | 0 => decide (k ≤ i) | _ => decide (l ≤ j)) p1 p2 hu (fun n h1 h2 => by
    match n, h1 with
    | 0, _ => exact SeqAt.EqAt.int_int _ _ _ _
    | 1, _ => exact SeqAt.EqAt.int_int _ _ _ _
    | n + 2, h1 => exact absurd h1 (by simp)) (fun n h1 h2 _ => by
    match n, h1 with
    | 0, _ => exact Ob.RcOp.ge_int _ _ _ _
    | 1, _ => exact Ob.RcOp.ge_int _ _ _ _
    | n + 2, h1 => exact absurd h1 (by simp))
  have e : (Ob.lexAt (fun n => match n with | 0 => i == k | _ => j == l) (fun n => match n with | 0 => decide (k ≤ i) | _ => decide (l ≤ j)) true 0 2) = fGeP i j k l := by
    show (if (i == k) = true then (if (j == l) = true then true else decide (l ≤ j)) else decide (k ≤ i)) = fGeP i j k l
    unfold fGeP
    by_cases h1 : i = k
    · rw [if_pos (beq_iff_eq.mpr h1)]
      by_cases h2 : j = l
      · rw [if_pos (beq_iff_eq.mpr h2)]; exact (decide_eq_true (by omega)).symm
      · rw [if_neg (fun z => h2 (beq_iff_eq.mp z))]
        by_cases h3 : l ≤ j
        · rw [decide_eq_true h3]; exact (decide_eq_true (by omega)).symm
        · rw [decide_eq_false h3]; exact (decide_eq_false (by omega)).symm
    · rw [if_neg (fun z => h1 (beq_iff_eq.mp z))]
      by_cases h3 : k ≤ i
      · rw [decide_eq_true h3]; exact (decide_eq_true (by omega)).symm
      · rw [decide_eq_false h3]; exact (decide_eq_false (by omega)).symm
  have R' : wpAny (model X.prog X.w) X.A (compareOp .GtE (.ref a) (.ref b)) (EP X pins σ Q) X.xe s := R X.prog X.w X.xe (EP X pins σ Q) ⟨.bl _, H, I, rfl, by
    have z : (Ob.lexAt (fun n => match n with | 0 => i == k | _ => j == l) (fun n => match n with | 0 => decide (k ≤ i) | _ => decide (l ≤ j)) true 0 2) = fGeP i j k l := e
    exact z ▸ q⟩
  exact R'
theorem eqv_pair {i j k l : Int} : PyData.eqv (.tuple [.int i, .int j]) (.tuple [.int k, .int l]) = fEqP i j k l := by
  show ((i == k) && ((j == l) && true)) = fEqP i j k l
  unfold fEqP
  by_cases h1 : i = k <;> by_cases h2 : j = l <;> simp [h1, h2]
theorem op_eqP (hu : X.A.units + 64 < cLine) : OpR X (compareOp .Eq) (rPair X.K fEqP) := by
  intro pins s σ H x y v u Q I rx ry h
  obtain ⟨a, b, i, j, k, l, rfl, rfl, ha, hb, q⟩ := h
  exact op_eqD hu pins s σ H _ _ v u Q I rx ry ⟨.tuple [.int i, .int j], .tuple [.int k, .int l], .tup ha (.cons (.int i) (.cons (.int j) .nil)), .tup hb (.cons (.int k) (.cons (.int l) .nil)), rfl, rfl, by rw [eqv_pair]; exact q⟩
theorem op_neP (hu : X.A.units + 64 < cLine) : OpR X (compareOp .NotEq) (rPair X.K fNeP) := by
  intro pins s σ H x y v u Q I rx ry h
  obtain ⟨a, b, i, j, k, l, rfl, rfl, ha, hb, q⟩ := h
  exact op_neD hu pins s σ H _ _ v u Q I rx ry ⟨.tuple [.int i, .int j], .tuple [.int k, .int l], .tup ha (.cons (.int i) (.cons (.int j) .nil)), .tup hb (.cons (.int k) (.cons (.int l) .nil)), rfl, rfl, by rw [eqv_pair]; exact q⟩
theorem rd_pair {f : Int → Int → Int → Int → Bool} {a b : Addr} {i j k l : Int} (h1 : H a = some (.tup [.int i, .int j])) (h2 : H b = some (.tup [.int k, .int l])) (q : Q (.bl (f i j k l)) H) : rPair K f (.ref a) (.ref b) H Q := ⟨a, b, i, j, k, l, rfl, rfl, SqT.of h1, SqT.of h2, q⟩
theorem bif_lt {i j k l : Int} {A B : Prop} (h1 : (i < k ∨ i = k ∧ j < l) → A) (h2 : ¬ (i < k ∨ i = k ∧ j < l) → B) : BIf (fLtP i j k l) A B := bif_d h1 h2
theorem bif_geP {i j k l : Int} {A B : Prop} (h1 : ¬ (i < k ∨ i = k ∧ j < l) → A) (h2 : (i < k ∨ i = k ∧ j < l) → B) : BIf (fGeP i j k l) A B := bif_d h1 fun z => h2 (Decidable.not_not.mp z)
theorem bif_eqP {i j k l : Int} {A B : Prop} (h1 : (i = k ∧ j = l) → A) (h2 : ¬ (i = k ∧ j = l) → B) : BIf (fEqP i j k l) A B := bif_d h1 h2
theorem bif_neP {i j k l : Int} {A B : Prop} (h1 : ¬ (i = k ∧ j = l) → A) (h2 : (i = k ∧ j = l) → B) : BIf (fNeP i j k l) A B := bif_nd h2 h1
/-! scalars -/
theorem rd_eqI {i j : Int} (q : Q (.bl (decide (i = j))) H) : rEq (.int i) (.int j) H Q := ⟨rfl, by
  have e : decide (V.int i = V.int j) = decide (i = j) := by simp
  rw [e]; exact q⟩
theorem rd_neI {i j : Int} (q : Q (.bl (!decide (i = j))) H) : rNe (.int i) (.int j) H Q := ⟨rfl, by
  have e : decide (V.int i = V.int j) = decide (i = j) := by simp
  rw [e]; exact q⟩
theorem rd_eqNI {i : Int} (q : Q (.bl false) H) : rEq .non (.int i) H Q := ⟨rfl, q⟩
theorem rd_eqIN {i : Int} (q : Q (.bl false) H) : rEq (.int i) .non H Q := ⟨rfl, q⟩
theorem rd_neNI {i : Int} (q : Q (.bl true) H) : rNe .non (.int i) H Q := ⟨rfl, q⟩
theorem rd_neIN {i : Int} (q : Q (.bl true) H) : rNe (.int i) .non H Q := ⟨rfl, q⟩
theorem rd_eqB {i j : Bool} (q : Q (.bl (i == j)) H) : rEq (.bl i) (.bl j) H Q := ⟨rfl, by
  have e : decide (V.bl i = V.bl j) = (i == j) := by cases i <;> cases j <;> rfl
  rw [e]; exact q⟩
theorem rd_neB {i j : Bool} (q : Q (.bl (i != j)) H) : rNe (.bl i) (.bl j) H Q := ⟨rfl, by
  have e : (!decide (V.bl i = V.bl j)) = (i != j) := by cases i <;> cases j <;> rfl
  rw [e]; exact q⟩
end
/-! ### terms -/
structure Tm where
  low : Int
  high : Int
  len : Int
  kn : Int
def Tm.ok (T : Tm) : Prop := (1 ≤ T.low ∧ T.low ≤ T.high ∧ T.high ≤ 1000) ∧ (1 ≤ T.len ∧ T.len ≤ 1000000) ∧ 1 ≤ T.kn ∧ T.kn ≤ 9
def Tm.ticks (T : Tm) : Int := (T.len + T.low - 1) / T.low
def Tm.wait (T : Tm) : Int := T.high * T.ticks
def Tm.most (T : Tm) : Int := T.kn / 2 + 1
theorem Tm.ticks_ok {T : Tm} (h : T.ok) : T.len ≤ T.ticks * T.low ∧ (T.ticks - 1) * T.low < T.len ∧ 1 ≤ T.ticks := by
  obtain ⟨⟨h1, h2, h3⟩, ⟨h4, h5⟩, _⟩ := h
  have e := Int.emod_add_mul_ediv (T.len + T.low - 1) T.low
  have r1 := Int.emod_nonneg (T.len + T.low - 1) (show T.low ≠ 0 by omega)
  have r2 := Int.emod_lt_of_pos (T.len + T.low - 1) (show 0 < T.low by omega)
  have q : T.ticks = (T.len + T.low - 1) / T.low := rfl
  rw [← q] at e
  have c : T.low * T.ticks = T.ticks * T.low := Int.mul_comm _ _
  have d : (T.ticks - 1) * T.low = T.ticks * T.low - T.low := by rw [Int.sub_mul, Int.one_mul]
  refine ⟨by omega, by omega, ?_⟩
  have z : 1 ≤ (T.len + T.low - 1) / T.low := (Int.le_ediv_iff_mul_le (by omega)).mpr (by omega)
  omega
theorem Tm.most_ok (T : Tm) : T.kn < 2 * T.most ∧ 2 * (T.most - 1) ≤ T.kn := by
  have e : T.most = T.kn / 2 + 1 := rfl
  rw [e]
  omega
def tf (T : Tm) : List (Str × V) := [("low", .int T.low), ("high", .int T.high), ("length", .int T.len), ("keepers", .int T.kn)]
structure TAt (C : Addr) (H : Hp) (t : Addr) (T : Tm) : Prop where
  ok : T.ok
  at_ : ∃ dx, H t = some (.ins C dx (tf T))
theorem TAt.most1 {C : Addr} {H : Hp} {t : Addr} {T : Tm} (_ : TAt C H t T) : T.kn < 2 * T.most := (Tm.most_ok T).1
theorem TAt.most2 {C : Addr} {H : Hp} {t : Addr} {T : Tm} (_ : TAt C H t T) : 2 * (T.most - 1) ≤ T.kn := (Tm.most_ok T).2
structure TTxt (K : PySem.W.Frag) (C : Addr) : Prop where
  cl : Cls K C
  n1 : NoAttr K C "low"
  n2 : NoAttr K C "high"
  n3 : NoAttr K C "length"
  n4 : NoAttr K C "keepers"
def spT0 (C : Addr) (f : Tm → Int) : Sp := fun vs H Q _ => ∃ t T, vs = [.ref t] ∧ TAt C H t T ∧ Q (.int (f T)) H
theorem spT0_use {C : Addr} {f : Tm → Int} {t : Addr} {T : Tm} {H : Hp} {Q : VK} {E : XK} (h : TAt C H t T) (q : Q (.int (f T)) H) : spT0 C f [.ref t] H Q E := ⟨t, T, rfl, h, q⟩
def spTI (C B : Addr) : Sp := fun vs H Q E => ∃ x dx T, vs = [.ref x, .int T.low, .int T.high, .int T.len, .int T.kn] ∧ H x = some (.ins C dx []) ∧
  (T.ok → ∀ H', TAt C H' x T → Kp x H H' → Q .non H') ∧ (¬ T.ok → E (.ref B) none H)
def spCell (K : PySem.W.Frag) : Sp := fun vs H Q _ => ∃ (a : Addr) (ns : List Int) (k : Int), vs = [.ref a, .int k] ∧ SqL K H a (ns.map V.int) ∧ ∀ z, Q (.int z) H
def spMix (K : PySem.W.Frag) : Sp := fun vs H Q _ => ∃ (a : Addr) (ns : List Int) (k : Int), vs = [.ref a, .int k] ∧ SqL K H a (ns.map V.int) ∧ ∀ m, 0 ≤ m → m < 4294967231 → Q (.int m) H
theorem spMix_use {K : PySem.W.Frag} {a : Addr} {ns : List Int} {k : Int} {H : Hp} {Q : VK} {E : XK} (h : SqL K H a (ns.map V.int)) (q : ∀ m, 0 ≤ m → m < 4294967231 → Q (.int m) H) : spMix K [.ref a, .int k] H Q E := ⟨a, ns, k, rfl, h, q⟩
theorem spT0_at {C : Addr} {f : Tm → Int} {t dx : Addr} {T : Tm} {H : Hp} {Q : VK} {E : XK} (ok : T.ok) (h : H t = some (.ins C dx (tf T))) (q : Q (.int (f T)) H) : spT0 C f [.ref t] H Q E := ⟨t, T, rfl, ⟨ok, dx, h⟩, q⟩
/-! ### keepers -/
structure KSt where
  clock : Int
  ends : Int
  own : Option (Int × Int × Int)
def kf (t : Addr) (c e : Int) (nm nu : V) : List (Str × V) := [("terms", .ref t), ("clock", .int c), ("ends", .int e), ("name", nm), ("number", nu)]
def OwnAt (H : Hp) (nm nu : V) : Option (Int × Int × Int) → Prop
  | none => nm = .non ∧ nu = .non
  | some (n, a, b) => nm = .int n ∧ ∃ q, nu = .ref q ∧ H q = some (.tup [.int a, .int b])
def KAt (C : Addr) (H : Hp) (p t : Addr) (s : KSt) : Prop := ∃ dx nm nu, H p = some (.ins C dx (kf t s.clock s.ends nm nu)) ∧ OwnAt H nm nu s.own
structure KTxt (K : PySem.W.Frag) (C : Addr) : Prop where
  cl : Cls K C
  n1 : NoAttr K C "terms"
  n2 : NoAttr K C "clock"
  n3 : NoAttr K C "ends"
  n4 : NoAttr K C "name"
  n5 : NoAttr K C "number"
theorem key_ne {C C' dx dx' : Addr} {a b : Str} {v v' : V} {l l' : List (Str × V)} (h : a ≠ b) : HO.ins C dx ((a, v) :: l) ≠ HO.ins C' dx' ((b, v') :: l') := by
  intro z
  injection z with _ _ z
  injection z with z _
  injection z with z _
  exact h z
theorem tk_ne {H : Hp} {t p CT dx CK dx' t' : Addr} {T : Tm} {c e : Int} {nm nu : V} (h1 : H t = some (.ins CT dx (tf T))) (h2 : H p = some (.ins CK dx' (kf t' c e nm nu))) : t ≠ p := ne_of h1 h2 (key_ne (by decide +kernel))
theorem qp_ne {H : Hp} {q p C dx : Addr} {xs : List V} {fs : List (Str × V)} (h1 : H q = some (.tup xs)) (h2 : H p = some (.ins C dx fs)) : q ≠ p := ne_of h1 h2 (by intro z; cases z)
theorem OwnAt.to {H H' : Hp} {nm nu : V} (h : ∀ q xs, H q = some (.tup xs) → H' q = some (.tup xs)) : ∀ {o : Option (Int × Int × Int)}, OwnAt H nm nu o → OwnAt H' nm nu o
  | none, x => x
  | some (n, a, b), ⟨e, q, e2, hq⟩ => ⟨e, q, e2, h q _ hq⟩
/-- the law's own keeper, asked; freed -/
def kAsk (wt c n a b : Int) (s : KSt) : KSt × Bool :=
  if c < s.ends then
    match s.own with
    | none => (⟨c, s.ends, none⟩, false)
    | some (n', a', b') =>
      if n = n' then
        if a < a' ∨ a = a' ∧ b < b' then (⟨c, s.ends, some (n', a', b')⟩, false)
        else if a = a' ∧ b = b' then (⟨c, s.ends, some (n', a', b')⟩, true)
        else (⟨c, c + wt, some (n, a, b)⟩, true)
      else (⟨c, s.ends, some (n', a', b')⟩, false)
  else (⟨c, c + wt, some (n, a, b)⟩, true)
def kFree (c n a b : Int) (s : KSt) : KSt :=
  match s.own with
  | none => ⟨c, s.ends, none⟩
  | some (n', a', b') => if n = n' ∧ ¬ (a < a' ∨ a = a' ∧ b < b') then ⟨c, min s.ends c, some (n', a', b')⟩ else ⟨c, s.ends, some (n', a', b')⟩
def kLet (c : Int) (s : KSt) : V := if c < s.ends then (match s.own with | none => .non | some (n, _, _) => .int n) else .non
def spLookK (C B : Addr) : Sp := fun vs H Q E => ∃ p dx t c0 e nm nu c, vs = [.ref p, .int c] ∧ H p = some (.ins C dx (kf t c0 e nm nu)) ∧ (c < c0 → E (.ref B) none H) ∧ (c0 ≤ c → Q .non (upd H p (.ins C dx (kf t c e nm nu))))
theorem spLookK_use {C B p dx t : Addr} {c0 e c : Int} {nm nu : V} {H : Hp} {Q : VK} {E : XK} (h : H p = some (.ins C dx (kf t c0 e nm nu))) (he : c < c0 → E (.ref B) none H) (q : c0 ≤ c → Q .non (upd H p (.ins C dx (kf t c e nm nu)))) : spLookK C B [.ref p, .int c] H Q E := ⟨p, dx, t, c0, e, nm, nu, c, rfl, h, he, q⟩
def spIsLet (C : Addr) : Sp := fun vs H Q _ => ∃ p dx t c0 e nm nu c, vs = [.ref p, .int c] ∧ H p = some (.ins C dx (kf t c0 e nm nu)) ∧ Q (.bl (decide (c < e))) H
theorem spIsLet_use {C p dx t : Addr} {c0 e c : Int} {nm nu : V} {H : Hp} {Q : VK} {E : XK} (h : H p = some (.ins C dx (kf t c0 e nm nu))) (q : Q (.bl (decide (c < e))) H) : spIsLet C [.ref p, .int c] H Q E := ⟨p, dx, t, c0, e, nm, nu, c, rfl, h, q⟩
def spKI (C CT : Addr) : Sp := fun vs H Q _ => ∃ x dx t T c, vs = [.ref x, .ref t, .int c] ∧ H x = some (.ins C dx []) ∧ TAt CT H t T ∧ ∀ H', KAt C H' x t ⟨c, c + T.wait, none⟩ → Kp x H H' → Q .non H'
def spAsked (C CT B : Addr) : Sp := fun vs H Q E => ∃ p t st T c n q a b, vs = [.ref p, .int c, .int n, .ref q] ∧ KAt C H p t st ∧ TAt CT H t T ∧ H q = some (.tup [.int a, .int b]) ∧ (c < st.clock → E (.ref B) none H) ∧
  (st.clock ≤ c → ∀ H', KAt C H' p t (kAsk T.wait c n a b st).1 → Kp p H H' → Q (.bl (kAsk T.wait c n a b st).2) H')
def spFreed (C B : Addr) : Sp := fun vs H Q E => ∃ p t st c n q a b, vs = [.ref p, .int c, .int n, .ref q] ∧ KAt C H p t st ∧ H q = some (.tup [.int a, .int b]) ∧ (c < st.clock → E (.ref B) none H) ∧
  (st.clock ≤ c → ∀ H', KAt C H' p t (kFree c n a b st) → Kp p H H' → Q .non H')
def spLetTo (C B : Addr) : Sp := fun vs H Q E => ∃ p t st c, vs = [.ref p, .int c] ∧ KAt C H p t st ∧ (c < st.clock → E (.ref B) none H) ∧ (st.clock ≤ c → ∀ H', KAt C H' p t ⟨c, st.ends, st.own⟩ → Kp p H H' → Q (kLet c st) H')
theorem made_same {H H' : Hp} {x dx C : Addr} (hx : H x = none) (hd : H dx = none) (k : Kp x (upd (upd H dx (.own x)) x (.ins C dx [])) H') : Same H H' := fun b o e =>
  k b o (ne_of_none e hx) (by rw [upd_ne (ne_of_none e hx), upd_ne (ne_of_none e hd)]; exact e)
/-! ### loops, methods of lists and dicts, displays: named readings -/
def ForK (J : It) (g : TG) (tb : TS) (D : Ends) (σ : L2.St) (H : Hp) : Prop := ∃ W : Nat → Nat → L2.St → Hp → Prop, (∃ m, W 0 m σ H) ∧ ∀ i m σ H, W i m σ H →
  (J.stop i H ∧ D.nx σ H) ∨ (J.go i H ∧ ∃ N : L2.St → Hp → Prop, (∀ σ' H', N σ' H' → ∃ m', m' < m ∧ W (i + 1) m' σ' H') ∧ ∀ x H', J.yld i H x H' → g x σ H' fun σ2 H2 => tb { D with nx := N, ct := N, bk := D.nx } σ2 H2)
def Rng1K (vs : List V) (H : Hp) (R : It → Hp → Prop) : Prop := ∃ j : Int, vs = [.int j] ∧ -(2 ^ 62) ≤ j ∧ j < 2 ^ 62 ∧ R (Itr 0 j.toNat) H
def WhB (W : Nat → L2.St → Hp → Prop) (m : Nat) (tb : TS) (n : L2.St → Hp → Prop) (rt : VK) (σ : L2.St) (H : Hp) : Prop := ∃ N : L2.St → Hp → Prop, (∀ σ' H', N σ' H' → ∃ m', m' < m ∧ W m' σ' H') ∧ tb ⟨N, rt, n, N⟩ σ H
def TyK (K : PySem.W.Frag) (T : String) (x : V) (H : Hp) (G : Prop) : Prop := tyV K T x H ∧ G
def DspK (p : Addr) (ps : List (V × V)) (H : Hp) (Q : VK) : Prop := H p = some (.dK []) ∧ ∃ kvs : List (Key × V), ps = kvs.map (fun kv => (kV kv.1, kv.2)) ∧ kvs.length ≤ 15 ∧ Q (.ref p) (upd H p (.dK (mergeK [] kvs)))
section
variable {K : PySem.W.Frag} {σ : L2.St} {H : Hp} {Q : VK} {QT : Bool → Hp → Prop} {ta tb tc te : TE} {t u : TT} {tA : TA} {p a b : Addr} {xs : List V} {x y v : V} {n : L2.St → Hp → Prop} {rt : VK} {bk ct : L2.St → Hp → Prop} {g : TG} {ts : TS}
theorem rd_for {wi : TI} (h : wi σ H fun J H1 => ForK J g ts ⟨n, rt, bk, ct⟩ σ H1) : tFor wi g ts ⟨n, rt, bk, ct⟩ σ H := h
theorem rd_rng1 {R : It → Hp → Prop} (h : tA σ H fun vs H1 => Rng1K vs H1 R) : iRng1 tA σ H R := h
theorem rng1 {j : Int} {R : It → Hp → Prop} (h0 : 0 ≤ j) (h1 : j < 1000000) (q : R (Itr 0 j.toNat) H) : Rng1K [.int j] H R := ⟨j, rfl, by omega, by omega, q⟩
theorem forR {lo : Int} {k : Nat} (Pv : Nat → L2.St → Hp → Prop) (h0 : Pv 0 σ H) (hs : ∀ i σ H, i < k → Pv i σ H → g (.int (lo + i)) σ H fun σ2 H2 => ts ⟨Pv (i + 1), rt, n, Pv (i + 1)⟩ σ2 H2) (hd : ∀ σ H, Pv k σ H → n σ H) :
    ForK (Itr lo k) g ts ⟨n, rt, bk, ct⟩ σ H := for_range (D := ⟨n, rt, bk, ct⟩) Pv h0 hs hd
theorem forL {xs : List V} (Pv : Nat → L2.St → Hp → Prop) (h0 : Pv 0 σ H) (hl : ∀ i σ H, i ≤ xs.length → Pv i σ H → SqL K H a xs) (hs : ∀ i x σ H, xs[i]? = some x → Pv i σ H → g x σ H fun σ2 H2 => ts ⟨Pv (i + 1), rt, n, Pv (i + 1)⟩ σ2 H2) (hd : ∀ σ H, Pv xs.length σ H → n σ H) :
    ForK (Itl K a) g ts ⟨n, rt, bk, ct⟩ σ H := for_list (D := ⟨n, rt, bk, ct⟩) Pv h0 hl hs hd
theorem forT {xs : List V} (Pv : Nat → L2.St → Hp → Prop) (h0 : Pv 0 σ H) (hl : ∀ i σ H, i ≤ xs.length → Pv i σ H → SqT K H a xs) (hs : ∀ i x σ H, xs[i]? = some x → Pv i σ H → g x σ H fun σ2 H2 => ts ⟨Pv (i + 1), rt, n, Pv (i + 1)⟩ σ2 H2) (hd : ∀ σ H, Pv xs.length σ H → n σ H) :
    ForK (Itt K a) g ts ⟨n, rt, bk, ct⟩ σ H := for_tup (D := ⟨n, rt, bk, ct⟩) Pv h0 hl hs hd
theorem rd_gname {i : Nat} {R : L2.St → Hp → Prop} (q : R (σ.set i (some v)) H) : gName i v σ H R := q
theorem rd_while (W : Nat → L2.St → Hp → Prop) (m0 : Nat) (h0 : W m0 σ H) (hs : ∀ m σ H, W m σ H → t σ H fun c H1 => BIf c (WhB W m ts n rt σ H1) (n σ H1)) : tWhile t ts ⟨n, rt, bk, ct⟩ σ H := ⟨W, ⟨m0, h0⟩, hs⟩
theorem whb {W : Nat → L2.St → Hp → Prop} {m : Nat} (h : ts ⟨fun σ' H' => ∃ m', m' < m ∧ W m' σ' H', rt, n, fun σ' H' => ∃ m', m' < m ∧ W m' σ' H'⟩ σ H) : WhB W m ts n rt σ H := ⟨_, fun _ _ z => z, h⟩
theorem rd_bm {T : String} {r : V → List V → Hp → VK → Prop} (h : ta σ H fun x H1 => TyK K T x H1 (tA σ H1 fun xs H2 => r x xs H2 Q)) : tBM K T r ta tA σ H Q := h
theorem rd_bm0 {T : String} {r : V → List V → Hp → VK → Prop} (h : ta σ H fun x H1 => TyK K T x H1 (r x [] H1 Q)) : tBM0 K T r ta σ H Q := h
theorem tyk_l {G : Prop} (h : SqL K H p xs) (q : G) : TyK K "list" (.ref p) H G := ⟨.inl ⟨rfl, xs, h⟩, q⟩
theorem tyk_dK {kvs : List (Key × V)} {G : Prop} (h : H p = some (.dK kvs)) (q : G) : TyK K "dict" (.ref p) H G := ⟨.inr (.inr (.inl ⟨rfl, .inl ⟨kvs, h⟩⟩)), q⟩
theorem tyk_dT {kvs : List (List Key × V)} {G : Prop} (h : H p = some (.dT kvs)) (q : G) : TyK K "dict" (.ref p) H G := ⟨.inr (.inr (.inl ⟨rfl, .inr ⟨kvs, h⟩⟩)), q⟩
theorem rd_append (h : H p = some (.lst xs)) (hl : xs.length < sizeLine) (q : Q .non (upd H p (.lst (xs ++ [y])))) : rAppend (.ref p) [y] H Q := ⟨p, xs, y, rfl, rfl, h, hl, q⟩
theorem rd_disp {trs : List (TE × TE)} (h : ∀ p, H p = none → tPairs trs σ (upd H p (.dK [])) fun ps H2 => DspK p ps H2 Q) : tDisp trs σ H Q := h
theorem rd_pn {R : List (V × V) → Hp → Prop} (q : R [] H) : tPairs [] σ H R := q
theorem rd_pc {R : List (V × V) → Hp → Prop} {trs : List (TE × TE)} (h : ta σ H fun x H1 => tb σ H1 fun y H2 => tPairs trs σ H2 fun ps H3 => R ((x, y) :: ps) H3) : tPairs ((ta, tb) :: trs) σ H R := h
theorem dspk {ps : List (V × V)} (kvs : List (Key × V)) {kvs' : List (Key × V)} (h : H p = some (.dK [])) (e : ps = kvs.map (fun kv => (kV kv.1, kv.2))) (hl : kvs.length ≤ 15) (em : mergeK [] kvs = kvs') (q : Q (.ref p) (upd H p (.dK kvs'))) : DspK p ps H Q := ⟨h, kvs, e, hl, em ▸ q⟩
theorem rd_dnewK (h : ∀ p, H p = none → Q (.ref p) (upd H p (.dK []))) : tDNewK σ H Q := h
theorem rd_dnewT (h : ∀ p, H p = none → Q (.ref p) (upd H p (.dT []))) : tDNewT σ H Q := h
theorem rd_neD {d e : PyData} (h1 : Dp K H x d) (h2 : Dp K H y e) (s1 : SeqAt.shaped d = true) (s2 : SeqAt.shaped e = true) (q : Q (.bl (!PyData.eqv d e)) H) : rNeD K x y H Q := ⟨d, e, h1, h2, s1, s2, q⟩
end
/-- d.update(d2) -/
def rUpdK : V → List V → Hp → VK → Prop := fun x xs H Q => ∃ (a b : Addr) (kvs more : List (Key × V)), x = .ref a ∧ xs = [.ref b] ∧ H a = some (.dK kvs) ∧ H b = some (.dK more) ∧ a ≠ b ∧ kvs.length + more.length ≤ sizeLine ∧ Q .non (upd H a (.dK (mergeK kvs more)))
theorem mt_updateK {X : Cx} : MtR X "dict.update" rUpdK := by
  intro pins s σ H x xs v us Q I rx rxs h
  obtain ⟨a, b, kvs, more, rfl, rfl, ha, hb, hne, hl, q⟩ := h
  cases rx
  obtain ⟨u, rfl, r1⟩ := vals1 rxs
  cases r1
  obtain ⟨_, hd, vs, rel, dd⟩ := dk_of I.hok ha
  obtain ⟨_, hd2, ws, rel2, dd2⟩ := dk_of I.hok hb
  have hz : vs.length + ws.length ≤ sizeLine := by rw [← rel.length, ← rel2.length]; exact hl
  refine call_meetsIn PySem.F.slot_dict_update dd.typeIs PySem.F.entry_dict_update (PySem.F.args_dict_update_2 _ _) (PySem.meets_dict_update (mixKind X.prog X.w) a b hne hd2) ⟨vs, ws, dd, dd2, hz, fun h' dd' _ hs => ?_⟩
  have he : ∃ q, h'.get? a = some q := let ⟨q, _, _, hq, _⟩ := dd'; ⟨q, hq⟩
  exact ⟨.non, _, d_write I (t' := s.toks) (by rw [ha]; exact True.intro) hs he (dk_new (Nat.le_trans (length_mergeK more kvs) hl) hd (rel2.merge rel) dd'), rfl, q⟩
theorem rd_updK {a b : Addr} {kvs more kvs' : List (Key × V)} {H : Hp} {Q : VK} (h1 : H a = some (.dK kvs)) (h2 : H b = some (.dK more)) (hne : a ≠ b) (hl : kvs.length + more.length ≤ sizeLine) (e : mergeK kvs more = kvs') (q : Q .non (upd H a (.dK kvs'))) : rUpdK (.ref a) [.ref b] H Q := ⟨a, b, kvs, more, rfl, rfl, h1, h2, hne, hl, e ▸ q⟩
/-! ### the law's terms, its wait -/
def spTerms (K : PySem.W.Frag) : Sp := fun vs H Q _ => ∃ (a : Addr) (ns : List Int) (k : Int), vs = [.ref a, .int k] ∧ SqL K H a (ns.map V.int) ∧
  ∀ p H' T, Tm.ok T → T.high ≤ 5 → T.len ≤ 12 → T.kn ≤ 5 → Same H H' → H p = none → H' p = some (.tup [.int T.low, .int T.high, .int T.len, .int T.kn]) → Q (.ref p) H'
theorem spTerms_use {K : PySem.W.Frag} {a : Addr} {ns : List Int} {k : Int} {H : Hp} {Q : VK} {E : XK} (h : SqL K H a (ns.map V.int))
    (q : ∀ p H' T, Tm.ok T → T.high ≤ 5 → T.len ≤ 12 → T.kn ≤ 5 → Same H H' → H p = none → H' p = some (.tup [.int T.low, .int T.high, .int T.len, .int T.kn]) → Q (.ref p) H') : spTerms K [.ref a, .int k] H Q E := ⟨a, ns, k, rfl, h, q⟩
def spWait : Sp := fun vs H Q _ => ∃ p T, vs = [.ref p] ∧ H p = some (.tup [.int (Tm.low T), .int T.high, .int T.len, .int T.kn]) ∧ T.ok ∧ T.high ≤ 5 ∧ T.len ≤ 12 ∧ Q (.int T.wait) H
theorem spWait_use {p : Addr} {T : Tm} {H : Hp} {Q : VK} {E : XK} (h : H p = some (.tup [.int T.low, .int T.high, .int T.len, .int T.kn])) (ok : T.ok) (h5 : T.high ≤ 5) (hl : T.len ≤ 12) (q : Q (.int T.wait) H) : spWait [.ref p] H Q E := ⟨p, T, rfl, h, ok, h5, hl, q⟩
theorem Tm.ticks_is {T : Tm} (h : T.ok) {k : Int} (h1 : (k - 1) * T.low < T.len) (h2 : T.len ≤ k * T.low) : k = T.ticks := by
  obtain ⟨t1, t2, t3⟩ := Tm.ticks_ok h
  have l0 : 0 ≤ T.low := by have := h.1.1; omega
  by_cases a : k ≤ T.ticks - 1
  · have := Int.mul_le_mul_of_nonneg_right a l0
    omega
  · by_cases b : T.ticks ≤ k - 1
    · have := Int.mul_le_mul_of_nonneg_right b l0
      omega
    · omega
theorem same_none {H H' : Hp} {p : Addr} (hs : Same H H') (hh : H' p = none) : H p = none := hs.free hh
theorem rd_intB' {H : Hp} {Q : VK} {k : Bool} (q : ∀ z, 0 ≤ z → z ≤ 1 → (k = false → z = 0) → Q (.int z) H) : rInt1 [.bl k] H Q := .inr ⟨k, rfl, by
  cases k
  · exact q 0 (by omega) (by omega) (fun _ => rfl)
  · exact q 1 (by omega) (by omega) (fun z => nomatch z)⟩
/-! ### what stands when one object changes -/
theorem tup_kp {H H' : Hp} {p : Addr} {o : HO} (hp : H p = some o) (ho : ∀ xs, o ≠ .tup xs) (k : Kp p H H') : ∀ q xs, H q = some (.tup xs) → H' q = some (.tup xs) := fun q xs e => k q _ (ne_of e hp (fun z => ho xs z.symm)) e
theorem sql_kp {K : PySem.W.Frag} {H H' : Hp} {p a : Addr} {o : HO} {xs : List V} (hp : H p = some o) (h1 : ∀ xs, o ≠ .lst xs) (h2 : ∀ ob u, o ≠ .frz ob u) (k : Kp p H H') (h : SqL K H a xs) : SqL K H' a xs := by
  rcases h with (h | ⟨ob, h⟩) | h
  · exact .inl (.inl (k a _ (ne_of h hp (fun z => h1 _ z.symm)) h))
  · exact .inl (.inr ⟨ob, k a _ (ne_of h hp (fun z => h2 _ _ z.symm)) h⟩)
  · exact .inr h
theorem ins_lst {C dx : Addr} {fs : List (Str × V)} : ∀ xs, HO.ins C dx fs ≠ .lst xs := fun _ z => by cases z
theorem ins_frz {C dx : Addr} {fs : List (Str × V)} : ∀ ob u, HO.ins C dx fs ≠ .frz ob u := fun _ _ z => by cases z
theorem ins_tup {C dx : Addr} {fs : List (Str × V)} : ∀ xs, HO.ins C dx fs ≠ .tup xs := fun _ z => by cases z
theorem dk_lst {kvs : List (Key × V)} : ∀ xs, HO.dK kvs ≠ .lst xs := fun _ z => by cases z
theorem dk_frz {kvs : List (Key × V)} : ∀ ob u, HO.dK kvs ≠ .frz ob u := fun _ _ z => by cases z
theorem dk_tup {kvs : List (Key × V)} : ∀ xs, HO.dK kvs ≠ .tup xs := fun _ z => by cases z
theorem KAt.same {C p t : Addr} {H H' : Hp} {st : KSt} (s : Same H H') : KAt C H p t st → KAt C H' p t st := fun ⟨dx, nm, nu, h, o⟩ => ⟨dx, nm, nu, s _ _ h, o.to fun q xs e => s q _ e⟩
theorem TAt.same {C t : Addr} {H H' : Hp} {T : Tm} (s : Same H H') : TAt C H t T → TAt C H' t T := fun ⟨ok, dx, h⟩ => ⟨ok, dx, s _ _ h⟩
theorem TAt.kp {C t p : Addr} {H H' : Hp} {T : Tm} (hne : t ≠ p) (k : Kp p H H') : TAt C H t T → TAt C H' t T := fun ⟨ok, dx, h⟩ => ⟨ok, dx, k _ _ hne h⟩
theorem KAt.kp {C t p d : Addr} {H H' : Hp} {st : KSt} (hne : p ≠ d) (ht : ∀ q xs, H q = some (.tup xs) → H' q = some (.tup xs)) (k : Kp d H H') : KAt C H p t st → KAt C H' p t st := fun ⟨dx, nm, nu, h, o⟩ => ⟨dx, nm, nu, k _ _ hne h, o.to ht⟩
/-- the law's own keeper -/
def kStep (wt way c n a b : Int) (st : KSt) : KSt × V :=
  if c < st.clock then (st, .str "back") else if way = 0 then ((kAsk wt c n a b st).1, .bl (kAsk wt c n a b st).2) else if way = 1 then (kFree c n a b st, .non) else (⟨c, st.ends, st.own⟩, kLet c st)
def wf2 (c u : Int) (nm nu : V) : List (Key × V) := [(Sum.inr "clock", .int c), (Sum.inr "until", .int u), (Sum.inr "name", nm), (Sum.inr "number", nu)]
theorem wf2_clock {c u c' : Int} {nm nu : V} : putK (wf2 c u nm nu) (Sum.inr "clock" : Key) (.int c') = wf2 c' u nm nu := by first | rfl | kernel_rfl
theorem wf2_until {c u c' : Int} {nm nu : V} : putK (wf2 c u nm nu) (Sum.inr "until" : Key) (.int c') = wf2 c c' nm nu := by first | rfl | kernel_rfl
def up3 (u' : Int) (nm' nu' : V) : List (Key × V) := [(Sum.inr "name", nm'), (Sum.inr "number", nu'), (Sum.inr "until", .int u')]
theorem wf2_up {c u u' : Int} {nm nu nm' nu' : V} : mergeK (wf2 c u nm nu) (up3 u' nm' nu') = wf2 c u' nm' nu' := by first | rfl | kernel_rfl
theorem wf2_new {c u : Int} {nm nu : V} : mergeK [] (wf2 c u nm nu) = wf2 c u nm nu := by first | rfl | kernel_rfl
theorem up3_new {u' : Int} {nm' nu' : V} : mergeK [] (up3 u' nm' nu') = up3 u' nm' nu' := by first | rfl | kernel_rfl
def WAt2 (H : Hp) (d : Addr) (st : KSt) : Prop := ∃ nm nu, H d = some (.dK (wf2 st.clock st.ends nm nu)) ∧ OwnAt H nm nu st.own
def spAskedL2 (C CT : Addr) : Sp := fun vs H Q _ => ∃ p t T st way c n q a b, vs = [.ref p, .int way, .int c, .int n, .ref q] ∧ KAt C H p t st ∧ TAt CT H t T ∧ H q = some (.tup [.int a, .int b]) ∧
  ∀ H', KAt C H' p t (kStep T.wait way c n a b st).1 → Kp p H H' → Q (kStep T.wait way c n a b st).2 H'
def spDue2 : Sp := fun vs H Q _ => ∃ d wt st way c n q a b, vs = [.ref d, .int wt, .int way, .int c, .int n, .ref q] ∧ WAt2 H d st ∧ H q = some (.tup [.int a, .int b]) ∧ (way = 0 ∨ way = 1 ∨ way = 2) ∧
  ∀ H', WAt2 H' d (kStep wt way c n a b st).1 → Kp d H H' → Q (kStep wt way c n a b st).2 H'
def OutV (v : V) : Prop := v = .str "back" ∨ v = .non ∨ (∃ b, v = .bl b) ∨ ∃ i, v = .int i
theorem kStep_out (wt way c n a b : Int) (st : KSt) : OutV (kStep wt way c n a b st).2 := by
  unfold kStep
  split
  · exact .inl rfl
  · split
    · exact .inr (.inr (.inl ⟨_, rfl⟩))
    · split
      · exact .inr (.inl rfl)
      · show OutV (kLet c st)
        unfold kLet
        split
        · split
          · exact .inr (.inl rfl)
          · exact .inr (.inr (.inr ⟨_, rfl⟩))
        · exact .inr (.inl rfl)
theorem isb_of {K : PySem.W.Frag} {H : Hp} {v : V} (h : OutV v) : ∃ (t : Value) (b : Bool), TyX K H v t ∧ PySem.W.kitOne K t (.type "bool") = some b := by
  rcases h with rfl | rfl | ⟨b, rfl⟩ | ⟨i, rfl⟩
  · exact ⟨_, false, .base (.str _), kit_ty (by decide +kernel)⟩
  · exact ⟨_, false, .base .non, kit_ty (by decide +kernel)⟩
  · exact ⟨_, true, .base (.bl _), kit_ty (by decide +kernel)⟩
  · exact ⟨_, false, .base (.int _), kit_ty (by decide +kernel)⟩
theorem dp_of {K : PySem.W.Frag} {H : Hp} {v : V} (h : OutV v) : ∃ d, Dp K H v d ∧ SeqAt.shaped d = true ∧ PyData.eqv d d = true := by
  rcases h with rfl | rfl | ⟨b, rfl⟩ | ⟨i, rfl⟩
  · exact ⟨_, .str _, by decide +kernel, by decide +kernel⟩
  · exact ⟨_, .non, rfl, rfl⟩
  · exact ⟨_, .bl b, rfl, by cases b <;> rfl⟩
  · exact ⟨_, .int i, rfl, by show (i == i) = true; exact beq_self_eq_true i⟩
theorem same_made {H : Hp} {x dx : Addr} {o o' : HO} (hx : H x = none) (hd : H dx = none) : Same H (upd (upd H dx o) x o') := fun b u e => by
  rw [upd_ne (ne_of_none e hx), upd_ne (ne_of_none e hd)]
  exact e
theorem same_upd2 {H : Hp} {x : Addr} {o o' : HO} (hx : H x = none) : Same H (upd (upd H x o) x o') := fun b u e => by
  rw [upd_ne (ne_of_none e hx), upd_ne (ne_of_none e hx)]
  exact e
theorem WAt2.same {H H' : Hp} {d : Addr} {st : KSt} (s : Same H H') : WAt2 H d st → WAt2 H' d st := fun ⟨nm, nu, h, o⟩ => ⟨nm, nu, s _ _ h, o.to fun q xs e => s q _ e⟩
theorem WAt2.kp {H H' : Hp} {d p : Addr} {st : KSt} (hne : d ≠ p) (ht : ∀ q xs, H q = some (.tup xs) → H' q = some (.tup xs)) (k : Kp p H H') : WAt2 H d st → WAt2 H' d st := fun ⟨nm, nu, h, o⟩ => ⟨nm, nu, k _ _ hne h, o.to ht⟩
theorem bne_me (b : Bool) : (b != b) = false := by cases b <;> rfl
theorem bif_me {b : Bool} {A B : Prop} (h : B) : BIf (b != b) A B := by rw [bne_me]; exact h
theorem dspk_n {H : Hp} {p : Addr} {Q : VK} {ps : List (V × V)} (kvs : List (Key × V)) {kvs' : List (Key × V)} (hp : H p = none) (e : ps = kvs.map (fun kv => (kV kv.1, kv.2))) (hl : kvs.length ≤ 15) (em : mergeK [] kvs = kvs') (q : ∀ H', Same H H' → H' p = some (.dK kvs') → Q (.ref p) H') : DspK p ps (upd H p (.dK [])) Q :=
  dspk kvs upd_same e hl em (q _ (same_upd2 hp) upd_same)
theorem rd_intBf {H : Hp} {Q : VK} (q : Q (.int 0) H) : rInt1 [.bl false] H Q := .inr ⟨false, rfl, q⟩
theorem rd_intBt {H : Hp} {Q : VK} (q : Q (.int 1) H) : rInt1 [.bl true] H Q := .inr ⟨true, rfl, q⟩
end Lh

open PySem L2
set_option Elab.async false
set_option linter.all false
set_option maxRecDepth 100000
set_option maxHeartbeats 4000000
local macro_rules | `(tactic| walk_at "ne") => `(tactic| first
  | assumption
  | (apply Lh.ne_symm'; assumption)
  | (apply Lh.ne_n1 <;> assumption)
  | (apply Lh.ne_n2 <;> assumption)
  | fail "ne")
local macro_rules | `(tactic| walk_at "hp") => `(tactic| first
  | assumption
  | exact upd_same
  | (apply Lh.hp_ne; (case hne => walk_at "ne"); (case hh => walk_at "hp"))
  | (apply Lh.hp_same; (case hs => assumption); (case hh => walk_at "hp"))
  | fail "hp")
local macro_rules | `(tactic| walk_at "sq") => `(tactic| first
  | assumption
  | (apply Lh.sq_l; walk_at "hp")
  | (apply Lh.sq_t; walk_at "hp")
  | (apply Lh.sq_s; (case hs => assumption); (case hh => walk_at "sq"))
  | fail "sq")
local macro_rules | `(tactic| walk_at "fk") => `(tactic| ((with_reducible apply Lh.fldk); (case h => walk_at "hp"); (case c => assumption); (case n => assumption); (case l => first | rfl | kernel_rfl)))
local macro_rules | `(tactic| walk_at "mk") => `(tactic| ((with_reducible apply Lh.mthk); (case h => walk_at "hp"); (case l => first | rfl | kernel_rfl)))
local macro_rules | `(tactic| walk_at "sfk") => `(tactic| ((with_reducible apply Lh.sfldk); (case h => walk_at "hp"); (case c => assumption); (case na => assumption); (case l => exact Nat.le_of_ble_eq_true rfl); (case e => first | rfl | kernel_rfl)))
local macro_rules | `(tactic| walk_at "rd1") => `(tactic| with_reducible first
  | apply Lh.rd_seq
  | apply Lh.rd_asg
  | apply Lh.rd_ret
  | apply Lh.rd_retN
  | apply Lh.rd_ifS
  | apply Lh.rd_sfld
  | apply Lh.rd_next
  | apply Lh.rd_drop
  | apply Lh.rd_op
  | apply Lh.rd_un
  | apply Lh.rd_I0
  | apply Lh.rd_U
  | apply Lh.rd_fld
  | apply Lh.rd_test
  | apply Lh.rd_B
  | apply Lh.rd_and
  | apply Lh.rd_or
  | apply Lh.rd_not
  | apply Lh.rd_andV
  | apply Lh.rd_orV
  | apply Lh.rd_notV
  | apply Lh.rd_ifE
  | apply Lh.rd_chain
  | apply Lh.rd_chain3
  | apply Lh.rd_meth0
  | apply Lh.rd_methS
  | apply Lh.rd_call0
  | apply Lh.rd_callS
  | apply Lh.rd_make0
  | apply Lh.rd_makeS
  | apply Lh.rd_cb
  | apply Lh.rd_nil
  | apply Lh.rd_cons
  | apply Lh.rd_tup'
  | apply Lh.rd_lst'
  | apply Lh.rd_truth
  | apply Lh.rd_din
  | apply Lh.rd_dput
  | apply Lh.rd_dget'
  | apply Lh.rd_for
  | apply Lh.rd_rng1
  | apply Lh.rd_gname
  | apply Lh.rd_bm
  | apply Lh.rd_bm0
  | apply Lh.rd_pn
  | apply Lh.rd_pc
  | apply Lh.whb
  | apply Lh.rd_intBf
  | apply Lh.rd_intBt
  | apply Lh.rd_max2
  | apply Lh.rd_min2
  | apply Lh.rd_eqI
  | apply Lh.rd_neI
  | apply Lh.rd_eqNI
  | apply Lh.rd_eqIN
  | apply Lh.rd_neNI
  | apply Lh.rd_neIN
  | apply Lh.rd_eqB
  | apply Lh.rd_neB
  | apply Lh.rd_isnoR
  | apply Lh.rd_notnoR
  | apply Lh.rd_isnoN
  | apply Lh.rd_notnoN
  | apply Lh.rd_isnoI
  | apply Lh.rd_notnoI
  | apply Lh.isb
  | apply Lh.bif_t
  | apply Lh.bif_f
  | apply Lh.bif_n
  | apply Lh.rd_c
  | fail "rd1")
local macro_rules | `(tactic| walk_at "rd2") => `(tactic| first
  | walk_at "rd1"
  | ((with_reducible apply Lh.rd_var); (case h => rfl))
  | ((with_reducible apply Lh.rd_eq); (case h => rfl))
  | ((with_reducible apply Lh.rd_ne); (case h => rfl))
  | ((with_reducible apply Lh.rd_I); (case c => first | (exact (by decide)) | exact Or.inr ⟨by decide, by decide⟩ | exact Or.inl ⟨by decide, by decide⟩ | (show (_ : Int) < _; decide) | exact ⟨by decide, by decide⟩))
  | ((with_reducible refine Lh.bif_d (fun _ => ?_) (fun _ => ?_)) <;> try (exfalso; omega))
  | ((with_reducible refine Lh.bif_nd (fun _ => ?_) (fun _ => ?_)) <;> try (exfalso; omega))
  | ((with_reducible refine Lh.bif_lt (fun _ => ?_) (fun _ => ?_)) <;> try (exfalso; omega))
  | ((with_reducible refine Lh.bif_geP (fun _ => ?_) (fun _ => ?_)) <;> try (exfalso; omega))
  | ((with_reducible refine Lh.bif_eqP (fun _ => ?_) (fun _ => ?_)) <;> try (exfalso; omega))
  | ((with_reducible refine Lh.bif_neP (fun _ => ?_) (fun _ => ?_)) <;> try (exfalso; omega))
  | ((with_reducible apply Lh.rd_pair); (case h1 => walk_at "hp"); (case h2 => walk_at "hp"))
  | ((with_reducible apply Lh.rd_ixT); (case h => walk_at "sq"); (case e => rfl))
  | ((with_reducible apply Lh.dgs); (case h => walk_at "hp"); (case e => first | rfl | kernel_rfl))
  | ((with_reducible apply Lh.rd_intB'); intro _ _ _ _)
  | ((with_reducible apply Lh.tyk_dK); (case h => walk_at "hp"))
  | ((with_reducible apply Lh.tyk_l); (case h => walk_at "sq"))
  | walk_at "fk"
  | walk_at "sfk"
  | walk_at "mk"
  | ((with_reducible apply Lh.rd_len); (case h => walk_at "sq"))
  | ((with_reducible apply Lh.spT0_at); (case ok => assumption); (case h => walk_at "hp"))
  | ((with_reducible apply Lh.trul); (case h => walk_at "sq"))
  | fail "rd2")
local macro_rules | `(tactic| walk_at "rd") => `(tactic| repeat' (walk_at "rd2"))
local macro_rules | `(tactic| walk_at "kp") => `(tactic| (intro _ _ hb e; simp only [upd_ne hb]; exact e))
local macro_rules | `(tactic| walk_at "sm") => `(tactic| (intro _ _ _; walk_at "hp"))
local macro_rules | `(tactic| walk_at "fr") => `(tactic| first
  | assumption
  | ((apply Lh.same_none); (case hh => assumption); (case hs => walk_at "sm"))
  | fail "fr")
local macro_rules | `(tactic| walk_at "ln") => `(tactic| (constructor; (first | omega | (simp only [List.length_cons, List.length_nil]; omega)); (simp only [List.length_cons, List.length_nil]; omega)))
local macro_rules | `(tactic| walk_at "rdm2") => `(tactic| first
  | walk_at "rd2"
  | ((with_reducible apply Lh.spMix_use); (case h => walk_at "sq"); intro _ _ _)
  | ((with_reducible apply Lh.newl_s); (case h => exact Nat.le_of_ble_eq_true rfl); intro _ _ _ _ _)
  | ((with_reducible apply Lh.newt_s); (case h => exact Nat.le_of_ble_eq_true rfl); intro _ _ _ _ _)
  | ((with_reducible apply Lh.rd_menu); (case h => walk_at "sq"); (case hi => walk_at "ln"); (case hx => rfl); intro _ _)
  | fail "rdm2")
local macro_rules | `(tactic| walk_at "rdm") => `(tactic| repeat' (walk_at "rdm2"))
namespace Lh
open PySem PySem.Spec PyProof.Rows L2
/-! ### the text by places -/
def top (i : Nat) : Stmt := PySem.Challenge.pw_leasehold_k02_keeper.main.body.getD i (.Pass ⟨0, 0, 0, 0⟩)
section
variable {P : Program} {w : World} {K : PySem.W.Frag} {mg : Str → Option Value} {base : Heap} {C_Terms C_BadTerms : Addr}
abbrev s_Terms_init : Stmt := inClass (top 12) 0
abbrev N_Terms_init : List Str := ["self", "low", "high", "length", "keepers"]
theorem sc_Terms_init : FnScope ["self", "low", "high", "length", "keepers"] ["self", "low", "high", "length", "keepers"] (defScope s_Terms_init) := ⟨rfl, rfl, rfl, by decide +kernel, rfl, by decide +kernel, by decide +kernel⟩
theorem ok_Terms_init {f : Addr} {fd : FuncData} (F : Fun K "__init__" "Terms.__init__" s_Terms_init f fd) (T : TTxt K C_Terms) (X_BadTerms : ExT K mg "BadTerms" C_BadTerms)
    (g_MOST_STEP : ∃ t, mg "MOST_STEP" = some (.int 1000 t)) (g_MOST_LENGTH : ∃ t, mg "MOST_LENGTH" = some (.int 1000000 t)) (g_MOST_KEEPERS : ∃ t, mg "MOST_KEEPERS" = some (.int 9 t)) :
    FnOk P w K mg base (L2.CX P w) 1 f fd ["self", "low", "high", "length", "keepers"] (spTI C_Terms C_BadTerms) := by
  refine F.okX sc_Terms_init (fun vs H Q E h => ?_) (fun cdv A outer s H vs Q E hr h => ?_)
  · obtain ⟨x, dx, T, rfl, _⟩ := h
    rfl
  · obtain ⟨x, dx, Tv, rfl, hx, q, qe⟩ := h
    obtain ⟨c, n1, n2, n3, n4⟩ := T
    obtain ⟨t1, g_MOST_STEP⟩ := g_MOST_STEP
    obtain ⟨t2, g_MOST_LENGTH⟩ := g_MOST_LENGTH
    obtain ⟨t3, g_MOST_KEEPERS⟩ := g_MOST_KEEPERS
    obtain ⟨g_BadTerms, k_BadTerms, x_BadTerms, sb_BadTerms, ty_BadTerms, ec_BadTerms⟩ := X_BadTerms
    refine ⟨_, (pss_cons (ps_if (PW.pt (pw_or (pt_not (pt_chain3 op_le op_le op_le pe_int (pv 1) (pv 2) (pe_glob (v := .int 1000) (by rfl) g_MOST_STEP ⟨_, rfl⟩))) (pw_or (pt_not (pt_chain op_le op_le pe_int (pv 3) (pe_glob (v := .int 1000000) (by rfl) g_MOST_LENGTH ⟨_, rfl⟩))) (pw_or1 (pt_not (pt_chain op_le op_le pe_int (pv 4) (pe_glob (v := .int 9) (by rfl) g_MOST_KEEPERS ⟨_, rfl⟩)))))))
    (pss_one (ps_raise rfl (takes_of rfl rfl rfl rfl) (pmk_own PySem.F.excBase_ValueError x_BadTerms g_BadTerms k_BadTerms (raises_own sb_BadTerms ty_BadTerms) rfl)))
    pss_nil)
    (pss_cons (ps_fld (pv 0) (pv 1) rfl)
    (pss_cons (ps_fld (pv 0) (pv 2) rfl)
    (pss_cons (ps_fld (pv 0) (pv 3) rfl)
    (pss_one (ps_fld (pv 0) (pv 4) rfl)))))), ?_⟩
    walk_at "rd"
    all_goals first
      | (refine qe ?_; intro z; obtain ⟨⟨z1, z2, z3⟩, ⟨z4, z5⟩, z6, z7⟩ := z; omega)
      | (refine q ?_ _ ⟨?_, dx, ?_⟩ ?_
         · refine ⟨⟨?_, ?_, ?_⟩, ⟨?_, ?_⟩, ?_, ?_⟩ <;> omega
         · refine ⟨⟨?_, ?_, ?_⟩, ⟨?_, ?_⟩, ?_, ?_⟩ <;> omega
         · exact upd_same
         · exact ((kp_upd.trans kp_upd).trans kp_upd).trans kp_upd)
abbrev s_Terms_ticks : Stmt := inClass (top 12) 1
abbrev N_Terms_ticks : List Str := ["self"]
theorem sc_Terms_ticks : FnScope ["self"] ["self"] (defScope s_Terms_ticks) := ⟨rfl, rfl, rfl, by decide +kernel, rfl, by decide +kernel, by decide +kernel⟩
theorem ok_Terms_ticks {f : Addr} {fd : FuncData} (F : Fun K "ticks" "Terms.ticks" s_Terms_ticks f fd) (T : TTxt K C_Terms) : FnOk P w K mg base CX0 1 f fd ["self"] (spT0 C_Terms Tm.ticks) := by
  refine F.ok sc_Terms_ticks (fun vs H Q E h => ?_) (fun cdv A outer s H vs Q E hr h => ?_)
  · obtain ⟨t, T, rfl, _⟩ := h
    rfl
  · obtain ⟨t, Tv, rfl, ⟨hT, dx, ht⟩, q⟩ := h
    obtain ⟨c, n1, n2, n3, n4⟩ := T
    refine ⟨_, (pss_one (ps_ret (pe_op op_fdivN (pe_op op_sub (pe_op op_add (pe_fld (pv 0) rfl) (pe_fld (pv 0) rfl)) pe_int) (pe_fld (pv 0) rfl)))), ?_⟩
    walk_at "rd"
    obtain ⟨⟨z1, z2, z3⟩, ⟨z4, z5⟩, z6, z7⟩ := hT
    refine rd_I ⟨by omega, by omega⟩ ?_
    rw [Int.fdiv_eq_ediv_of_nonneg _ (by omega)]
    exact q
abbrev s_Terms_wait : Stmt := inClass (top 12) 2
abbrev N_Terms_wait : List Str := ["self"]
theorem sc_Terms_wait : FnScope ["self"] ["self"] (defScope s_Terms_wait) := ⟨rfl, rfl, rfl, by decide +kernel, rfl, by decide +kernel, by decide +kernel⟩
theorem ok_Terms_wait {f : Addr} {fd : FuncData} (F : Fun K "wait" "Terms.wait" s_Terms_wait f fd) (T : TTxt K C_Terms) (D_Terms_ticks : MtB P w K mg base CX0 1 C_Terms "ticks" ["self"] (spT0 C_Terms Tm.ticks)) :
    FnOk P w K mg base CX0 2 f fd ["self"] (spT0 C_Terms Tm.wait) := by
  refine F.ok sc_Terms_wait (fun vs H Q E h => ?_) (fun cdv A outer s H vs Q E hr h => ?_)
  · obtain ⟨t, T, rfl, _⟩ := h
    rfl
  · obtain ⟨t, Tv, rfl, hT, q⟩ := h
    obtain ⟨c_Terms, n1, n2, n3, n4⟩ := T
    obtain ⟨ho, dx, ht⟩ := id hT
    obtain ⟨f_Terms_ticks, fd_Terms_ticks, G_Terms_ticks, M_Terms_ticks, b_Terms_ticks⟩ := D_Terms_ticks
    refine ⟨_, (pss_one (ps_ret (pe_op op_mul (pe_fld (pv 0) rfl) (pe_meth0 (pv 0) c_Terms M_Terms_ticks G_Terms_ticks (hr.mono (by decide)) b_Terms_ticks .nil pass0)))), ?_⟩
    walk_at "rd"
    obtain ⟨⟨z1, z2, z3⟩, ⟨z4, z5⟩, z6, z7⟩ := ho
    exact rd_I (.inl ⟨by omega, by omega⟩) q
abbrev s_Terms_most : Stmt := inClass (top 12) 3
abbrev N_Terms_most : List Str := ["self"]
theorem sc_Terms_most : FnScope ["self"] ["self"] (defScope s_Terms_most) := ⟨rfl, rfl, rfl, by decide +kernel, rfl, by decide +kernel, by decide +kernel⟩
theorem ok_Terms_most {f : Addr} {fd : FuncData} (F : Fun K "most" "Terms.most" s_Terms_most f fd) (T : TTxt K C_Terms) : FnOk P w K mg base CX0 1 f fd ["self"] (spT0 C_Terms Tm.most) := by
  refine F.ok sc_Terms_most (fun vs H Q E h => ?_) (fun cdv A outer s H vs Q E hr h => ?_)
  · obtain ⟨t, T, rfl, _⟩ := h
    rfl
  · obtain ⟨t, Tv, rfl, ⟨hT, dx, ht⟩, q⟩ := h
    obtain ⟨c, n1, n2, n3, n4⟩ := T
    refine ⟨_, (pss_one (ps_ret (pe_op op_add (pe_op op_fdiv (pe_fld (pv 0) rfl) pe_int) pe_int))), ?_⟩
    walk_at "rd"
    exact q
/-! ### the law's readers of the script -/
abbrev s__law_cell : Stmt := top 14
abbrev N__law_cell : List Str := ["_law_script", "_law_k"]
theorem sc__law_cell : FnScope ["_law_script", "_law_k"] ["_law_script", "_law_k"] (defScope s__law_cell) := ⟨rfl, rfl, rfl, by decide +kernel, rfl, by decide +kernel, by decide +kernel⟩
theorem ok__law_cell {f : Addr} {fd : FuncData} (F : Fun K "_law_cell" "_law_cell" s__law_cell f fd) (z_len : mg "len" = none) : FnOk P w K mg base CX0 1 f fd ["_law_script", "_law_k"] (spCell K) := by
  refine F.ok sc__law_cell (fun vs H Q E h => ?_) (fun cdv A outer s H vs Q E hr h => ?_)
  · obtain ⟨a, ns, k, rfl, _⟩ := h
    rfl
  · obtain ⟨a, ns, k, rfl, hS, q⟩ := h
    refine ⟨_, (pss_cons (ps_if (pt_tru (pv 0))
    (pss_one (ps_ret (pe_ix ix_list (pv 0) (pe_op op_modN (pv 1) (pe_callB cr_len (by rfl) z_len (by decide +kernel) (pa_cons (pv 0) pa_nil))) (fun _ _ => rfl))))
    pss_nil)
    (pss_one (ps_ret pe_int))), ?_⟩
    walk_at "rd"
    refine bif2 (fun hc => ?_) (fun hc => ?_)
    · walk_at "rd"
      exact q 0
    · have hl : 0 < (ns.map V.int).length := by
        cases ns with
        | nil => exact absurd hc (by decide)
        | cons _ _ => simp
      walk_at "rd"
      refine rd_I (by show ((ns.map V.int).length : Int) ≠ 0; omega) ?_
      exact rd_menu hS ⟨Int.fmod_nonneg_of_pos _ (by omega), Int.fmod_lt_of_pos _ (by omega)⟩ (by simp [isI]) fun z _ => q z
abbrev s__law_mix : Stmt := top 15
abbrev N__law_mix : List Str := ["_law_script", "_law_k", "_law_number"]
theorem sc__law_mix : FnScope ["_law_script", "_law_k", "_law_number"] ["_law_script", "_law_k"] (defScope s__law_mix) := ⟨rfl, rfl, rfl, by decide +kernel, rfl, by decide +kernel, by decide +kernel⟩
theorem ok__law_mix {f : Addr} {fd : FuncData} (F : Fun K "_law_mix" "_law_mix" s__law_mix f fd) (D__law_cell : FnB P w K mg base CX0 1 "_law_cell" ["_law_script", "_law_k"] (spCell K)) :
    FnOk P w K mg base CX0 2 f fd ["_law_script", "_law_k"] (spMix K) := by
  refine F.ok sc__law_mix (fun vs H Q E h => ?_) (fun cdv A outer s H vs Q E hr h => ?_)
  · obtain ⟨a, ns, k, rfl, _⟩ := h
    rfl
  · obtain ⟨a, ns, k, rfl, hS, q⟩ := h
    obtain ⟨f__law_cell, fd__law_cell, G__law_cell, g__law_cell, k__law_cell, b__law_cell⟩ := D__law_cell
    refine ⟨_, (pss_cons (ps_set (i := 2) sc__law_mix.nd rfl (Or.inl rfl) (pe_op op_mod (pe_op op_add (pe_call G__law_cell (hr.mono (by decide)) rfl g__law_cell k__law_cell b__law_cell .nil pass0 (pa_cons (pv 0) (pa_cons (pv 1) pa_nil))) (pe_op op_mul pe_int (pe_op op_add (pv 1) pe_int))) pe_int))
    (pss_cons (ps_set (i := 2) sc__law_mix.nd rfl (Or.inl rfl) (pe_op op_mod (pe_op op_mul (pv 2) pe_int) pe_int))
    (pss_one (ps_ret (pe_op op_mod (pe_op op_add (pe_op op_mul (pe_op op_fdiv (pv 2) pe_int) pe_int) (pv 2)) pe_int))))), ?_⟩
    walk_at "rd"
    refine ⟨a, ns, k, rfl, hS, fun z => ?_⟩
    walk_at "rd"
    exact q _ (by omega) (by omega)
end
end Lh
namespace Lh
open PySem PySem.Spec PyProof.Rows L2
section
variable {P : Program} {w : World} {K : PySem.W.Frag} {mg : Str → Option Value} {base : Heap} {C_Terms C_Keeper C_Back : Addr}
abbrev s_Keeper_init : Stmt := inClass (top 7) 0
abbrev N_Keeper_init : List Str := ["self", "terms", "clock"]
theorem sc_Keeper_init : FnScope ["self", "terms", "clock"] ["self", "terms", "clock"] (defScope s_Keeper_init) := ⟨rfl, rfl, rfl, by decide +kernel, rfl, by decide +kernel, by decide +kernel⟩
theorem ok_Keeper_init {f : Addr} {fd : FuncData} (F : Fun K "__init__" "Keeper.__init__" s_Keeper_init f fd) (TK : KTxt K C_Keeper) (c_Terms : Cls K C_Terms) (D_Terms_wait : MtB P w K mg base CX0 2 C_Terms "wait" ["self"] (spT0 C_Terms Tm.wait)) :
    FnOk P w K mg base CX0 3 f fd ["self", "terms", "clock"] (spKI C_Keeper C_Terms) := by
  refine F.ok sc_Keeper_init (fun vs H Q E h => ?_) (fun cdv A outer s H vs Q E hr h => ?_)
  · obtain ⟨x, dx, t, T, c, rfl, _⟩ := h
    rfl
  · obtain ⟨x, dx, t, T, c, rfl, hx, ⟨hT, dt, ht⟩, k⟩ := h
    obtain ⟨c_Keeper, n1, n2, n3, n4, n5⟩ := TK
    obtain ⟨f_Terms_wait, fd_Terms_wait, G_Terms_wait, M_Terms_wait, b_Terms_wait⟩ := D_Terms_wait
    have htx : t ≠ x := ne_of ht hx (by intro z; injection z with _ _ z; cases z)
    refine ⟨_, (pss_cons (ps_fld (pv 0) (pv 1) rfl)
    (pss_cons (ps_fld (pv 0) (pv 2) rfl)
    (pss_cons (ps_fld (pv 0) (pe_op op_add (pv 2) (pe_meth0 (pv 1) c_Terms M_Terms_wait G_Terms_wait (hr.mono (by decide)) b_Terms_wait .nil pass0)) rfl)
    (pss_cons (ps_fld (pv 0) pe_non rfl)
    (pss_one (ps_fld (pv 0) pe_non rfl)))))), ?_⟩
    walk_at "rd"
    refine k _ ⟨dx, _, _, upd_same, rfl, rfl⟩ ?_
    walk_at "kp"
abbrev s_Keeper_look : Stmt := inClass (top 7) 1
abbrev N_Keeper_look : List Str := ["self", "clock"]
theorem sc_Keeper_look : FnScope ["self", "clock"] ["self", "clock"] (defScope s_Keeper_look) := ⟨rfl, rfl, rfl, by decide +kernel, rfl, by decide +kernel, by decide +kernel⟩
theorem ok_Keeper_look {f : Addr} {fd : FuncData} (F : Fun K "look" "Keeper.look" s_Keeper_look f fd) (TK : KTxt K C_Keeper) (X_Back : ExT K mg "Back" C_Back) :
    FnOk P w K mg base (L2.CX P w) 1 f fd ["self", "clock"] (spLookK C_Keeper C_Back) := by
  refine F.okX sc_Keeper_look (fun vs H Q E h => ?_) (fun cdv A outer s H vs Q E hr h => ?_)
  · obtain ⟨p, dx, t, c0, e, nm, nu, c, rfl, _⟩ := h
    rfl
  · obtain ⟨p, dx, t, c0, e, nm, nu, c, rfl, hp, he, k⟩ := h
    obtain ⟨c_Keeper, n1, n2, n3, n4, n5⟩ := TK
    obtain ⟨g_Back, k_Back, x_Back, sb_Back, ty_Back, ec_Back⟩ := X_Back
    refine ⟨_, (pss_cons (ps_if (pt_cmpR op_lt (pv 1) (pe_fld (pv 0) rfl) (nomark _))
    (pss_one (ps_raise rfl (takes_of rfl rfl rfl rfl) (pmk_own PySem.F.excBase_ValueError x_Back g_Back k_Back (raises_own sb_Back ty_Back) rfl)))
    pss_nil)
    (pss_one (ps_fld (pv 0) (pv 1) rfl))), ?_⟩
    walk_at "rd"
    · exact he (by assumption)
    · exact k (by omega)
abbrev s_Keeper_is_let : Stmt := inClass (top 7) 2
abbrev N_Keeper_is_let : List Str := ["self", "clock"]
theorem sc_Keeper_is_let : FnScope ["self", "clock"] ["self", "clock"] (defScope s_Keeper_is_let) := ⟨rfl, rfl, rfl, by decide +kernel, rfl, by decide +kernel, by decide +kernel⟩
theorem ok_Keeper_is_let {f : Addr} {fd : FuncData} (F : Fun K "is_let" "Keeper.is_let" s_Keeper_is_let f fd) (TK : KTxt K C_Keeper) :
    FnOk P w K mg base CX0 1 f fd ["self", "clock"] (spIsLet C_Keeper) := by
  refine F.ok sc_Keeper_is_let (fun vs H Q E h => ?_) (fun cdv A outer s H vs Q E hr h => ?_)
  · obtain ⟨p, dx, t, c0, e, nm, nu, c, rfl, _⟩ := h
    rfl
  · obtain ⟨p, dx, t, c0, e, nm, nu, c, rfl, hp, k⟩ := h
    obtain ⟨c_Keeper, n1, n2, n3, n4, n5⟩ := TK
    refine ⟨_, (pss_one (ps_ret (pe_cmpR op_lt (pv 1) (pe_fld (pv 0) rfl) (nomark _)))), ?_⟩
    walk_at "rd"
    exact k
abbrev s_Keeper_asked : Stmt := inClass (top 7) 3
abbrev N_Keeper_asked : List Str := ["self", "clock", "name", "number"]
theorem sc_Keeper_asked : FnScope ["self", "clock", "name", "number"] ["self", "clock", "name", "number"] (defScope s_Keeper_asked) := ⟨rfl, rfl, rfl, by decide +kernel, rfl, by decide +kernel, by decide +kernel⟩
theorem ok_Keeper_asked {f : Addr} {fd : FuncData} (F : Fun K "asked" "Keeper.asked" s_Keeper_asked f fd) (TK : KTxt K C_Keeper) (c_Terms : Cls K C_Terms)
    (D_Keeper_look : MtB P w K mg base (L2.CX P w) 1 C_Keeper "look" ["self", "clock"] (spLookK C_Keeper C_Back)) (D_Keeper_is_let : MtB P w K mg base CX0 1 C_Keeper "is_let" ["self", "clock"] (spIsLet C_Keeper))
    (D_Terms_wait : MtB P w K mg base CX0 2 C_Terms "wait" ["self"] (spT0 C_Terms Tm.wait)) :
    FnOk P w K mg base (L2.CX P w) 3 f fd ["self", "clock", "name", "number"] (spAsked C_Keeper C_Terms C_Back) := by
  refine F.okX sc_Keeper_asked (fun vs H Q E h => ?_) (fun cdv A outer s H vs Q E hr h => ?_)
  · obtain ⟨p, t, st, T, c, n, q, a, b, rfl, _⟩ := h
    rfl
  · obtain ⟨p, t, ⟨c0, e, own⟩, T, c, n, q, a, b, rfl, ⟨dx, nm, nu, hp, ho⟩, ⟨hT, dt, ht⟩, hq, he, k⟩ := h
    obtain ⟨c_Keeper, n1, n2, n3, n4, n5⟩ := TK
    obtain ⟨f_Keeper_look, fd_Keeper_look, G_Keeper_look, M_Keeper_look, b_Keeper_look⟩ := D_Keeper_look
    obtain ⟨f_Keeper_is_let, fd_Keeper_is_let, G_Keeper_is_let, M_Keeper_is_let, b_Keeper_is_let⟩ := D_Keeper_is_let
    obtain ⟨f_Terms_wait, fd_Terms_wait, G_Terms_wait, M_Terms_wait, b_Terms_wait⟩ := D_Terms_wait
    dsimp only at hp ho he k
    have htp : t ≠ p := tk_ne ht hp
    have hqp : q ≠ p := qp_ne hq hp
    refine ⟨_, (pss_cons (ps_expr (pe_meth (pv 0) c_Keeper M_Keeper_look G_Keeper_look (hr.mono (by decide)) b_Keeper_look .nil (passes_call (takes_of rfl rfl rfl rfl) (fun _ _ _ _ h => h)) (pa_cons (pv 1) pa_nil)))
    (pss_cons (ps_if (pt_val (pe_meth (pv 0) c_Keeper M_Keeper_is_let G_Keeper_is_let (hr.mono (by decide)) b_Keeper_is_let .nil pass0 (pa_cons (pv 1) pa_nil)))
    (pss_cons (ps_if (PW.pt (pw_or (pt_cmpR op_ne (pv 2) (pe_fld (pv 0) rfl) (nomark _)) (pw_or1 (pt_cmpR (op_ltP hr.units0) (pv 3) (pe_fld (pv 0) rfl) (nomark _)))))
    (pss_one (ps_ret pe_bl))
    pss_nil)
    (pss_one (ps_if (pt_cmpR (op_eqP hr.units) (pv 3) (pe_fld (pv 0) rfl) (nomark _))
    (pss_one (ps_ret pe_bl))
    pss_nil)))
    pss_nil)
    (pss_cons (ps_fld (pv 0) (pv 2) rfl)
    (pss_cons (ps_fld (pv 0) (pv 3) rfl)
    (pss_cons (ps_fld (pv 0) (pe_op op_add (pv 1) (pe_meth0 (pe_fld (pv 0) rfl) c_Terms M_Terms_wait G_Terms_wait (hr.mono (by decide)) b_Terms_wait .nil pass0)) rfl)
    (pss_one (ps_ret pe_bl))))))), ?_⟩
    walk_at "rd"
    refine spLookK_use hp he fun hc => ?_
    walk_at "rd"
    refine spIsLet_use upd_same ?_
    have k := k hc
    by_cases h1 : c < e
    · match own, ho with
      | none, ⟨z1, z2⟩ =>
        subst z1 z2
        have e1 : kAsk T.wait c n a b ⟨c0, e, none⟩ = (⟨c, e, none⟩, false) := by simp only [kAsk, if_pos h1]
        rw [e1] at k
        walk_at "rd"
        exact k _ ⟨dx, _, _, upd_same, rfl, rfl⟩ kp_upd
      | some (n', a', b'), ⟨z1, q', z2, hq'⟩ =>
        subst z1 z2
        have hqp' : q' ≠ p := qp_ne hq' hp
        by_cases h2 : n = n'
        · by_cases h3 : a < a' ∨ a = a' ∧ b < b'
          · have e1 : kAsk T.wait c n a b ⟨c0, e, some (n', a', b')⟩ = (⟨c, e, some (n', a', b')⟩, false) := by simp only [kAsk, if_pos h1, if_pos h2, if_pos h3]
            rw [e1] at k
            walk_at "rd"
            exact k _ ⟨dx, _, _, upd_same, rfl, q', rfl, by walk_at "hp"⟩ kp_upd
          · by_cases h4 : a = a' ∧ b = b'
            · have e1 : kAsk T.wait c n a b ⟨c0, e, some (n', a', b')⟩ = (⟨c, e, some (n', a', b')⟩, true) := by simp only [kAsk, if_pos h1, if_pos h2, if_neg h3, if_pos h4]
              rw [e1] at k
              walk_at "rd"
              exact k _ ⟨dx, _, _, upd_same, rfl, q', rfl, by walk_at "hp"⟩ kp_upd
            · have e1 : kAsk T.wait c n a b ⟨c0, e, some (n', a', b')⟩ = (⟨c, c + T.wait, some (n, a, b)⟩, true) := by simp only [kAsk, if_pos h1, if_pos h2, if_neg h3, if_neg h4]
              rw [e1] at k
              walk_at "rd"
              refine k _ ⟨dx, _, _, upd_same, rfl, q, rfl, by walk_at "hp"⟩ ?_
              walk_at "kp"
        · have e1 : kAsk T.wait c n a b ⟨c0, e, some (n', a', b')⟩ = (⟨c, e, some (n', a', b')⟩, false) := by simp only [kAsk, if_pos h1, if_neg h2]
          rw [e1] at k
          walk_at "rd"
          exact k _ ⟨dx, _, _, upd_same, rfl, q', rfl, by walk_at "hp"⟩ kp_upd
    · have e1 : kAsk T.wait c n a b ⟨c0, e, own⟩ = (⟨c, c + T.wait, some (n, a, b)⟩, true) := by simp only [kAsk, if_neg h1]
      rw [e1] at k
      walk_at "rd"
      refine k _ ⟨dx, _, _, upd_same, rfl, q, rfl, by walk_at "hp"⟩ ?_
      walk_at "kp"
abbrev s_Keeper_freed : Stmt := inClass (top 7) 4
abbrev N_Keeper_freed : List Str := ["self", "clock", "name", "number"]
theorem sc_Keeper_freed : FnScope ["self", "clock", "name", "number"] ["self", "clock", "name", "number"] (defScope s_Keeper_freed) := ⟨rfl, rfl, rfl, by decide +kernel, rfl, by decide +kernel, by decide +kernel⟩
theorem ok_Keeper_freed {f : Addr} {fd : FuncData} (F : Fun K "freed" "Keeper.freed" s_Keeper_freed f fd) (TK : KTxt K C_Keeper) (z_min : mg "min" = none)
    (D_Keeper_look : MtB P w K mg base (L2.CX P w) 1 C_Keeper "look" ["self", "clock"] (spLookK C_Keeper C_Back)) :
    FnOk P w K mg base (L2.CX P w) 2 f fd ["self", "clock", "name", "number"] (spFreed C_Keeper C_Back) := by
  refine F.okX sc_Keeper_freed (fun vs H Q E h => ?_) (fun cdv A outer s H vs Q E hr h => ?_)
  · obtain ⟨p, t, st, c, n, q, a, b, rfl, _⟩ := h
    rfl
  · obtain ⟨p, t, ⟨c0, e, own⟩, c, n, q, a, b, rfl, ⟨dx, nm, nu, hp, ho⟩, hq, he, k⟩ := h
    obtain ⟨c_Keeper, n1, n2, n3, n4, n5⟩ := TK
    obtain ⟨f_Keeper_look, fd_Keeper_look, G_Keeper_look, M_Keeper_look, b_Keeper_look⟩ := D_Keeper_look
    dsimp only at hp ho he k
    have hqp : q ≠ p := qp_ne hq hp
    refine ⟨_, (pss_cons (ps_expr (pe_meth (pv 0) c_Keeper M_Keeper_look G_Keeper_look (hr.mono (by decide)) b_Keeper_look .nil (passes_call (takes_of rfl rfl rfl rfl) (fun _ _ _ _ h => h)) (pa_cons (pv 1) pa_nil)))
    (pss_one (ps_if (PW.pt (pw_and (pt_cmpR op_notno (pe_fld (pv 0) rfl) pe_non (nomark _)) (pw_and (pt_cmpR op_eq (pv 2) (pe_fld (pv 0) rfl) (nomark _)) (pw_and1 (pt_cmpR (op_geP hr.units0) (pv 3) (pe_fld (pv 0) rfl) (nomark _))))))
    (pss_one (ps_fld (pv 0) (pe_callB (cr_min2 rfl) (by rfl) z_min (by decide +kernel) (pa_cons (pe_fld (pv 0) rfl) (pa_cons (pv 1) pa_nil))) rfl))
    pss_nil))), ?_⟩
    walk_at "rd"
    refine spLookK_use hp he fun hc => ?_
    have k := k hc
    match own, ho with
    | none, ⟨z1, z2⟩ =>
      subst z1 z2
      have e1 : kFree c n a b ⟨c0, e, none⟩ = ⟨c, e, none⟩ := rfl
      rw [e1] at k
      walk_at "rd"
      exact k _ ⟨dx, _, _, upd_same, rfl, rfl⟩ kp_upd
    | some (n', a', b'), ⟨z1, q', z2, hq'⟩ =>
      subst z1 z2
      have hqp' : q' ≠ p := qp_ne hq' hp
      by_cases h2 : n = n' ∧ ¬ (a < a' ∨ a = a' ∧ b < b')
      · have e1 : kFree c n a b ⟨c0, e, some (n', a', b')⟩ = ⟨c, min e c, some (n', a', b')⟩ := by simp only [kFree, if_pos h2]
        rw [e1] at k
        walk_at "rd"
        refine k _ ⟨dx, _, _, upd_same, rfl, q', rfl, by walk_at "hp"⟩ ?_
        walk_at "kp"
      · have e1 : kFree c n a b ⟨c0, e, some (n', a', b')⟩ = ⟨c, e, some (n', a', b')⟩ := by simp only [kFree, if_neg h2]
        rw [e1] at k
        walk_at "rd"
        all_goals exact k _ ⟨dx, _, _, upd_same, rfl, q', rfl, by walk_at "hp"⟩ kp_upd
end
end Lh
namespace Lh
open PySem PySem.Spec PyProof.Rows L2
section
variable {P : Program} {w : World} {K : PySem.W.Frag} {mg : Str → Option Value} {base : Heap} {C_Terms C_Keeper C_Back : Addr}
abbrev s_Keeper_let_to : Stmt := inClass (top 7) 5
abbrev N_Keeper_let_to : List Str := ["self", "clock"]
theorem sc_Keeper_let_to : FnScope ["self", "clock"] ["self", "clock"] (defScope s_Keeper_let_to) := ⟨rfl, rfl, rfl, by decide +kernel, rfl, by decide +kernel, by decide +kernel⟩
theorem ok_Keeper_let_to {f : Addr} {fd : FuncData} (F : Fun K "let_to" "Keeper.let_to" s_Keeper_let_to f fd) (TK : KTxt K C_Keeper)
    (D_Keeper_look : MtB P w K mg base (L2.CX P w) 1 C_Keeper "look" ["self", "clock"] (spLookK C_Keeper C_Back)) (D_Keeper_is_let : MtB P w K mg base CX0 1 C_Keeper "is_let" ["self", "clock"] (spIsLet C_Keeper)) :
    FnOk P w K mg base (L2.CX P w) 2 f fd ["self", "clock"] (spLetTo C_Keeper C_Back) := by
  refine F.okX sc_Keeper_let_to (fun vs H Q E h => ?_) (fun cdv A outer s H vs Q E hr h => ?_)
  · obtain ⟨p, t, st, c, rfl, _⟩ := h
    rfl
  · obtain ⟨p, t, ⟨c0, e, own⟩, c, rfl, ⟨dx, nm, nu, hp, ho⟩, he, k⟩ := h
    obtain ⟨c_Keeper, n1, n2, n3, n4, n5⟩ := TK
    obtain ⟨f_Keeper_look, fd_Keeper_look, G_Keeper_look, M_Keeper_look, b_Keeper_look⟩ := D_Keeper_look
    obtain ⟨f_Keeper_is_let, fd_Keeper_is_let, G_Keeper_is_let, M_Keeper_is_let, b_Keeper_is_let⟩ := D_Keeper_is_let
    dsimp only at hp ho he k
    refine ⟨_, (pss_cons (ps_expr (pe_meth (pv 0) c_Keeper M_Keeper_look G_Keeper_look (hr.mono (by decide)) b_Keeper_look .nil (passes_call (takes_of rfl rfl rfl rfl) (fun _ _ _ _ h => h)) (pa_cons (pv 1) pa_nil)))
    (pss_cons (ps_if (pt_val (pe_meth (pv 0) c_Keeper M_Keeper_is_let G_Keeper_is_let (hr.mono (by decide)) b_Keeper_is_let .nil pass0 (pa_cons (pv 1) pa_nil)))
    (pss_one (ps_ret (pe_fld (pv 0) rfl)))
    pss_nil)
    (pss_one (ps_ret pe_non)))), ?_⟩
    walk_at "rd"
    refine spLookK_use hp he fun hc => ?_
    have k := k hc
    walk_at "rd"
    refine spIsLet_use upd_same ?_
    have ho' : OwnAt (upd H p (.ins C_Keeper dx (kf t c e nm nu))) nm nu own := ho.to fun q xs hq => by rw [upd_ne (qp_ne hq hp)]; exact hq
    by_cases h1 : c < e
    · walk_at "rd"
      have e1 : kLet c ⟨c0, e, own⟩ = nm := by
        simp only [kLet, if_pos h1]
        match own, ho with
        | none, ⟨z1, _⟩ => exact z1.symm
        | some (n', a', b'), ⟨z1, _⟩ => exact z1.symm
      rw [e1] at k
      exact k _ ⟨dx, _, _, upd_same, ho'⟩ kp_upd
    · walk_at "rd"
      have e1 : kLet c ⟨c0, e, own⟩ = .non := by simp only [kLet, if_neg h1]
      rw [e1] at k
      exact k _ ⟨dx, _, _, upd_same, ho'⟩ kp_upd
end
end Lh
namespace Lh
open PySem PySem.Spec PyProof.Rows L2
section
variable {P : Program} {w : World} {K : PySem.W.Frag} {mg : Str → Option Value} {base : Heap}
abbrev s__law_terms : Stmt := top 16
abbrev N__law_terms : List Str := ["_law_script", "_law_k", "_law_low", "_law_high", "_law_length"]
theorem sc__law_terms : FnScope ["_law_script", "_law_k", "_law_low", "_law_high", "_law_length"] ["_law_script", "_law_k"] (defScope s__law_terms) := ⟨rfl, rfl, rfl, by decide +kernel, rfl, by decide +kernel, by decide +kernel⟩
theorem ok__law_terms {f : Addr} {fd : FuncData} (F : Fun K "_law_terms" "_law_terms" s__law_terms f fd) (D__law_mix : FnB P w K mg base CX0 2 "_law_mix" ["_law_script", "_law_k"] (spMix K)) :
    FnOk P w K mg base CX0 3 f fd ["_law_script", "_law_k"] (spTerms K) := by
  refine F.ok sc__law_terms (fun vs H Q E h => ?_) (fun cdv A outer s H vs Q E hr h => ?_)
  · obtain ⟨a, ns, k, rfl, _⟩ := h
    rfl
  · obtain ⟨a, ns, k, rfl, hS, q⟩ := h
    obtain ⟨f__law_mix, fd__law_mix, G__law_mix, g__law_mix, k__law_mix, b__law_mix⟩ := D__law_mix
    refine ⟨_, (pss_cons (ps_set (i := 2) sc__law_terms.nd rfl (Or.inl rfl) (pe_op op_add pe_int (pe_op op_mod (pe_call G__law_mix (hr.mono (by decide)) rfl g__law_mix k__law_mix b__law_mix .nil pass0 (pa_cons (pv 0) (pa_cons (pv 1) pa_nil))) pe_int)))
    (pss_cons (ps_set (i := 3) sc__law_terms.nd rfl (Or.inl rfl) (pe_op op_add (pv 2) (pe_op op_mod (pe_call G__law_mix (hr.mono (by decide)) rfl g__law_mix k__law_mix b__law_mix .nil pass0 (pa_cons (pv 0) (pa_cons (pe_op op_add (pv 1) pe_int) pa_nil))) pe_int)))
    (pss_cons (ps_set (i := 4) sc__law_terms.nd rfl (Or.inl rfl) (pe_ix ix_list (pe_lst (pa_cons pe_int (pa_cons pe_int (pa_cons pe_int (pa_cons pe_int (pa_cons pe_int (pa_cons pe_int pa_nil))))))) (pe_op op_mod (pe_call G__law_mix (hr.mono (by decide)) rfl g__law_mix k__law_mix b__law_mix .nil pass0 (pa_cons (pv 0) (pa_cons (pe_op op_add (pv 1) pe_int) pa_nil))) pe_int) (fun _ _ => rfl)))
    (pss_one (ps_ret (pe_tup (pa_cons (pv 2) (pa_cons (pv 3) (pa_cons (pv 4) (pa_cons (pe_ix ix_list (pe_lst (pa_cons pe_int (pa_cons pe_int (pa_cons pe_int (pa_cons pe_int (pa_cons pe_int (pa_cons pe_int pa_nil))))))) (pe_op op_mod (pe_call G__law_mix (hr.mono (by decide)) rfl g__law_mix k__law_mix b__law_mix .nil pass0 (pa_cons (pv 0) (pa_cons (pe_op op_add (pv 1) pe_int) pa_nil))) pe_int) (fun _ _ => rfl)) pa_nil)))))))))), ?_⟩
    walk_at "rdm"
    rename_i z1 m1 _ _ _ _ _ _ _
    simp only [List.mem_cons, List.not_mem_nil, or_false, V.int.injEq] at *
    refine q _ _ ⟨_, _, _, _⟩ ?_ ?_ ?_ ?_ ?_ ?_ (by assumption)
    · refine ⟨⟨?_, ?_, ?_⟩, ⟨?_, ?_⟩, ?_, ?_⟩ <;> dsimp only <;> omega
    · dsimp only; omega
    · dsimp only; omega
    · dsimp only; omega
    · walk_at "sm"
    · walk_at "fr"
abbrev s__law_wait : Stmt := top 17
abbrev N__law_wait : List Str := ["_law_terms_here", "_law_ticks"]
theorem sc__law_wait : FnScope ["_law_terms_here", "_law_ticks"] ["_law_terms_here"] (defScope s__law_wait) := ⟨rfl, rfl, rfl, by decide +kernel, rfl, by decide +kernel, by decide +kernel⟩
theorem ok__law_wait {f : Addr} {fd : FuncData} (F : Fun K "_law_wait" "_law_wait" s__law_wait f fd) : FnOk P w K mg base CX0 1 f fd ["_law_terms_here"] spWait := by
  refine F.ok sc__law_wait (fun vs H Q E h => ?_) (fun cdv A outer s H vs Q E hr h => ?_)
  · obtain ⟨p, T, rfl, _⟩ := h
    rfl
  · obtain ⟨p, T, rfl, hp, hT, h5, hl, q⟩ := h
    obtain ⟨⟨t1, t2, t3⟩, ⟨t4, t5⟩, t6, t7⟩ := id hT
    refine ⟨_, (pss_cons (ps_set (i := 1) sc__law_wait.nd rfl (Or.inl rfl) pe_int)
    (pss_cons (ps_while PassesOwn.never (pt_cmpR op_lt (pe_op op_mul (pv 1) (pe_ix ix_tup (pv 0) pe_int (fun _ _ => rfl))) (pe_ix ix_tup (pv 0) pe_int (fun _ _ => rfl)) (nomark _))
    (pss_one (ps_set (i := 1) sc__law_wait.nd rfl (Or.inl rfl) (pe_op op_add (pv 1) pe_int))))
    (pss_one (ps_ret (pe_op op_mul (pe_ix ix_tup (pv 0) pe_int (fun _ _ => rfl)) (pv 1)))))), ?_⟩
    walk_at "rd"
    refine rd_while (fun m σ H' => ∃ k : Int, σ = [some (.ref p), some (.int k)] ∧ 0 ≤ k ∧ (k - 1) * T.low < T.len ∧ m = (T.len - k * T.low).toNat ∧ H' = H) _ ⟨0, rfl, by omega, by omega, rfl, rfl⟩ ?_
    rintro m σ H' ⟨k, rfl, h0, h1, rfl, rfl⟩
    walk_at "rd"
    refine rd_I (.inr ⟨by omega, by omega⟩) ?_
    walk_at "rd"
    · have e : (k + 1) * T.low = k * T.low + T.low := by rw [Int.add_mul, Int.one_mul]
      have e2 : (k + 1 - 1) * T.low = k * T.low := by rw [Int.add_sub_cancel]
      exact ⟨_, by omega, k + 1, rfl, by omega, by omega, rfl, rfl⟩
    · refine rd_I (.inl ⟨by omega, by omega⟩) ?_
      have e := Tm.ticks_is hT h1 (by omega)
      rw [e]
      exact q
end
end Lh
namespace Lh
open PySem PySem.Spec PyProof.Rows L2
section
variable {P : Program} {w : World} {K : PySem.W.Frag} {mg : Str → Option Value} {base : Heap} {C_Terms C_Keeper C_BadTerms C_LeaseError C_Back C_NoKeeper C_NotAsked : Addr}
abbrev s__law_asked : Stmt := top 18
abbrev N__law_asked : List Str := ["_law_keeper", "_law_way", "_law_clock", "_law_name", "_law_number", "_law_kept", "_law_found", "e", "_law_good"]
theorem sc__law_asked : FnScope ["_law_keeper", "_law_way", "_law_clock", "_law_name", "_law_number", "_law_kept", "_law_found", "e", "_law_good"] ["_law_keeper", "_law_way", "_law_clock", "_law_name", "_law_number"] (defScope s__law_asked) := ⟨rfl, rfl, rfl, by decide +kernel, rfl, by decide +kernel, by decide +kernel⟩
theorem ok__law_asked {f : Addr} {fd : FuncData} (F : Fun K "_law_asked" "_law_asked" s__law_asked f fd) (TK : KTxt K C_Keeper) (X_Back : ExT K mg "Back" C_Back) (g_LeaseError : mg "LeaseError" = some (.ref C_LeaseError)) (g_BadTerms : mg "BadTerms" = some (.ref C_BadTerms)) (g_NoKeeper : mg "NoKeeper" = some (.ref C_NoKeeper)) (g_NotAsked : mg "NotAsked" = some (.ref C_NotAsked))
    (z_isinstance : mg "isinstance" = none) (z_ValueError : mg "ValueError" = none)
    (em : PySem.W.exmOne K (.ref C_Back) (.ref C_LeaseError) = some true) (k2 : PySem.W.kitOne K (.ref C_Back) (.type "ValueError") = some true)
    (k3 : PySem.W.kitAny K (.ref C_Back) [.ref C_BadTerms, .ref C_NoKeeper, .ref C_NotAsked] = some false)
    (D_Keeper_asked : MtB P w K mg base (L2.CX P w) 3 C_Keeper "asked" ["self", "clock", "name", "number"] (spAsked C_Keeper C_Terms C_Back)) (D_Keeper_freed : MtB P w K mg base (L2.CX P w) 2 C_Keeper "freed" ["self", "clock", "name", "number"] (spFreed C_Keeper C_Back))
    (D_Keeper_let_to : MtB P w K mg base (L2.CX P w) 2 C_Keeper "let_to" ["self", "clock"] (spLetTo C_Keeper C_Back)) :
    FnOk P w K mg base CX0 4 f fd ["_law_keeper", "_law_way", "_law_clock", "_law_name", "_law_number"] (spAskedL2 C_Keeper C_Terms) := by
  refine F.ok sc__law_asked (fun vs H Q E h => ?_) (fun cdv A outer s H vs Q E hr h => ?_)
  · obtain ⟨p, t, T, st, way, c, n, q, a, b, rfl, _⟩ := h
    rfl
  · obtain ⟨p, t, T, st, way, c, n, q, a, b, rfl, hK, hT, hq, k⟩ := h
    obtain ⟨g_Back, k_Back, x_Back, sb_Back, ty_Back, ec_Back⟩ := X_Back
    obtain ⟨f_Keeper_asked, fd_Keeper_asked, G_Keeper_asked, M_Keeper_asked, b_Keeper_asked⟩ := D_Keeper_asked
    obtain ⟨f_Keeper_freed, fd_Keeper_freed, G_Keeper_freed, M_Keeper_freed, b_Keeper_freed⟩ := D_Keeper_freed
    obtain ⟨f_Keeper_let_to, fd_Keeper_let_to, G_Keeper_let_to, M_Keeper_let_to, b_Keeper_let_to⟩ := D_Keeper_let_to
    have c_Keeper := TK.cl
    obtain ⟨dx, nm, nu, hp, ho⟩ := id hK
    have back : c < st.clock → kStep T.wait way c n a b st = (st, .str "back") := fun h => by simp only [kStep, if_pos h]
    have ok0 : st.clock ≤ c → way = 0 → kStep T.wait way c n a b st = ((kAsk T.wait c n a b st).1, .bl (kAsk T.wait c n a b st).2) := fun h h0 => by simp only [kStep, if_neg (show ¬ c < st.clock by omega), if_pos h0]
    have ok1 : st.clock ≤ c → ¬ way = 0 → way = 1 → kStep T.wait way c n a b st = (kFree c n a b st, .non) := fun h h0 h1 => by simp only [kStep, if_neg (show ¬ c < st.clock by omega), if_neg h0, if_pos h1]
    have ok2 : st.clock ≤ c → ¬ way = 0 → ¬ way = 1 → kStep T.wait way c n a b st = (⟨c, st.ends, st.own⟩, kLet c st) := fun h h0 h1 => by simp only [kStep, if_neg (show ¬ c < st.clock by omega), if_neg h0, if_neg h1]
    refine ⟨_, (pss_cons (ps_set (i := 5) sc__law_asked.nd rfl (Or.inl rfl) pe_non)
    (pss_cons (ps_set (i := 6) sc__law_asked.nd rfl (Or.inl rfl) pe_non)
    (pss_cons (ps_try_keep (i := 7) rfl rfl rfl sc__law_asked.nd rfl rfl ⟨by rfl, by decide, Or.inl g_LeaseError⟩
    (fun W pn xe tk _ => (pss_one (ps_if (pt_cmpR op_eq (pv 1) pe_int (nomark _))
    (pss_one (ps_set (i := 6) sc__law_asked.nd rfl (Or.inl rfl) (pe_methT (pv 0) c_Keeper M_Keeper_asked G_Keeper_asked (hr.mono (by decide)) b_Keeper_asked (fun σ => passAt tk σ) (pa_cons (pv 2) (pa_cons (pv 3) (pa_cons (pv 4) pa_nil))))))
    (pss_one (ps_if (pt_cmpR op_eq (pv 1) pe_int (nomark _))
    (pss_one (ps_set (i := 6) sc__law_asked.nd rfl (Or.inl rfl) (pe_methT (pv 0) c_Keeper M_Keeper_freed G_Keeper_freed (hr.mono (by decide)) b_Keeper_freed (fun σ => passAt tk σ) (pa_cons (pv 2) (pa_cons (pv 3) (pa_cons (pv 4) pa_nil))))))
    (pss_one (ps_set (i := 6) sc__law_asked.nd rfl (Or.inl rfl) (pe_methT (pv 0) c_Keeper M_Keeper_let_to G_Keeper_let_to (hr.mono (by decide)) b_Keeper_let_to (fun σ => passAt tk σ) (pa_cons (pv 2) pa_nil)))))))))
    (fun a oe cls d pn hz hf => (pss_one (ps_set (i := 5) sc__law_asked.nd rfl (Or.inl rfl) (pv 7)))))
    (pss_cons (ps_if (pt_cmpR op_isno (pv 5) pe_non (nomark _))
    (pss_one (ps_ret (pv 6)))
    pss_nil)
    (pss_cons (ps_set (i := 8) sc__law_asked.nd rfl (Or.inl rfl) (pe_and (pe_callB call_isX (by rfl) z_isinstance (by decide +kernel) (pa_cons (pv 5) (pa_cons (pe_glob (v := .ref C_Back) (by rfl) g_Back rfl) pa_nil))) (pe_one (pe_callB call_isX (by rfl) z_isinstance (by decide +kernel) (pa_cons (pv 5) (pa_cons (pe_bltn (v := .ty "ValueError") (by rfl) z_ValueError (by decide +kernel) rfl) pa_nil))))))
    (pss_one (ps_ret (pe_ifExp (PW.pt (pw_and (pt_val (pv 8)) (pw_and1 (pt_not (pt_val (pe_callB call_isXT (by rfl) z_isinstance (by decide +kernel) (pa_cons (pv 5) (pa_cons (pe_tup (pa_cons (pe_glob (v := .ref C_BadTerms) (by rfl) g_BadTerms rfl) (pa_cons (pe_glob (v := .ref C_NoKeeper) (by rfl) g_NoKeeper rfl) (pa_cons (pe_glob (v := .ref C_NotAsked) (by rfl) g_NotAsked rfl) pa_nil)))) pa_nil)))))))) pe_str pe_str)))))))), ?_⟩
    walk_at "rd"
    · refine ⟨p, t, st, T, c, n, q, a, b, rfl, hK, hT, hq, fun hb => ⟨rfl, em, fun x hx => ?_⟩, fun hc H' hK' hk => ?_⟩
      · rw [back hb] at k
        walk_at "rdm"
        refine rd_isX (.own _) (by walk_at "hp") ec_Back kit_self ?_
        walk_at "rdm"
        refine rd_isX (.ty _) (by walk_at "hp") ec_Back k2 ?_
        walk_at "rdm"
        refine rd_isXT (by walk_at "hp") (.cons (.own _) (.cons (.own _) (.cons (.own _) .nil))) (by walk_at "hp") ec_Back k3 ?_
        walk_at "rdm"
        refine k _ (KAt.same ?_ hK) (Same.kp ?_)
        all_goals exact (Same.upd hx).trans (by assumption)
      · rw [ok0 hc (by assumption)] at k
        walk_at "rdm"
        exact k _ hK' hk
    · refine ⟨p, t, st, c, n, q, a, b, rfl, hK, hq, fun hb => ⟨rfl, em, fun x hx => ?_⟩, fun hc H' hK' hk => ?_⟩
      · rw [back hb] at k
        walk_at "rdm"
        refine rd_isX (.own _) (by walk_at "hp") ec_Back kit_self ?_
        walk_at "rdm"
        refine rd_isX (.ty _) (by walk_at "hp") ec_Back k2 ?_
        walk_at "rdm"
        refine rd_isXT (by walk_at "hp") (.cons (.own _) (.cons (.own _) (.cons (.own _) .nil))) (by walk_at "hp") ec_Back k3 ?_
        walk_at "rdm"
        refine k _ (KAt.same ?_ hK) (Same.kp ?_)
        all_goals exact (Same.upd hx).trans (by assumption)
      · rw [ok1 hc (by assumption) (by assumption)] at k
        walk_at "rdm"
        exact k _ hK' hk
    · refine ⟨p, t, st, c, rfl, hK, fun hb => ⟨rfl, em, fun x hx => ?_⟩, fun hc H' hK' hk => ?_⟩
      · rw [back hb] at k
        walk_at "rdm"
        refine rd_isX (.own _) (by walk_at "hp") ec_Back kit_self ?_
        walk_at "rdm"
        refine rd_isX (.ty _) (by walk_at "hp") ec_Back k2 ?_
        walk_at "rdm"
        refine rd_isXT (by walk_at "hp") (.cons (.own _) (.cons (.own _) (.cons (.own _) .nil))) (by walk_at "hp") ec_Back k3 ?_
        walk_at "rdm"
        refine k _ (KAt.same ?_ hK) (Same.kp ?_)
        all_goals exact (Same.upd hx).trans (by assumption)
      · rw [ok2 hc (by assumption) (by assumption)] at k
        walk_at "rdm"
        exact k _ hK' hk
abbrev s__law_due : Stmt := top 19
abbrev N__law_due : List Str := ["_law_world", "_law_wait_here", "_law_way", "_law_clock", "_law_name", "_law_number", "_law_is_let"]
theorem sc__law_due : FnScope ["_law_world", "_law_wait_here", "_law_way", "_law_clock", "_law_name", "_law_number", "_law_is_let"] ["_law_world", "_law_wait_here", "_law_way", "_law_clock", "_law_name", "_law_number"] (defScope s__law_due) := ⟨rfl, rfl, rfl, by decide +kernel, rfl, by decide +kernel, by decide +kernel⟩
theorem ok__law_due {f : Addr} {fd : FuncData} (F : Fun K "_law_due" "_law_due" s__law_due f fd) (z_min : mg "min" = none) : FnOk P w K mg base CX0 1 f fd ["_law_world", "_law_wait_here", "_law_way", "_law_clock", "_law_name", "_law_number"] spDue2 := by
  refine F.ok sc__law_due (fun vs H Q E h => ?_) (fun cdv A outer s H vs Q E hr h => ?_)
  · obtain ⟨d, wt, st, way, c, n, q, a, b, rfl, _⟩ := h
    rfl
  · obtain ⟨d, wt, ⟨c0, e, own⟩, way, c, n, q, a, b, rfl, ⟨nm, nu, hd, ho⟩, hq, hw, k⟩ := h
    have hu := hu_of hr
    dsimp only at hd ho
    have hqd : q ≠ d := ne_of hq hd (by intro z; cases z)
    have h4 : ∀ c u nm nu, (wf2 c u nm nu).length < sizeLine := fun _ _ _ _ => sz_lt (Nat.le_of_ble_eq_true rfl)
    have back : c < c0 → kStep wt way c n a b ⟨c0, e, own⟩ = (⟨c0, e, own⟩, .str "back") := fun h => by simp only [kStep, if_pos h]
    have ok0 : c0 ≤ c → way = 0 → kStep wt way c n a b ⟨c0, e, own⟩ = ((kAsk wt c n a b ⟨c0, e, own⟩).1, .bl (kAsk wt c n a b ⟨c0, e, own⟩).2) := fun h h0 => by simp only [kStep, if_neg (show ¬ c < c0 by omega), if_pos h0]
    have ok1 : c0 ≤ c → ¬ way = 0 → way = 1 → kStep wt way c n a b ⟨c0, e, own⟩ = (kFree c n a b ⟨c0, e, own⟩, .non) := fun h h0 h1 => by simp only [kStep, if_neg (show ¬ c < c0 by omega), if_neg h0, if_pos h1]
    have ok2 : c0 ≤ c → ¬ way = 0 → ¬ way = 1 → kStep wt way c n a b ⟨c0, e, own⟩ = (⟨c, e, own⟩, kLet c ⟨c0, e, own⟩) := fun h h0 h1 => by simp only [kStep, if_neg (show ¬ c < c0 by omega), if_neg h0, if_neg h1]
    refine ⟨_, (pss_cons (ps_if (pt_cmpR op_lt (pv 3) (pe_dget hu (pv 0) pe_str (fun _ _ => rfl)) (nomark _))
    (pss_one (ps_ret pe_str))
    pss_nil)
    (pss_cons (ps_dput hu (pv 0) pe_str (pv 3) rfl)
    (pss_cons (ps_set (i := 6) sc__law_due.nd rfl (Or.inl rfl) (pe_cmpR op_lt (pv 3) (pe_dget hu (pv 0) pe_str (fun _ _ => rfl)) (nomark _)))
    (pss_cons (ps_if (pt_cmpR op_eq (pv 2) pe_int (nomark _))
    (pss_one (ps_ret (pe_ifExp (pt_val (pv 6)) (pe_dget hu (pv 0) pe_str (fun _ _ => rfl)) pe_non)))
    pss_nil)
    (pss_cons (ps_if (pt_cmpR op_eq (pv 2) pe_int (nomark _))
    (pss_cons (ps_if (PW.pt (pw_and (pt_cmpR op_eq (pe_dget hu (pv 0) pe_str (fun _ _ => rfl)) (pv 4) (nomark _)) (pw_and1 (pt_cmpR (op_geP hr.units0) (pv 5) (pe_dget hu (pv 0) pe_str (fun _ _ => rfl)) (nomark _)))))
    (pss_one (ps_dput hu (pv 0) pe_str (pe_callB (cr_min2 rfl) (by rfl) z_min (by decide +kernel) (pa_cons (pe_dget hu (pv 0) pe_str (fun _ _ => rfl)) (pa_cons (pv 3) pa_nil))) rfl))
    pss_nil)
    (pss_one (ps_ret pe_non)))
    pss_nil)
    (pss_cons (ps_if (PW.pt (pw_and (pt_val (pv 6)) (pw_and1 (PW.pt (pw_or (pt_cmpR op_ne (pe_dget hu (pv 0) pe_str (fun _ _ => rfl)) (pv 4) (nomark _)) (pw_or1 (pt_cmpR (op_ltP hr.units0) (pv 5) (pe_dget hu (pv 0) pe_str (fun _ _ => rfl)) (nomark _))))))))
    (pss_one (ps_ret pe_bl))
    pss_nil)
    (pss_cons (ps_if (PW.pt (pw_or (pt_not (pt_val (pv 6))) (pw_or1 (pt_cmpR (op_neP hr.units) (pv 5) (pe_dget hu (pv 0) pe_str (fun _ _ => rfl)) (nomark _)))))
    (pss_one (ps_expr (pe_bm PySem.F.plainAttrs_dict PySem.F.slot_dict_update PySem.F.type_dict_update mt_updateK (pv 0) (pa_cons (pe_disp (pps_cons pe_str (pv 4) (pps_cons pe_str (pv 5) (pps_cons pe_str (pe_op op_add (pv 3) (pv 1)) pps_nil))) (by rfl) (by rfl) (fun z => by cases z) (by decide)) pa_nil))))
    pss_nil)
    (pss_one (ps_ret pe_bl))))))))), ?_⟩
    by_cases hb : c < c0
    · rw [back hb] at k
      walk_at "rd"
      exact k _ ⟨nm, nu, hd, ho⟩ fun _ _ _ e => e
    · have hc : c0 ≤ c := by omega
      walk_at "rd"
      refine dputs hd (h4 _ _ _ _) wf2_clock ?_
      have t1 : ∀ q xs, H q = some (.tup xs) → (upd H d (.dK (wf2 c e nm nu))) q = some (.tup xs) := fun q xs hq => by rw [upd_ne (ne_of hq hd (by intro z; cases z))]; exact hq
      have ho1 := ho.to t1
      by_cases w0 : way = 0
      · rw [ok0 hc w0] at k
        by_cases h1 : c < e
        · match own, ho, ho1 with
          | none, ⟨z1, z2⟩, _ =>
            subst z1 z2
            have e1 : kAsk wt c n a b ⟨c0, e, none⟩ = (⟨c, e, none⟩, false) := by simp only [kAsk, if_pos h1]
            rw [e1] at k
            walk_at "rd"
            exact k _ ⟨_, _, upd_same, rfl, rfl⟩ kp_upd
          | some (n', a', b'), ⟨z1, q', z2, hq'⟩, ho1 =>
            subst z1 z2
            have hqd' : q' ≠ d := ne_of hq' hd (by intro z; cases z)
            by_cases h2 : n = n'
            · by_cases h3 : a < a' ∨ a = a' ∧ b < b'
              · have e1 : kAsk wt c n a b ⟨c0, e, some (n', a', b')⟩ = (⟨c, e, some (n', a', b')⟩, false) := by simp only [kAsk, if_pos h1, if_pos h2, if_pos h3]
                rw [e1] at k
                walk_at "rd"
                exact k _ ⟨_, _, upd_same, ho1⟩ kp_upd
              · by_cases h4' : a = a' ∧ b = b'
                · have e1 : kAsk wt c n a b ⟨c0, e, some (n', a', b')⟩ = (⟨c, e, some (n', a', b')⟩, true) := by simp only [kAsk, if_pos h1, if_pos h2, if_neg h3, if_pos h4']
                  rw [e1] at k
                  walk_at "rd"
                  exact k _ ⟨_, _, upd_same, ho1⟩ kp_upd
                · have e1 : kAsk wt c n a b ⟨c0, e, some (n', a', b')⟩ = (⟨c, c + wt, some (n, a, b)⟩, true) := by simp only [kAsk, if_pos h1, if_pos h2, if_neg h3, if_neg h4']
                  rw [e1] at k
                  walk_at "rd"
                  refine rd_disp fun m hm => ?_
                  have hdm : d ≠ m := ne_of_none upd_same hm
                  have hqm : q ≠ m := ne_of_none (t1 q _ hq) hm
                  walk_at "rd"
                  refine dspk (up3 _ _ _) upd_same rfl (Nat.le_of_ble_eq_true rfl) up3_new ?_
                  walk_at "rd"
                  refine rd_updK (kvs := wf2 c e _ _) (by walk_at "hp") upd_same hdm (sz_le (Nat.le_of_ble_eq_true rfl)) wf2_up ?_
                  walk_at "rd"
                  refine k _ ⟨_, _, upd_same, rfl, q, rfl, by walk_at "hp"⟩ fun b o hb e => ?_
                  have hbm : b ≠ m := ne_of_none ((upd_ne hb).trans e) hm
                  rw [upd_ne hb, upd_ne hbm, upd_ne hbm, upd_ne hb]
                  exact e
            · have e1 : kAsk wt c n a b ⟨c0, e, some (n', a', b')⟩ = (⟨c, e, some (n', a', b')⟩, false) := by simp only [kAsk, if_pos h1, if_neg h2]
              rw [e1] at k
              walk_at "rd"
              exact k _ ⟨_, _, upd_same, ho1⟩ kp_upd
        · have e1 : kAsk wt c n a b ⟨c0, e, own⟩ = (⟨c, c + wt, some (n, a, b)⟩, true) := by simp only [kAsk, if_neg h1]
          rw [e1] at k
          walk_at "rd"
          refine rd_disp fun m hm => ?_
          have hdm : d ≠ m := ne_of_none upd_same hm
          have hqm : q ≠ m := ne_of_none (t1 q _ hq) hm
          walk_at "rd"
          refine dspk (up3 _ _ _) upd_same rfl (Nat.le_of_ble_eq_true rfl) up3_new ?_
          walk_at "rd"
          refine rd_updK (kvs := wf2 c e _ _) (by walk_at "hp") upd_same hdm (sz_le (Nat.le_of_ble_eq_true rfl)) wf2_up ?_
          walk_at "rd"
          refine k _ ⟨_, _, upd_same, rfl, q, rfl, by walk_at "hp"⟩ fun b o hb e => ?_
          have hbm : b ≠ m := ne_of_none ((upd_ne hb).trans e) hm
          rw [upd_ne hb, upd_ne hbm, upd_ne hbm, upd_ne hb]
          exact e
      · by_cases w1 : way = 1
        · rw [ok1 hc w0 w1] at k
          match own, ho, ho1 with
          | none, ⟨z1, z2⟩, _ =>
            subst z1 z2
            have e1 : kFree c n a b ⟨c0, e, none⟩ = ⟨c, e, none⟩ := rfl
            rw [e1] at k
            walk_at "rd"
            exact k _ ⟨_, _, upd_same, rfl, rfl⟩ kp_upd
          | some (n', a', b'), ⟨z1, q', z2, hq'⟩, ho1 =>
            subst z1 z2
            have hqd' : q' ≠ d := ne_of hq' hd (by intro z; cases z)
            by_cases h2 : n = n' ∧ ¬ (a < a' ∨ a = a' ∧ b < b')
            · have e1 : kFree c n a b ⟨c0, e, some (n', a', b')⟩ = ⟨c, min e c, some (n', a', b')⟩ := by simp only [kFree, if_pos h2]
              rw [e1] at k
              walk_at "rd"
              refine dputs upd_same (h4 _ _ _ _) wf2_until ?_
              walk_at "rd"
              refine k _ ⟨_, _, upd_same, rfl, q', rfl, by walk_at "hp"⟩ ?_
              walk_at "kp"
            · have e1 : kFree c n a b ⟨c0, e, some (n', a', b')⟩ = ⟨c, e, some (n', a', b')⟩ := by simp only [kFree, if_neg h2]
              rw [e1] at k
              walk_at "rd"
              all_goals exact k _ ⟨_, _, upd_same, ho1⟩ kp_upd
        · rw [ok2 hc w0 w1] at k
          by_cases h1 : c < e
          · walk_at "rd"
            have e1 : kLet c ⟨c0, e, own⟩ = nm := by
              simp only [kLet, if_pos h1]
              match own, ho with
              | none, ⟨z1, _⟩ => exact z1.symm
              | some (n', a', b'), ⟨z1, _⟩ => exact z1.symm
            rw [e1] at k
            exact k _ ⟨_, _, upd_same, ho1⟩ kp_upd
          · walk_at "rd"
            have e1 : kLet c ⟨c0, e, own⟩ = .non := by simp only [kLet, if_neg h1]
            rw [e1] at k
            exact k _ ⟨_, _, upd_same, ho1⟩ kp_upd
end
end Lh
namespace Lh
open PySem PySem.Spec PyProof.Rows L2
def spLaw (K : PySem.W.Frag) : Sp := fun vs H Q _ => ∃ (a : Addr) (ns : List Int), vs = [.ref a] ∧ SqL K H a (ns.map V.int) ∧ ∀ H', Q (.bl true) H'
section
variable {P : Program} {w : World} {K : PySem.W.Frag} {mg : Str → Option Value} {base : Heap} {C_Terms C_Keeper C_BadTerms : Addr}
abbrev s_law : Stmt := top 20
abbrev N_law : List Str := ["_law_script", "_law_terms_here", "_law_wait_here", "_law_clock", "_law_keeper", "_law_world", "_law_k", "_law_number", "_law_some", "_law_step", "_law_way", "_law_name", "_law_ask", "_law_found", "_law_due_here"]
theorem sc_law : FnScope ["_law_script", "_law_terms_here", "_law_wait_here", "_law_clock", "_law_keeper", "_law_world", "_law_k", "_law_number", "_law_some", "_law_step", "_law_way", "_law_name", "_law_ask", "_law_found", "_law_due_here"] ["_law_script"] (defScope s_law) := ⟨rfl, rfl, rfl, by decide +kernel, rfl, by decide +kernel, by decide +kernel⟩
theorem ok_law {f : Addr} {fd : FuncData} (F : Fun K "law" "law" s_law f fd) (z_isinstance : mg "isinstance" = none) (z_bool : mg "bool" = none) (z_int : mg "int" = none) (z_range : mg "range" = none)
    (D__law_mix : FnB P w K mg base CX0 2 "_law_mix" ["_law_script", "_law_k"] (spMix K)) (D__law_terms : FnB P w K mg base CX0 3 "_law_terms" ["_law_script", "_law_k"] (spTerms K)) (D__law_wait : FnB P w K mg base CX0 1 "_law_wait" ["_law_terms_here"] spWait)
    (D__law_asked : FnB P w K mg base CX0 4 "_law_asked" ["_law_keeper", "_law_way", "_law_clock", "_law_name", "_law_number"] (spAskedL2 C_Keeper C_Terms)) (D__law_due : FnB P w K mg base CX0 1 "_law_due" ["_law_world", "_law_wait_here", "_law_way", "_law_clock", "_law_name", "_law_number"] spDue2)
    (D_Terms_init : MkB P w K mg base (L2.CX P w) 1 "Terms" C_Terms ["self", "low", "high", "length", "keepers"] (spTI C_Terms C_BadTerms)) (D_Keeper_init : MkB P w K mg base CX0 3 "Keeper" C_Keeper ["self", "terms", "clock"] (spKI C_Keeper C_Terms)) :
    FnOk P w K mg base CX0 5 f fd ["_law_script"] (spLaw K) := by
  refine F.ok sc_law (fun vs H Q E h => ?_) (fun cdv A outer s H vs Q E hr h => ?_)
  · obtain ⟨a, ns, rfl, _⟩ := h
    rfl
  · obtain ⟨a, ns, rfl, hS, q⟩ := h
    obtain ⟨f__law_mix, fd__law_mix, G__law_mix, g__law_mix, k__law_mix, b__law_mix⟩ := D__law_mix
    obtain ⟨f__law_terms, fd__law_terms, G__law_terms, g__law_terms, k__law_terms, b__law_terms⟩ := D__law_terms
    obtain ⟨f__law_wait, fd__law_wait, G__law_wait, g__law_wait, k__law_wait, b__law_wait⟩ := D__law_wait
    obtain ⟨f__law_asked, fd__law_asked, G__law_asked, g__law_asked, k__law_asked, b__law_asked⟩ := D__law_asked
    obtain ⟨f__law_due, fd__law_due, G__law_due, g__law_due, k__law_due, b__law_due⟩ := D__law_due
    obtain ⟨f_Terms_init, fd_Terms_init, G_Terms_init, M_Terms, g_Terms, b_Terms_init⟩ := D_Terms_init
    obtain ⟨f_Keeper_init, fd_Keeper_init, G_Keeper_init, M_Keeper, g_Keeper, b_Keeper_init⟩ := D_Keeper_init
    have hu := hu_of hr
    refine ⟨_, (pss_cons (ps_set (i := 1) sc_law.nd rfl (Or.inl rfl) (pe_call G__law_terms (hr.mono (by decide)) rfl g__law_terms k__law_terms b__law_terms .nil pass0 (pa_cons (pv 0) (pa_cons pe_int pa_nil))))
    (pss_cons (ps_set (i := 2) sc_law.nd rfl (Or.inl rfl) (pe_call G__law_wait (hr.mono (by decide)) rfl g__law_wait k__law_wait b__law_wait .nil pass0 (pa_cons (pv 1) pa_nil)))
    (pss_cons (ps_set (i := 3) sc_law.nd rfl (Or.inl rfl) (pe_ix ix_list (pe_lst (pa_cons pe_int (pa_cons (pe_un un_neg pe_int) (pa_cons pe_int (pa_cons pe_int pa_nil))))) (pe_op op_mod (pe_call G__law_mix (hr.mono (by decide)) rfl g__law_mix k__law_mix b__law_mix .nil pass0 (pa_cons (pv 0) (pa_cons pe_int pa_nil))) pe_int) (fun _ _ => rfl)))
    (pss_cons (ps_set (i := 4) sc_law.nd rfl (Or.inl rfl) (pe_make M_Keeper G_Keeper_init (hr.mono (by decide)) rfl g_Keeper b_Keeper_init .nil pass0 (pa_cons (pe_make M_Terms G_Terms_init (hr.mono (by decide)) rfl g_Terms b_Terms_init .nil passL (pa_cons (pe_ix ix_tup (pv 1) pe_int (fun _ _ => rfl)) (pa_cons (pe_ix ix_tup (pv 1) pe_int (fun _ _ => rfl)) (pa_cons (pe_ix ix_tup (pv 1) pe_int (fun _ _ => rfl)) (pa_cons (pe_ix ix_tup (pv 1) pe_int (fun _ _ => rfl)) pa_nil))))) (pa_cons (pv 3) pa_nil))))
    (pss_cons (ps_set (i := 5) sc_law.nd rfl (Or.inl rfl) (pe_disp (pps_cons pe_str (pv 3) (pps_cons pe_str (pe_op op_add (pv 3) (pv 2)) (pps_cons pe_str pe_non (pps_cons pe_str pe_non pps_nil)))) (by rfl) (by rfl) (fun z => by cases z) (by decide)))
    (pss_cons (ps_for PassesOwn.never rfl (pi_range1 (by rfl) z_range (pa_cons (pe_op op_mod (pe_call G__law_mix (hr.mono (by decide)) rfl g__law_mix k__law_mix b__law_mix .nil pass0 (pa_cons (pv 0) (pa_cons pe_int pa_nil))) pe_int) pa_nil)) (pg_name (i := 6) sc_law.nd rfl (Or.inl rfl))
    (pss_cons (ps_set (i := 7) sc_law.nd rfl (Or.inl rfl) (pe_call G__law_mix (hr.mono (by decide)) rfl g__law_mix k__law_mix b__law_mix .nil pass0 (pa_cons (pv 0) (pa_cons (pe_op op_add pe_int (pv 6)) pa_nil))))
    (pss_cons (ps_set (i := 8) sc_law.nd rfl (Or.inl rfl) (pe_lst (pa_cons pe_int (pa_cons pe_int (pa_cons pe_int (pa_cons (pe_op op_fdiv (pv 2) pe_int) (pa_cons (pe_op op_sub (pv 2) pe_int) (pa_cons (pv 2) (pa_cons (pe_op op_add (pv 2) pe_int) (pa_cons (pe_un un_neg pe_int) pa_nil))))))))))
    (pss_cons (ps_set (i := 9) sc_law.nd rfl (Or.inl rfl) (pe_ix ix_list (pv 8) (pe_op op_sub (pe_op op_mod (pv 7) pe_int) (pe_callTy cr_int1 (by rfl) z_int (by decide +kernel) (pa_cons (pe_and (pe_cmpR op_eq (pe_op op_mod (pv 7) pe_int) pe_int (nomark _)) (pe_one (pe_cmpR op_gt (pe_op op_mod (pe_op op_fdiv (pv 7) pe_int) pe_int) pe_int (nomark _)))) pa_nil))) (fun _ _ => rfl)))
    (pss_cons (ps_set (i := 3) sc_law.nd rfl (Or.inl rfl) (pe_op op_add (pe_dget hu (pv 5) pe_str (fun _ _ => rfl)) (pv 9)))
    (pss_cons (ps_set (i := 10) sc_law.nd rfl (Or.inl rfl) (pe_ix ix_list (pe_lst (pa_cons pe_int (pa_cons pe_int (pa_cons pe_int (pa_cons pe_int (pa_cons pe_int pa_nil)))))) (pe_op op_mod (pe_op op_fdiv (pv 7) pe_int) pe_int) (fun _ _ => rfl)))
    (pss_cons (ps_set (i := 11) sc_law.nd rfl (Or.inl rfl) (pe_ix ix_list (pe_lst (pa_cons pe_int (pa_cons pe_int (pa_cons pe_int (pa_cons (pe_un un_neg pe_int) pa_nil))))) (pe_op op_mod (pe_op op_fdiv (pv 7) pe_int) pe_int) (fun _ _ => rfl)))
    (pss_cons (ps_set (i := 12) sc_law.nd rfl (Or.inl rfl) (pe_tup (pa_cons (pe_op op_mod (pe_op op_fdiv (pv 7) pe_int) pe_int) (pa_cons (pe_op op_mod (pe_op op_fdiv (pv 7) pe_int) pe_int) pa_nil))))
    (pss_cons (ps_set (i := 13) sc_law.nd rfl (Or.inl rfl) (pe_call G__law_asked (hr.mono (by decide)) rfl g__law_asked k__law_asked b__law_asked .nil pass0 (pa_cons (pv 4) (pa_cons (pv 10) (pa_cons (pv 3) (pa_cons (pv 11) (pa_cons (pv 12) pa_nil)))))))
    (pss_cons (ps_set (i := 14) sc_law.nd rfl (Or.inl rfl) (pe_call G__law_due (hr.mono (by decide)) rfl g__law_due k__law_due b__law_due .nil pass0 (pa_cons (pv 5) (pa_cons (pv 2) (pa_cons (pv 10) (pa_cons (pv 3) (pa_cons (pv 11) (pa_cons (pv 12) pa_nil))))))))
    (pss_one (ps_if (PW.pt (pw_or (pt_cmpR op_ne (pe_callB call_isi (by rfl) z_isinstance (by decide +kernel) (pa_cons (pv 13) (pa_cons (pe_bltn (v := .ty "bool") (by rfl) z_bool (by decide +kernel) rfl) pa_nil))) (pe_callB call_isi (by rfl) z_isinstance (by decide +kernel) (pa_cons (pv 14) (pa_cons (pe_bltn (v := .ty "bool") (by rfl) z_bool (by decide +kernel) rfl) pa_nil))) (nomark _)) (pw_or1 (pt_cmpR (op_neD hr.units) (pv 13) (pv 14) (nomark _)))))
    (pss_one (ps_ret pe_bl))
    pss_nil))))))))))))
    (pss_one (ps_ret pe_bl)))))))), ?_⟩
    walk_at "rdm"
    refine spTerms_use hS fun th H1 T hT h5 hl hn s1 fth hth => ?_
    walk_at "rdm"
    refine spWait_use hth hT h5 hl ?_
    walk_at "rdm"
    intro x dx hx hdx hne
    refine ⟨x, dx, T, rfl, upd_same, fun _ H2 hT2 hk => ⟨rfl, ?_⟩, fun z => (z hT).elim⟩
    have s2 := made_same hx hdx hk
    walk_at "rdm"
    intro p dp hp hdp hnp
    refine ⟨p, dp, x, T, _, rfl, upd_same, hT2.same (same_made hp hdp), fun H3 hK hk2 => ⟨rfl, ?_⟩⟩
    have s3 := made_same hp hdp hk2
    have hT3 := hT2.same s3
    walk_at "rdm"
    refine rd_disp fun d hd => ?_
    walk_at "rdm"
    refine dspk_n (wf2 _ _ _ _) hd rfl (Nat.le_of_ble_eq_true rfl) wf2_new fun H4 s4 hd4 => ?_
    have hW : WAt2 H4 d ⟨_, _, none⟩ := ⟨_, _, hd4, rfl, rfl⟩
    have hK4 := hK.same s4
    have hT4 := hT3.same s4
    have hS4 : SqL K H4 a (ns.map V.int) := by walk_at "sq"
    walk_at "rdm"
    refine rng1 (by omega) (by omega) ?_
    refine forR (fun i σ H => ∃ st v3 v6 v7 v8 v9 v10 v11 v12 v13 v14, σ = [some (.ref a), some (.ref th), some (.int T.wait), v3, some (.ref p), some (.ref d), v6, v7, v8, v9, v10, v11, v12, v13, v14] ∧
      KAt C_Keeper H p x st ∧ TAt C_Terms H x T ∧ WAt2 H d st ∧ SqL K H a (ns.map V.int)) ⟨_, _, _, _, _, _, _, _, _, _, _, rfl, hK4, hT4, hW, hS4⟩ ?_ ?_
    · rintro i σ H5 hi ⟨st, v3, v6, v7, v8, v9, v10, v11, v12, v13, v14, rfl, hK5, hT5, hW5, hS5⟩
      obtain ⟨nm, nu, hd5, ho5⟩ := id hW5
      obtain ⟨dk, nm', nu', hp5, _⟩ := id hK5
      obtain ⟨_, dt, ht5⟩ := id hT5
      have hxp : x ≠ p := tk_ne ht5 hp5
      have hdp' : d ≠ p := ne_of hd5 hp5 (by intro z; cases z)
      walk_at "rdm"
      all_goals
        rename_i H6 _ _ hq6
        have s6 : Same H5 H6 := by walk_at "sm"
        refine ⟨p, x, T, st, _, _, _, _, _, _, rfl, hK5.same s6, hT5.same s6, hq6, fun H7 hK7 hk7 => ?_⟩
        have hp6 := s6 _ _ hp5
        have t7 := tup_kp hp6 ins_tup hk7
        have hT7 := (hT5.same s6).kp hxp hk7
        have hW7 := (hW5.same s6).kp hdp' t7 hk7
        have hS7 := sql_kp hp6 ins_lst ins_frz hk7 (s6.seq hS5)
        have hq7 := t7 _ _ hq6
        obtain ⟨nm7, nu7, hd7, ho7⟩ := id hW7
        walk_at "rdm"
        refine ⟨d, T.wait, st, _, _, _, _, _, _, rfl, hW7, hq7, ?hway, fun H8 hW8 hk8 => ?_⟩
        case hway =>
          have h := ‹V.int _ ∈ [V.int 0, V.int 0, V.int 0, V.int 1, V.int 2]›
          simp only [List.mem_cons, List.not_mem_nil, or_false, V.int.injEq] at h
          omega
        have t8 := tup_kp hd7 dk_tup hk8
        have hp7 : H7 p = some _ := hK7.choose_spec.choose_spec.choose_spec.1
        have hK8 := hK7.kp (ne_symm' hdp') t8 hk8
        have hxd : x ≠ d := ne_of (hT7.at_.choose_spec) hd7 (by intro z; cases z)
        have hT8 := hT7.kp hxd hk8
        have hS8 := sql_kp hd7 dk_lst dk_frz hk8 hS7
        walk_at "rdm"
        obtain ⟨tt, bb, ty, ek⟩ := isb_of (K := K) (H := H8) (kStep_out T.wait _ _ _ _ _ st)
        refine rd_isi (.ty _) ty ek ?_
        walk_at "rdm"
        refine rd_isi (.ty _) ty ek ?_
        walk_at "rdm"
        refine bif_me ?_
        walk_at "rdm"
        obtain ⟨dd, hdd, sh, ev⟩ := dp_of (K := K) (H := H8) (kStep_out T.wait _ _ _ _ _ st)
        refine rd_neD hdd hdd sh sh ?_
        rw [ev]
        walk_at "rdm"
        exact ⟨_, _, _, _, _, _, _, _, _, _, _, rfl, hK8, hT8, hW8, hS8⟩
    · rintro σ H5 ⟨st, v3, v6, v7, v8, v9, v10, v11, v12, v13, v14, rfl, hK5, hT5, hW5, hS5⟩
      walk_at "rdm"
      exact q _
end
end Lh
namespace Lh
open PySem PySem.Spec PyProof.Rows L2
theorem all_mk {l : PySem.W.OpenLaw} {w : World} {K : PySem.W.Frag} {h : Heap} {mg : Str → Option Value} {fa : Addr} (X : K.In h) (G : h.Ns mainGlobals mg) (hfa : mg "law" = some (.ref fa))
    {C_Terms C_Keeper C_LeaseError C_BadTerms C_Back C_NoKeeper C_NotAsked f_Terms_init f_Terms_ticks f_Terms_wait f_Terms_most f_Keeper_init f_Keeper_look f_Keeper_is_let f_Keeper_asked f_Keeper_freed f_Keeper_let_to f__law_cell f__law_mix f__law_terms f__law_wait f__law_asked f__law_due f_law : Addr}
    {od_Terms_init an_Terms_init : Option Addr} {sl_Terms_init : Array (Option Value)} {oc_Terms_init kV_Terms_init dc_Terms_init pm_Terms_init cd_Terms_init ct_Terms_init : Value}
    {od_Terms_ticks an_Terms_ticks : Option Addr} {sl_Terms_ticks : Array (Option Value)} {oc_Terms_ticks kV_Terms_ticks dc_Terms_ticks pm_Terms_ticks cd_Terms_ticks ct_Terms_ticks : Value}
    {od_Terms_wait an_Terms_wait : Option Addr} {sl_Terms_wait : Array (Option Value)} {oc_Terms_wait kV_Terms_wait dc_Terms_wait pm_Terms_wait cd_Terms_wait ct_Terms_wait : Value}
    {od_Terms_most an_Terms_most : Option Addr} {sl_Terms_most : Array (Option Value)} {oc_Terms_most kV_Terms_most dc_Terms_most pm_Terms_most cd_Terms_most ct_Terms_most : Value}
    {od_Keeper_init an_Keeper_init : Option Addr} {sl_Keeper_init : Array (Option Value)} {oc_Keeper_init kV_Keeper_init dc_Keeper_init pm_Keeper_init cd_Keeper_init ct_Keeper_init : Value}
    {od_Keeper_look an_Keeper_look : Option Addr} {sl_Keeper_look : Array (Option Value)} {oc_Keeper_look kV_Keeper_look dc_Keeper_look pm_Keeper_look cd_Keeper_look ct_Keeper_look : Value}
    {od_Keeper_is_let an_Keeper_is_let : Option Addr} {sl_Keeper_is_let : Array (Option Value)} {oc_Keeper_is_let kV_Keeper_is_let dc_Keeper_is_let pm_Keeper_is_let cd_Keeper_is_let ct_Keeper_is_let : Value}
    {od_Keeper_asked an_Keeper_asked : Option Addr} {sl_Keeper_asked : Array (Option Value)} {oc_Keeper_asked kV_Keeper_asked dc_Keeper_asked pm_Keeper_asked cd_Keeper_asked ct_Keeper_asked : Value}
    {od_Keeper_freed an_Keeper_freed : Option Addr} {sl_Keeper_freed : Array (Option Value)} {oc_Keeper_freed kV_Keeper_freed dc_Keeper_freed pm_Keeper_freed cd_Keeper_freed ct_Keeper_freed : Value}
    {od_Keeper_let_to an_Keeper_let_to : Option Addr} {sl_Keeper_let_to : Array (Option Value)} {oc_Keeper_let_to kV_Keeper_let_to dc_Keeper_let_to pm_Keeper_let_to cd_Keeper_let_to ct_Keeper_let_to : Value}
    {od__law_cell an__law_cell : Option Addr} {sl__law_cell : Array (Option Value)} {oc__law_cell kV__law_cell dc__law_cell pm__law_cell cd__law_cell ct__law_cell : Value}
    {od__law_mix an__law_mix : Option Addr} {sl__law_mix : Array (Option Value)} {oc__law_mix kV__law_mix dc__law_mix pm__law_mix cd__law_mix ct__law_mix : Value}
    {od__law_terms an__law_terms : Option Addr} {sl__law_terms : Array (Option Value)} {oc__law_terms kV__law_terms dc__law_terms pm__law_terms cd__law_terms ct__law_terms : Value}
    {od__law_wait an__law_wait : Option Addr} {sl__law_wait : Array (Option Value)} {oc__law_wait kV__law_wait dc__law_wait pm__law_wait cd__law_wait ct__law_wait : Value}
    {od__law_asked an__law_asked : Option Addr} {sl__law_asked : Array (Option Value)} {oc__law_asked kV__law_asked dc__law_asked pm__law_asked cd__law_asked ct__law_asked : Value}
    {od__law_due an__law_due : Option Addr} {sl__law_due : Array (Option Value)} {oc__law_due kV__law_due dc__law_due pm__law_due cd__law_due ct__law_due : Value}
    {od_law an_law : Option Addr} {sl_law : Array (Option Value)} {oc_law kV_law dc_law pm_law cd_law ct_law : Value}
    {t_MOST_STEP t_MOST_LENGTH t_MOST_KEEPERS : Tok}
    (aC_Terms : PySem.W.nsIn K mainGlobals "Terms" = some (some (.ref C_Terms)))
    (pg_Terms : PySem.W.plainGet K C_Terms Str.empty = true)
    (hd_Terms : PySem.W.hasDictIn K C_Terms = true)
    (po_Terms : PySem.W.plainOver K C_Terms = true)
    (sa_Terms : PySem.W.findIn K (.ref C_Terms) "__setattr__" = some (some (.builtin "object.__setattr__")))
    (mk_Terms : PySem.W.makesIn K C_Terms = true)
    (kc_Terms : PySem.W.keepIn K (.ref C_Terms) = true)
    (n_Terms_low : PySem.W.findIn K (.ref C_Terms) "low" = some none)
    (n_Terms_high : PySem.W.findIn K (.ref C_Terms) "high" = some none)
    (n_Terms_length : PySem.W.findIn K (.ref C_Terms) "length" = some none)
    (n_Terms_keepers : PySem.W.findIn K (.ref C_Terms) "keepers" = some none)
    (aC_Keeper : PySem.W.nsIn K mainGlobals "Keeper" = some (some (.ref C_Keeper)))
    (pg_Keeper : PySem.W.plainGet K C_Keeper Str.empty = true)
    (hd_Keeper : PySem.W.hasDictIn K C_Keeper = true)
    (po_Keeper : PySem.W.plainOver K C_Keeper = true)
    (sa_Keeper : PySem.W.findIn K (.ref C_Keeper) "__setattr__" = some (some (.builtin "object.__setattr__")))
    (mk_Keeper : PySem.W.makesIn K C_Keeper = true)
    (kc_Keeper : PySem.W.keepIn K (.ref C_Keeper) = true)
    (n_Keeper_terms : PySem.W.findIn K (.ref C_Keeper) "terms" = some none)
    (n_Keeper_clock : PySem.W.findIn K (.ref C_Keeper) "clock" = some none)
    (n_Keeper_ends : PySem.W.findIn K (.ref C_Keeper) "ends" = some none)
    (n_Keeper_name : PySem.W.findIn K (.ref C_Keeper) "name" = some none)
    (n_Keeper_number : PySem.W.findIn K (.ref C_Keeper) "number" = some none)
    (aX_LeaseError : PySem.W.nsIn K mainGlobals "LeaseError" = some (some (.ref C_LeaseError)))
    (xk_LeaseError : PySem.W.keepIn K (.ref C_LeaseError) = true)
    (xq_LeaseError : PySem.W.excIn K C_LeaseError [.type "ValueError", .type "Exception", .type "BaseException", .type "object"] "ValueError.__new__" = true)
    (xs_LeaseError : PySem.W.subIn K (.ref C_LeaseError) (.type "BaseException") = some true)
    (xt_LeaseError : PySem.W.typeIn K (.ref C_LeaseError) = some (.type "type"))
    (e1_LeaseError : PySem.W.findIn K (.ref C_LeaseError) "__getattribute__" = some (some (.builtin "BaseException.__getattribute__")))
    (e2_LeaseError : PySem.W.findIn K (.ref C_LeaseError) "__getattr__" = some none)
    (e4_LeaseError : PySem.W.hasDictIn K C_LeaseError = true)
    (e5_LeaseError : PySem.W.findIn K (.ref C_LeaseError) "__class__" = some (some (.builtin "object.__class__")))
    (e6_LeaseError : PySem.W.specialIn K (.builtin "object.__class__") "__get__" = some (some (.builtin "getset_descriptor.__get__")))
    (e7_LeaseError : PySem.W.takesIn K (.builtin "object.__class__") = some true)
    (e8_LeaseError : PySem.W.mroIn K C_LeaseError (.type "object") = some true)
    (aX_BadTerms : PySem.W.nsIn K mainGlobals "BadTerms" = some (some (.ref C_BadTerms)))
    (xk_BadTerms : PySem.W.keepIn K (.ref C_BadTerms) = true)
    (xq_BadTerms : PySem.W.excIn K C_BadTerms [.type "ValueError", .type "Exception", .type "BaseException", .type "object"] "ValueError.__new__" = true)
    (xs_BadTerms : PySem.W.subIn K (.ref C_BadTerms) (.type "BaseException") = some true)
    (xt_BadTerms : PySem.W.typeIn K (.ref C_BadTerms) = some (.type "type"))
    (e1_BadTerms : PySem.W.findIn K (.ref C_BadTerms) "__getattribute__" = some (some (.builtin "BaseException.__getattribute__")))
    (e2_BadTerms : PySem.W.findIn K (.ref C_BadTerms) "__getattr__" = some none)
    (e4_BadTerms : PySem.W.hasDictIn K C_BadTerms = true)
    (e5_BadTerms : PySem.W.findIn K (.ref C_BadTerms) "__class__" = some (some (.builtin "object.__class__")))
    (e6_BadTerms : PySem.W.specialIn K (.builtin "object.__class__") "__get__" = some (some (.builtin "getset_descriptor.__get__")))
    (e7_BadTerms : PySem.W.takesIn K (.builtin "object.__class__") = some true)
    (e8_BadTerms : PySem.W.mroIn K C_BadTerms (.type "object") = some true)
    (aX_Back : PySem.W.nsIn K mainGlobals "Back" = some (some (.ref C_Back)))
    (xk_Back : PySem.W.keepIn K (.ref C_Back) = true)
    (xq_Back : PySem.W.excIn K C_Back [.type "ValueError", .type "Exception", .type "BaseException", .type "object"] "ValueError.__new__" = true)
    (xs_Back : PySem.W.subIn K (.ref C_Back) (.type "BaseException") = some true)
    (xt_Back : PySem.W.typeIn K (.ref C_Back) = some (.type "type"))
    (e1_Back : PySem.W.findIn K (.ref C_Back) "__getattribute__" = some (some (.builtin "BaseException.__getattribute__")))
    (e2_Back : PySem.W.findIn K (.ref C_Back) "__getattr__" = some none)
    (e4_Back : PySem.W.hasDictIn K C_Back = true)
    (e5_Back : PySem.W.findIn K (.ref C_Back) "__class__" = some (some (.builtin "object.__class__")))
    (e6_Back : PySem.W.specialIn K (.builtin "object.__class__") "__get__" = some (some (.builtin "getset_descriptor.__get__")))
    (e7_Back : PySem.W.takesIn K (.builtin "object.__class__") = some true)
    (e8_Back : PySem.W.mroIn K C_Back (.type "object") = some true)
    (aX_NoKeeper : PySem.W.nsIn K mainGlobals "NoKeeper" = some (some (.ref C_NoKeeper)))
    (xk_NoKeeper : PySem.W.keepIn K (.ref C_NoKeeper) = true)
    (xq_NoKeeper : PySem.W.excIn K C_NoKeeper [.type "ValueError", .type "Exception", .type "BaseException", .type "object"] "ValueError.__new__" = true)
    (xs_NoKeeper : PySem.W.subIn K (.ref C_NoKeeper) (.type "BaseException") = some true)
    (xt_NoKeeper : PySem.W.typeIn K (.ref C_NoKeeper) = some (.type "type"))
    (e1_NoKeeper : PySem.W.findIn K (.ref C_NoKeeper) "__getattribute__" = some (some (.builtin "BaseException.__getattribute__")))
    (e2_NoKeeper : PySem.W.findIn K (.ref C_NoKeeper) "__getattr__" = some none)
    (e4_NoKeeper : PySem.W.hasDictIn K C_NoKeeper = true)
    (e5_NoKeeper : PySem.W.findIn K (.ref C_NoKeeper) "__class__" = some (some (.builtin "object.__class__")))
    (e6_NoKeeper : PySem.W.specialIn K (.builtin "object.__class__") "__get__" = some (some (.builtin "getset_descriptor.__get__")))
    (e7_NoKeeper : PySem.W.takesIn K (.builtin "object.__class__") = some true)
    (e8_NoKeeper : PySem.W.mroIn K C_NoKeeper (.type "object") = some true)
    (aX_NotAsked : PySem.W.nsIn K mainGlobals "NotAsked" = some (some (.ref C_NotAsked)))
    (xk_NotAsked : PySem.W.keepIn K (.ref C_NotAsked) = true)
    (xq_NotAsked : PySem.W.excIn K C_NotAsked [.type "ValueError", .type "Exception", .type "BaseException", .type "object"] "ValueError.__new__" = true)
    (xs_NotAsked : PySem.W.subIn K (.ref C_NotAsked) (.type "BaseException") = some true)
    (xt_NotAsked : PySem.W.typeIn K (.ref C_NotAsked) = some (.type "type"))
    (e1_NotAsked : PySem.W.findIn K (.ref C_NotAsked) "__getattribute__" = some (some (.builtin "BaseException.__getattribute__")))
    (e2_NotAsked : PySem.W.findIn K (.ref C_NotAsked) "__getattr__" = some none)
    (e4_NotAsked : PySem.W.hasDictIn K C_NotAsked = true)
    (e5_NotAsked : PySem.W.findIn K (.ref C_NotAsked) "__class__" = some (some (.builtin "object.__class__")))
    (e6_NotAsked : PySem.W.specialIn K (.builtin "object.__class__") "__get__" = some (some (.builtin "getset_descriptor.__get__")))
    (e7_NotAsked : PySem.W.takesIn K (.builtin "object.__class__") = some true)
    (e8_NotAsked : PySem.W.mroIn K C_NotAsked (.type "object") = some true)
    (a_Terms_init : PySem.W.findIn K (.ref C_Terms) "__init__" = some (some (.ref f_Terms_init)))
    (i_Terms_init : PySem.W.isFn K (.ref f_Terms_init) = true)
    (l_Terms_init : K.lookup f_Terms_init = some ⟨oc_Terms_init, od_Terms_init, .func (PySem.W.fnOf "__init__" "Terms.__init__" (defArgs s_Terms_init) (defBody s_Terms_init) (defScope s_Terms_init) .none kV_Terms_init dc_Terms_init pm_Terms_init an_Terms_init cd_Terms_init ct_Terms_init), sl_Terms_init⟩)
    (c_Terms_init : PySem.W.codeIn K cd_Terms_init "Terms.__init__" = true)
    (k_Terms_init : PySem.W.keepIn K (.ref f_Terms_init) = true)
    (a_Terms_ticks : PySem.W.findIn K (.ref C_Terms) "ticks" = some (some (.ref f_Terms_ticks)))
    (i_Terms_ticks : PySem.W.isFn K (.ref f_Terms_ticks) = true)
    (l_Terms_ticks : K.lookup f_Terms_ticks = some ⟨oc_Terms_ticks, od_Terms_ticks, .func (PySem.W.fnOf "ticks" "Terms.ticks" (defArgs s_Terms_ticks) (defBody s_Terms_ticks) (defScope s_Terms_ticks) .none kV_Terms_ticks dc_Terms_ticks pm_Terms_ticks an_Terms_ticks cd_Terms_ticks ct_Terms_ticks), sl_Terms_ticks⟩)
    (c_Terms_ticks : PySem.W.codeIn K cd_Terms_ticks "Terms.ticks" = true)
    (k_Terms_ticks : PySem.W.keepIn K (.ref f_Terms_ticks) = true)
    (a_Terms_wait : PySem.W.findIn K (.ref C_Terms) "wait" = some (some (.ref f_Terms_wait)))
    (i_Terms_wait : PySem.W.isFn K (.ref f_Terms_wait) = true)
    (l_Terms_wait : K.lookup f_Terms_wait = some ⟨oc_Terms_wait, od_Terms_wait, .func (PySem.W.fnOf "wait" "Terms.wait" (defArgs s_Terms_wait) (defBody s_Terms_wait) (defScope s_Terms_wait) .none kV_Terms_wait dc_Terms_wait pm_Terms_wait an_Terms_wait cd_Terms_wait ct_Terms_wait), sl_Terms_wait⟩)
    (c_Terms_wait : PySem.W.codeIn K cd_Terms_wait "Terms.wait" = true)
    (k_Terms_wait : PySem.W.keepIn K (.ref f_Terms_wait) = true)
    (a_Terms_most : PySem.W.findIn K (.ref C_Terms) "most" = some (some (.ref f_Terms_most)))
    (i_Terms_most : PySem.W.isFn K (.ref f_Terms_most) = true)
    (l_Terms_most : K.lookup f_Terms_most = some ⟨oc_Terms_most, od_Terms_most, .func (PySem.W.fnOf "most" "Terms.most" (defArgs s_Terms_most) (defBody s_Terms_most) (defScope s_Terms_most) .none kV_Terms_most dc_Terms_most pm_Terms_most an_Terms_most cd_Terms_most ct_Terms_most), sl_Terms_most⟩)
    (c_Terms_most : PySem.W.codeIn K cd_Terms_most "Terms.most" = true)
    (k_Terms_most : PySem.W.keepIn K (.ref f_Terms_most) = true)
    (a_Keeper_init : PySem.W.findIn K (.ref C_Keeper) "__init__" = some (some (.ref f_Keeper_init)))
    (i_Keeper_init : PySem.W.isFn K (.ref f_Keeper_init) = true)
    (l_Keeper_init : K.lookup f_Keeper_init = some ⟨oc_Keeper_init, od_Keeper_init, .func (PySem.W.fnOf "__init__" "Keeper.__init__" (defArgs s_Keeper_init) (defBody s_Keeper_init) (defScope s_Keeper_init) .none kV_Keeper_init dc_Keeper_init pm_Keeper_init an_Keeper_init cd_Keeper_init ct_Keeper_init), sl_Keeper_init⟩)
    (c_Keeper_init : PySem.W.codeIn K cd_Keeper_init "Keeper.__init__" = true)
    (k_Keeper_init : PySem.W.keepIn K (.ref f_Keeper_init) = true)
    (a_Keeper_look : PySem.W.findIn K (.ref C_Keeper) "look" = some (some (.ref f_Keeper_look)))
    (i_Keeper_look : PySem.W.isFn K (.ref f_Keeper_look) = true)
    (l_Keeper_look : K.lookup f_Keeper_look = some ⟨oc_Keeper_look, od_Keeper_look, .func (PySem.W.fnOf "look" "Keeper.look" (defArgs s_Keeper_look) (defBody s_Keeper_look) (defScope s_Keeper_look) .none kV_Keeper_look dc_Keeper_look pm_Keeper_look an_Keeper_look cd_Keeper_look ct_Keeper_look), sl_Keeper_look⟩)
    (c_Keeper_look : PySem.W.codeIn K cd_Keeper_look "Keeper.look" = true)
    (k_Keeper_look : PySem.W.keepIn K (.ref f_Keeper_look) = true)
    (a_Keeper_is_let : PySem.W.findIn K (.ref C_Keeper) "is_let" = some (some (.ref f_Keeper_is_let)))
    (i_Keeper_is_let : PySem.W.isFn K (.ref f_Keeper_is_let) = true)
    (l_Keeper_is_let : K.lookup f_Keeper_is_let = some ⟨oc_Keeper_is_let, od_Keeper_is_let, .func (PySem.W.fnOf "is_let" "Keeper.is_let" (defArgs s_Keeper_is_let) (defBody s_Keeper_is_let) (defScope s_Keeper_is_let) .none kV_Keeper_is_let dc_Keeper_is_let pm_Keeper_is_let an_Keeper_is_let cd_Keeper_is_let ct_Keeper_is_let), sl_Keeper_is_let⟩)
    (c_Keeper_is_let : PySem.W.codeIn K cd_Keeper_is_let "Keeper.is_let" = true)
    (k_Keeper_is_let : PySem.W.keepIn K (.ref f_Keeper_is_let) = true)
    (a_Keeper_asked : PySem.W.findIn K (.ref C_Keeper) "asked" = some (some (.ref f_Keeper_asked)))
    (i_Keeper_asked : PySem.W.isFn K (.ref f_Keeper_asked) = true)
    (l_Keeper_asked : K.lookup f_Keeper_asked = some ⟨oc_Keeper_asked, od_Keeper_asked, .func (PySem.W.fnOf "asked" "Keeper.asked" (defArgs s_Keeper_asked) (defBody s_Keeper_asked) (defScope s_Keeper_asked) .none kV_Keeper_asked dc_Keeper_asked pm_Keeper_asked an_Keeper_asked cd_Keeper_asked ct_Keeper_asked), sl_Keeper_asked⟩)
    (c_Keeper_asked : PySem.W.codeIn K cd_Keeper_asked "Keeper.asked" = true)
    (k_Keeper_asked : PySem.W.keepIn K (.ref f_Keeper_asked) = true)
    (a_Keeper_freed : PySem.W.findIn K (.ref C_Keeper) "freed" = some (some (.ref f_Keeper_freed)))
    (i_Keeper_freed : PySem.W.isFn K (.ref f_Keeper_freed) = true)
    (l_Keeper_freed : K.lookup f_Keeper_freed = some ⟨oc_Keeper_freed, od_Keeper_freed, .func (PySem.W.fnOf "freed" "Keeper.freed" (defArgs s_Keeper_freed) (defBody s_Keeper_freed) (defScope s_Keeper_freed) .none kV_Keeper_freed dc_Keeper_freed pm_Keeper_freed an_Keeper_freed cd_Keeper_freed ct_Keeper_freed), sl_Keeper_freed⟩)
    (c_Keeper_freed : PySem.W.codeIn K cd_Keeper_freed "Keeper.freed" = true)
    (k_Keeper_freed : PySem.W.keepIn K (.ref f_Keeper_freed) = true)
    (a_Keeper_let_to : PySem.W.findIn K (.ref C_Keeper) "let_to" = some (some (.ref f_Keeper_let_to)))
    (i_Keeper_let_to : PySem.W.isFn K (.ref f_Keeper_let_to) = true)
    (l_Keeper_let_to : K.lookup f_Keeper_let_to = some ⟨oc_Keeper_let_to, od_Keeper_let_to, .func (PySem.W.fnOf "let_to" "Keeper.let_to" (defArgs s_Keeper_let_to) (defBody s_Keeper_let_to) (defScope s_Keeper_let_to) .none kV_Keeper_let_to dc_Keeper_let_to pm_Keeper_let_to an_Keeper_let_to cd_Keeper_let_to ct_Keeper_let_to), sl_Keeper_let_to⟩)
    (c_Keeper_let_to : PySem.W.codeIn K cd_Keeper_let_to "Keeper.let_to" = true)
    (k_Keeper_let_to : PySem.W.keepIn K (.ref f_Keeper_let_to) = true)
    (a__law_cell : PySem.W.nsIn K mainGlobals "_law_cell" = some (some (.ref f__law_cell)))
    (l__law_cell : K.lookup f__law_cell = some ⟨oc__law_cell, od__law_cell, .func (PySem.W.fnOf "_law_cell" "_law_cell" (defArgs s__law_cell) (defBody s__law_cell) (defScope s__law_cell) .none kV__law_cell dc__law_cell pm__law_cell an__law_cell cd__law_cell ct__law_cell), sl__law_cell⟩)
    (c__law_cell : PySem.W.codeIn K cd__law_cell "_law_cell" = true)
    (k__law_cell : PySem.W.keepIn K (.ref f__law_cell) = true)
    (a__law_mix : PySem.W.nsIn K mainGlobals "_law_mix" = some (some (.ref f__law_mix)))
    (l__law_mix : K.lookup f__law_mix = some ⟨oc__law_mix, od__law_mix, .func (PySem.W.fnOf "_law_mix" "_law_mix" (defArgs s__law_mix) (defBody s__law_mix) (defScope s__law_mix) .none kV__law_mix dc__law_mix pm__law_mix an__law_mix cd__law_mix ct__law_mix), sl__law_mix⟩)
    (c__law_mix : PySem.W.codeIn K cd__law_mix "_law_mix" = true)
    (k__law_mix : PySem.W.keepIn K (.ref f__law_mix) = true)
    (a__law_terms : PySem.W.nsIn K mainGlobals "_law_terms" = some (some (.ref f__law_terms)))
    (l__law_terms : K.lookup f__law_terms = some ⟨oc__law_terms, od__law_terms, .func (PySem.W.fnOf "_law_terms" "_law_terms" (defArgs s__law_terms) (defBody s__law_terms) (defScope s__law_terms) .none kV__law_terms dc__law_terms pm__law_terms an__law_terms cd__law_terms ct__law_terms), sl__law_terms⟩)
    (c__law_terms : PySem.W.codeIn K cd__law_terms "_law_terms" = true)
    (k__law_terms : PySem.W.keepIn K (.ref f__law_terms) = true)
    (a__law_wait : PySem.W.nsIn K mainGlobals "_law_wait" = some (some (.ref f__law_wait)))
    (l__law_wait : K.lookup f__law_wait = some ⟨oc__law_wait, od__law_wait, .func (PySem.W.fnOf "_law_wait" "_law_wait" (defArgs s__law_wait) (defBody s__law_wait) (defScope s__law_wait) .none kV__law_wait dc__law_wait pm__law_wait an__law_wait cd__law_wait ct__law_wait), sl__law_wait⟩)
    (c__law_wait : PySem.W.codeIn K cd__law_wait "_law_wait" = true)
    (k__law_wait : PySem.W.keepIn K (.ref f__law_wait) = true)
    (a__law_asked : PySem.W.nsIn K mainGlobals "_law_asked" = some (some (.ref f__law_asked)))
    (l__law_asked : K.lookup f__law_asked = some ⟨oc__law_asked, od__law_asked, .func (PySem.W.fnOf "_law_asked" "_law_asked" (defArgs s__law_asked) (defBody s__law_asked) (defScope s__law_asked) .none kV__law_asked dc__law_asked pm__law_asked an__law_asked cd__law_asked ct__law_asked), sl__law_asked⟩)
    (c__law_asked : PySem.W.codeIn K cd__law_asked "_law_asked" = true)
    (k__law_asked : PySem.W.keepIn K (.ref f__law_asked) = true)
    (a__law_due : PySem.W.nsIn K mainGlobals "_law_due" = some (some (.ref f__law_due)))
    (l__law_due : K.lookup f__law_due = some ⟨oc__law_due, od__law_due, .func (PySem.W.fnOf "_law_due" "_law_due" (defArgs s__law_due) (defBody s__law_due) (defScope s__law_due) .none kV__law_due dc__law_due pm__law_due an__law_due cd__law_due ct__law_due), sl__law_due⟩)
    (c__law_due : PySem.W.codeIn K cd__law_due "_law_due" = true)
    (k__law_due : PySem.W.keepIn K (.ref f__law_due) = true)
    (a_law : PySem.W.nsIn K mainGlobals "law" = some (some (.ref f_law)))
    (l_law : K.lookup f_law = some ⟨oc_law, od_law, .func (PySem.W.fnOf "law" "law" (defArgs s_law) (defBody s_law) (defScope s_law) .none kV_law dc_law pm_law an_law cd_law ct_law), sl_law⟩)
    (c_law : PySem.W.codeIn K cd_law "law" = true)
    (k_law : PySem.W.keepIn K (.ref f_law) = true)
    (z0_len : PySem.W.nsIn K mainGlobals "len" = some none)
    (z0_isinstance : PySem.W.nsIn K mainGlobals "isinstance" = some none)
    (z0_int : PySem.W.nsIn K mainGlobals "int" = some none)
    (z0_bool : PySem.W.nsIn K mainGlobals "bool" = some none)
    (z0_ValueError : PySem.W.nsIn K mainGlobals "ValueError" = some none)
    (z0_min : PySem.W.nsIn K mainGlobals "min" = some none)
    (z0_range : PySem.W.nsIn K mainGlobals "range" = some none)
    (g0_MOST_STEP : PySem.W.nsIn K mainGlobals "MOST_STEP" = some (some (.int 1000 t_MOST_STEP)))
    (g0_MOST_LENGTH : PySem.W.nsIn K mainGlobals "MOST_LENGTH" = some (some (.int 1000000 t_MOST_LENGTH)))
    (g0_MOST_KEEPERS : PySem.W.nsIn K mainGlobals "MOST_KEEPERS" = some (some (.int 9 t_MOST_KEEPERS)))
    (sL_Back : PySem.W.subIn K (.ref C_Back) (.ref C_LeaseError) = some true)
    (sV_Back : PySem.W.subIn K (.ref C_Back) (.type "ValueError") = some true)
    (s_Back_BadTerms : PySem.W.subIn K (.ref C_Back) (.ref C_BadTerms) = some false)
    (d_Back_BadTerms : (Value.ref C_Back == Value.ref C_BadTerms) = false)
    (s_Back_NoKeeper : PySem.W.subIn K (.ref C_Back) (.ref C_NoKeeper) = some false)
    (d_Back_NoKeeper : (Value.ref C_Back == Value.ref C_NoKeeper) = false)
    (s_Back_NotAsked : PySem.W.subIn K (.ref C_Back) (.ref C_NotAsked) = some false)
    (d_Back_NotAsked : (Value.ref C_Back == Value.ref C_NotAsked) = false)
    : ∃ fd : FuncData, (∀ (s : Shared) (v : Value), BindsTo s fd ⟨[v], []⟩ [("_law_script", v)]) ∧ ∀ base : Heap, K.In base → base.Ns mainGlobals mg → FnOk l.prog w K mg base CX0 5 fa fd ["_law_script"] (spLaw K) := by
  have e := hfa.symm.trans (PySem.W.mg_of X G a_law)
  cases e
  have g_Terms := PySem.W.mg_of X G aC_Terms
  have c_Terms : Cls K C_Terms := ⟨pg_Terms, hd_Terms, po_Terms, sa_Terms⟩
  have g_Keeper := PySem.W.mg_of X G aC_Keeper
  have c_Keeper : Cls K C_Keeper := ⟨pg_Keeper, hd_Keeper, po_Keeper, sa_Keeper⟩
  have g_LeaseError := PySem.W.mg_of X G aX_LeaseError
  have X_LeaseError : ExT K mg "LeaseError" C_LeaseError := ⟨g_LeaseError, xk_LeaseError, xq_LeaseError, xs_LeaseError, xt_LeaseError, ⟨e1_LeaseError, e2_LeaseError, xs_LeaseError, e4_LeaseError, e5_LeaseError, e6_LeaseError, e7_LeaseError, e8_LeaseError⟩⟩
  have g_BadTerms := PySem.W.mg_of X G aX_BadTerms
  have X_BadTerms : ExT K mg "BadTerms" C_BadTerms := ⟨g_BadTerms, xk_BadTerms, xq_BadTerms, xs_BadTerms, xt_BadTerms, ⟨e1_BadTerms, e2_BadTerms, xs_BadTerms, e4_BadTerms, e5_BadTerms, e6_BadTerms, e7_BadTerms, e8_BadTerms⟩⟩
  have g_Back := PySem.W.mg_of X G aX_Back
  have X_Back : ExT K mg "Back" C_Back := ⟨g_Back, xk_Back, xq_Back, xs_Back, xt_Back, ⟨e1_Back, e2_Back, xs_Back, e4_Back, e5_Back, e6_Back, e7_Back, e8_Back⟩⟩
  have g_NoKeeper := PySem.W.mg_of X G aX_NoKeeper
  have X_NoKeeper : ExT K mg "NoKeeper" C_NoKeeper := ⟨g_NoKeeper, xk_NoKeeper, xq_NoKeeper, xs_NoKeeper, xt_NoKeeper, ⟨e1_NoKeeper, e2_NoKeeper, xs_NoKeeper, e4_NoKeeper, e5_NoKeeper, e6_NoKeeper, e7_NoKeeper, e8_NoKeeper⟩⟩
  have g_NotAsked := PySem.W.mg_of X G aX_NotAsked
  have X_NotAsked : ExT K mg "NotAsked" C_NotAsked := ⟨g_NotAsked, xk_NotAsked, xq_NotAsked, xs_NotAsked, xt_NotAsked, ⟨e1_NotAsked, e2_NotAsked, xs_NotAsked, e4_NotAsked, e5_NotAsked, e6_NotAsked, e7_NotAsked, e8_NotAsked⟩⟩
  have z_len := PySem.W.mg_none_of X G z0_len
  have z_isinstance := PySem.W.mg_none_of X G z0_isinstance
  have z_int := PySem.W.mg_none_of X G z0_int
  have z_bool := PySem.W.mg_none_of X G z0_bool
  have z_ValueError := PySem.W.mg_none_of X G z0_ValueError
  have z_min := PySem.W.mg_none_of X G z0_min
  have z_range := PySem.W.mg_none_of X G z0_range
  have g_MOST_STEP := PySem.W.mg_of X G g0_MOST_STEP
  have g_MOST_LENGTH := PySem.W.mg_of X G g0_MOST_LENGTH
  have g_MOST_KEEPERS := PySem.W.mg_of X G g0_MOST_KEEPERS
  have F_Terms_init := fun_mk (st := s_Terms_init) l_Terms_init c_Terms_init k_Terms_init
  have b_Terms_init := F_Terms_init.binds (ps := ["self", "low", "high", "length", "keepers"]) fun _ _ _ _ _ _ us hl => match us, hl with | [_, _, _, _, _], _ => rfl
  have F_Terms_ticks := fun_mk (st := s_Terms_ticks) l_Terms_ticks c_Terms_ticks k_Terms_ticks
  have b_Terms_ticks := F_Terms_ticks.binds (ps := ["self"]) fun _ _ _ _ _ _ us hl => match us, hl with | [_], _ => rfl
  have F_Terms_wait := fun_mk (st := s_Terms_wait) l_Terms_wait c_Terms_wait k_Terms_wait
  have b_Terms_wait := F_Terms_wait.binds (ps := ["self"]) fun _ _ _ _ _ _ us hl => match us, hl with | [_], _ => rfl
  have F_Terms_most := fun_mk (st := s_Terms_most) l_Terms_most c_Terms_most k_Terms_most
  have b_Terms_most := F_Terms_most.binds (ps := ["self"]) fun _ _ _ _ _ _ us hl => match us, hl with | [_], _ => rfl
  have F_Keeper_init := fun_mk (st := s_Keeper_init) l_Keeper_init c_Keeper_init k_Keeper_init
  have b_Keeper_init := F_Keeper_init.binds (ps := ["self", "terms", "clock"]) fun _ _ _ _ _ _ us hl => match us, hl with | [_, _, _], _ => rfl
  have F_Keeper_look := fun_mk (st := s_Keeper_look) l_Keeper_look c_Keeper_look k_Keeper_look
  have b_Keeper_look := F_Keeper_look.binds (ps := ["self", "clock"]) fun _ _ _ _ _ _ us hl => match us, hl with | [_, _], _ => rfl
  have F_Keeper_is_let := fun_mk (st := s_Keeper_is_let) l_Keeper_is_let c_Keeper_is_let k_Keeper_is_let
  have b_Keeper_is_let := F_Keeper_is_let.binds (ps := ["self", "clock"]) fun _ _ _ _ _ _ us hl => match us, hl with | [_, _], _ => rfl
  have F_Keeper_asked := fun_mk (st := s_Keeper_asked) l_Keeper_asked c_Keeper_asked k_Keeper_asked
  have b_Keeper_asked := F_Keeper_asked.binds (ps := ["self", "clock", "name", "number"]) fun _ _ _ _ _ _ us hl => match us, hl with | [_, _, _, _], _ => rfl
  have F_Keeper_freed := fun_mk (st := s_Keeper_freed) l_Keeper_freed c_Keeper_freed k_Keeper_freed
  have b_Keeper_freed := F_Keeper_freed.binds (ps := ["self", "clock", "name", "number"]) fun _ _ _ _ _ _ us hl => match us, hl with | [_, _, _, _], _ => rfl
  have F_Keeper_let_to := fun_mk (st := s_Keeper_let_to) l_Keeper_let_to c_Keeper_let_to k_Keeper_let_to
  have b_Keeper_let_to := F_Keeper_let_to.binds (ps := ["self", "clock"]) fun _ _ _ _ _ _ us hl => match us, hl with | [_, _], _ => rfl
  have F__law_cell := fun_mk (st := s__law_cell) l__law_cell c__law_cell k__law_cell
  have b__law_cell := F__law_cell.binds (ps := ["_law_script", "_law_k"]) fun _ _ _ _ _ _ us hl => match us, hl with | [_, _], _ => rfl
  have F__law_mix := fun_mk (st := s__law_mix) l__law_mix c__law_mix k__law_mix
  have b__law_mix := F__law_mix.binds (ps := ["_law_script", "_law_k"]) fun _ _ _ _ _ _ us hl => match us, hl with | [_, _], _ => rfl
  have F__law_terms := fun_mk (st := s__law_terms) l__law_terms c__law_terms k__law_terms
  have b__law_terms := F__law_terms.binds (ps := ["_law_script", "_law_k"]) fun _ _ _ _ _ _ us hl => match us, hl with | [_, _], _ => rfl
  have F__law_wait := fun_mk (st := s__law_wait) l__law_wait c__law_wait k__law_wait
  have b__law_wait := F__law_wait.binds (ps := ["_law_terms_here"]) fun _ _ _ _ _ _ us hl => match us, hl with | [_], _ => rfl
  have F__law_asked := fun_mk (st := s__law_asked) l__law_asked c__law_asked k__law_asked
  have b__law_asked := F__law_asked.binds (ps := ["_law_keeper", "_law_way", "_law_clock", "_law_name", "_law_number"]) fun _ _ _ _ _ _ us hl => match us, hl with | [_, _, _, _, _], _ => rfl
  have F__law_due := fun_mk (st := s__law_due) l__law_due c__law_due k__law_due
  have b__law_due := F__law_due.binds (ps := ["_law_world", "_law_wait_here", "_law_way", "_law_clock", "_law_name", "_law_number"]) fun _ _ _ _ _ _ us hl => match us, hl with | [_, _, _, _, _, _], _ => rfl
  have F_law := fun_mk (st := s_law) l_law c_law k_law
  have b_law := F_law.binds (ps := ["_law_script"]) fun _ _ _ _ _ _ us hl => match us, hl with | [_], _ => rfl
  refine ⟨PySem.W.fnOf "law" "law" (defArgs s_law) (defBody s_law) (defScope s_law) .none kV_law dc_law pm_law an_law cd_law ct_law, fun s v => .of_eq rfl, fun base _ _ => ?_⟩
  have TT : TTxt K C_Terms := ⟨c_Terms, n_Terms_low, n_Terms_high, n_Terms_length, n_Terms_keepers⟩
  have TK : KTxt K C_Keeper := ⟨c_Keeper, n_Keeper_terms, n_Keeper_clock, n_Keeper_ends, n_Keeper_name, n_Keeper_number⟩
  have O1 := ok_Terms_init (P := l.prog) (w := w) (mg := mg) (base := base) F_Terms_init TT X_BadTerms ⟨_, g_MOST_STEP⟩ ⟨_, g_MOST_LENGTH⟩ ⟨_, g_MOST_KEEPERS⟩
  have D1 : MtB l.prog w K mg base CX0 1 C_Terms "ticks" ["self"] (spT0 C_Terms Tm.ticks) := ⟨_, _, ok_Terms_ticks F_Terms_ticks TT, ⟨a_Terms_ticks, i_Terms_ticks, k_Terms_ticks⟩, b_Terms_ticks⟩
  have D2 : MtB l.prog w K mg base CX0 2 C_Terms "wait" ["self"] (spT0 C_Terms Tm.wait) := ⟨_, _, ok_Terms_wait F_Terms_wait TT D1, ⟨a_Terms_wait, i_Terms_wait, k_Terms_wait⟩, b_Terms_wait⟩
  have D4 : FnB l.prog w K mg base CX0 1 "_law_cell" ["_law_script", "_law_k"] (spCell K) := ⟨_, _, ok__law_cell F__law_cell z_len, PySem.W.mg_of X G a__law_cell, k__law_cell, b__law_cell⟩
  have D5 : FnB l.prog w K mg base CX0 2 "_law_mix" ["_law_script", "_law_k"] (spMix K) := ⟨_, _, ok__law_mix F__law_mix D4, PySem.W.mg_of X G a__law_mix, k__law_mix, b__law_mix⟩
  have D6 : FnB l.prog w K mg base CX0 3 "_law_terms" ["_law_script", "_law_k"] (spTerms K) := ⟨_, _, ok__law_terms F__law_terms D5, PySem.W.mg_of X G a__law_terms, k__law_terms, b__law_terms⟩
  have D7 : FnB l.prog w K mg base CX0 1 "_law_wait" ["_law_terms_here"] spWait := ⟨_, _, ok__law_wait F__law_wait, PySem.W.mg_of X G a__law_wait, k__law_wait, b__law_wait⟩
  have E1 : MtB l.prog w K mg base (L2.CX l.prog w) 1 C_Keeper "look" ["self", "clock"] (spLookK C_Keeper C_Back) := ⟨_, _, ok_Keeper_look F_Keeper_look TK X_Back, ⟨a_Keeper_look, i_Keeper_look, k_Keeper_look⟩, b_Keeper_look⟩
  have E2 : MtB l.prog w K mg base CX0 1 C_Keeper "is_let" ["self", "clock"] (spIsLet C_Keeper) := ⟨_, _, ok_Keeper_is_let F_Keeper_is_let TK, ⟨a_Keeper_is_let, i_Keeper_is_let, k_Keeper_is_let⟩, b_Keeper_is_let⟩
  have E3 : MtB l.prog w K mg base (L2.CX l.prog w) 3 C_Keeper "asked" ["self", "clock", "name", "number"] (spAsked C_Keeper C_Terms C_Back) := ⟨_, _, ok_Keeper_asked F_Keeper_asked TK c_Terms E1 E2 D2, ⟨a_Keeper_asked, i_Keeper_asked, k_Keeper_asked⟩, b_Keeper_asked⟩
  have E4 : MtB l.prog w K mg base (L2.CX l.prog w) 2 C_Keeper "freed" ["self", "clock", "name", "number"] (spFreed C_Keeper C_Back) := ⟨_, _, ok_Keeper_freed F_Keeper_freed TK z_min E1, ⟨a_Keeper_freed, i_Keeper_freed, k_Keeper_freed⟩, b_Keeper_freed⟩
  have E5 : MtB l.prog w K mg base (L2.CX l.prog w) 2 C_Keeper "let_to" ["self", "clock"] (spLetTo C_Keeper C_Back) := ⟨_, _, ok_Keeper_let_to F_Keeper_let_to TK E1 E2, ⟨a_Keeper_let_to, i_Keeper_let_to, k_Keeper_let_to⟩, b_Keeper_let_to⟩
  have em := PySem.W.exm_ref xs_LeaseError e4_LeaseError xt_LeaseError sL_Back
  have k2 := kit_type (K := K) (by decide +kernel) sV_Back
  have k3 := kit_none3 (kit_ref d_Back_BadTerms e4_BadTerms xt_BadTerms s_Back_BadTerms) (kit_ref d_Back_NoKeeper e4_NoKeeper xt_NoKeeper s_Back_NoKeeper) (kit_ref d_Back_NotAsked e4_NotAsked xt_NotAsked s_Back_NotAsked)
  have D8 : FnB l.prog w K mg base CX0 4 "_law_asked" ["_law_keeper", "_law_way", "_law_clock", "_law_name", "_law_number"] (spAskedL2 C_Keeper C_Terms) := ⟨_, _, ok__law_asked F__law_asked TK X_Back g_LeaseError g_BadTerms g_NoKeeper g_NotAsked z_isinstance z_ValueError em k2 k3 E3 E4 E5, PySem.W.mg_of X G a__law_asked, k__law_asked, b__law_asked⟩
  have D9 : FnB l.prog w K mg base CX0 1 "_law_due" ["_law_world", "_law_wait_here", "_law_way", "_law_clock", "_law_name", "_law_number"] spDue2 := ⟨_, _, ok__law_due F__law_due z_min, PySem.W.mg_of X G a__law_due, k__law_due, b__law_due⟩
  exact ok_law F_law z_isinstance z_bool z_int z_range D5 D6 D7 D8 D9 ⟨_, _, O1, ⟨mk_Terms, a_Terms_init, i_Terms_init, kc_Terms⟩, g_Terms, b_Terms_init⟩ ⟨_, _, ok_Keeper_init F_Keeper_init TK c_Terms D2, ⟨mk_Keeper, a_Keeper_init, i_Keeper_init, kc_Keeper⟩, g_Keeper, b_Keeper_init⟩
theorem walk {l : PySem.W.OpenLaw} {q : Program} {loose : List Str} {XP : (Str → Option Value) → Heap → Prop} {YP : World → Heap → Prop} {d : DefRec} {K : Params → PySem.W.Frag} (hn : l.most = some 63) (hdf : d.params.defaults = [])
    (hY : ∀ (w : World) (h : Heap), YP w h → (K w.params).In h)
    (F : ∀ (w : World) (mg : Str → Option Value) (fa : Addr) (h : Heap), (K w.params).In h → h.Ns mainGlobals mg → mg d.name = some (.ref fa) →
      ∃ fd : FuncData, (∀ (s : Shared) (u : Value), BindsTo s fd ⟨[u], []⟩ [("_law_script", u)]) ∧ ∀ base : Heap, (K w.params).In base → base.Ns mainGlobals mg → FnOk l.prog w (K w.params) mg base CX0 5 fa fd ["_law_script"] (spLaw (K w.params))) :
    PySem.W.WalkO q loose XP YP l.row.toRowW d [] (fun f vs => PySem.call f vs) :=
  L2.walk_of (n := 63) (k := 5) (x := "_law_script") (CX := fun _ => CX0) (sp := fun w => spLaw (K w.params)) hn (by decide) hdf ⟨rfl, by decide, by decide⟩ hY F (fun _ _ a ns hl _ hS => ⟨a, ns, rfl, hS, fun _ => rfl⟩) fun _ _ _ _ _ z => z
end Lh
open PySem PySem.W PyProof.Rows
set_option maxRecDepth 100000 in
set_option maxHeartbeats 0 in
theorem PySem.Challenge.cw_leasehold_k02_keeper_holds : PySem.Challenge.rw_leasehold_k02_keeper.Holds := by
  w_on; o_law; k_head; (case hw => w_witness2)
  k_fill
  refine Lh.walk (l := PySem.Challenge.rw_leasehold_k02_keeper) rfl rfl (fun w h Y => PySem.W.kIn_of Y) ?F
  case F =>
    intro w mg fa h KX G hmg
    refine' Lh.all_mk KX G hmg ?aC_Terms ?pg_Terms ?hd_Terms ?po_Terms ?sa_Terms ?mk_Terms ?kc_Terms ?n_Terms_low ?n_Terms_high ?n_Terms_length ?n_Terms_keepers ?aC_Keeper ?pg_Keeper ?hd_Keeper ?po_Keeper ?sa_Keeper ?mk_Keeper ?kc_Keeper ?n_Keeper_terms ?n_Keeper_clock ?n_Keeper_ends ?n_Keeper_name ?n_Keeper_number ?aX_LeaseError ?xk_LeaseError ?xq_LeaseError ?xs_LeaseError ?xt_LeaseError ?e1_LeaseError ?e2_LeaseError ?e4_LeaseError ?e5_LeaseError ?e6_LeaseError ?e7_LeaseError ?e8_LeaseError ?aX_BadTerms ?xk_BadTerms ?xq_BadTerms ?xs_BadTerms ?xt_BadTerms ?e1_BadTerms ?e2_BadTerms ?e4_BadTerms ?e5_BadTerms ?e6_BadTerms ?e7_BadTerms ?e8_BadTerms ?aX_Back ?xk_Back ?xq_Back ?xs_Back ?xt_Back ?e1_Back ?e2_Back ?e4_Back ?e5_Back ?e6_Back ?e7_Back ?e8_Back ?aX_NoKeeper ?xk_NoKeeper ?xq_NoKeeper ?xs_NoKeeper ?xt_NoKeeper ?e1_NoKeeper ?e2_NoKeeper ?e4_NoKeeper ?e5_NoKeeper ?e6_NoKeeper ?e7_NoKeeper ?e8_NoKeeper ?aX_NotAsked ?xk_NotAsked ?xq_NotAsked ?xs_NotAsked ?xt_NotAsked ?e1_NotAsked ?e2_NotAsked ?e4_NotAsked ?e5_NotAsked ?e6_NotAsked ?e7_NotAsked ?e8_NotAsked ?a_Terms_init ?i_Terms_init ?l_Terms_init ?c_Terms_init ?k_Terms_init ?a_Terms_ticks ?i_Terms_ticks ?l_Terms_ticks ?c_Terms_ticks ?k_Terms_ticks ?a_Terms_wait ?i_Terms_wait ?l_Terms_wait ?c_Terms_wait ?k_Terms_wait ?a_Terms_most ?i_Terms_most ?l_Terms_most ?c_Terms_most ?k_Terms_most ?a_Keeper_init ?i_Keeper_init ?l_Keeper_init ?c_Keeper_init ?k_Keeper_init ?a_Keeper_look ?i_Keeper_look ?l_Keeper_look ?c_Keeper_look ?k_Keeper_look ?a_Keeper_is_let ?i_Keeper_is_let ?l_Keeper_is_let ?c_Keeper_is_let ?k_Keeper_is_let ?a_Keeper_asked ?i_Keeper_asked ?l_Keeper_asked ?c_Keeper_asked ?k_Keeper_asked ?a_Keeper_freed ?i_Keeper_freed ?l_Keeper_freed ?c_Keeper_freed ?k_Keeper_freed ?a_Keeper_let_to ?i_Keeper_let_to ?l_Keeper_let_to ?c_Keeper_let_to ?k_Keeper_let_to ?a__law_cell ?l__law_cell ?c__law_cell ?k__law_cell ?a__law_mix ?l__law_mix ?c__law_mix ?k__law_mix ?a__law_terms ?l__law_terms ?c__law_terms ?k__law_terms ?a__law_wait ?l__law_wait ?c__law_wait ?k__law_wait ?a__law_asked ?l__law_asked ?c__law_asked ?k__law_asked ?a__law_due ?l__law_due ?c__law_due ?k__law_due ?a_law ?l_law ?c_law ?k_law ?z0_len ?z0_isinstance ?z0_int ?z0_bool ?z0_ValueError ?z0_min ?z0_range ?g0_MOST_STEP ?g0_MOST_LENGTH ?g0_MOST_KEEPERS ?sL_Back ?sV_Back ?s_Back_BadTerms ?d_Back_BadTerms ?s_Back_NoKeeper ?d_Back_NoKeeper ?s_Back_NotAsked ?d_Back_NotAsked
    (case aC_Terms => k_is)
    (case pg_Terms => k_is)
    (case hd_Terms => k_is)
    (case po_Terms => k_is)
    (case sa_Terms => k_is)
    (case mk_Terms => k_is)
    (case kc_Terms => k_is)
    (case n_Terms_low => k_is)
    (case n_Terms_high => k_is)
    (case n_Terms_length => k_is)
    (case n_Terms_keepers => k_is)
    (case aC_Keeper => k_is)
    (case pg_Keeper => k_is)
    (case hd_Keeper => k_is)
    (case po_Keeper => k_is)
    (case sa_Keeper => k_is)
    (case mk_Keeper => k_is)
    (case kc_Keeper => k_is)
    (case n_Keeper_terms => k_is)
    (case n_Keeper_clock => k_is)
    (case n_Keeper_ends => k_is)
    (case n_Keeper_name => k_is)
    (case n_Keeper_number => k_is)
    (case aX_LeaseError => k_is)
    (case xk_LeaseError => k_is)
    (case xq_LeaseError => k_exc)
    (case xs_LeaseError => k_is)
    (case xt_LeaseError => k_is)
    (case e1_LeaseError => k_is)
    (case e2_LeaseError => k_is)
    (case e4_LeaseError => k_is)
    (case e5_LeaseError => k_is)
    (case e6_LeaseError => k_is)
    (case e7_LeaseError => k_is)
    (case e8_LeaseError => k_is)
    (case aX_BadTerms => k_is)
    (case xk_BadTerms => k_is)
    (case xq_BadTerms => k_exc)
    (case xs_BadTerms => k_is)
    (case xt_BadTerms => k_is)
    (case e1_BadTerms => k_is)
    (case e2_BadTerms => k_is)
    (case e4_BadTerms => k_is)
    (case e5_BadTerms => k_is)
    (case e6_BadTerms => k_is)
    (case e7_BadTerms => k_is)
    (case e8_BadTerms => k_is)
    (case aX_Back => k_is)
    (case xk_Back => k_is)
    (case xq_Back => k_exc)
    (case xs_Back => k_is)
    (case xt_Back => k_is)
    (case e1_Back => k_is)
    (case e2_Back => k_is)
    (case e4_Back => k_is)
    (case e5_Back => k_is)
    (case e6_Back => k_is)
    (case e7_Back => k_is)
    (case e8_Back => k_is)
    (case aX_NoKeeper => k_is)
    (case xk_NoKeeper => k_is)
    (case xq_NoKeeper => k_exc)
    (case xs_NoKeeper => k_is)
    (case xt_NoKeeper => k_is)
    (case e1_NoKeeper => k_is)
    (case e2_NoKeeper => k_is)
    (case e4_NoKeeper => k_is)
    (case e5_NoKeeper => k_is)
    (case e6_NoKeeper => k_is)
    (case e7_NoKeeper => k_is)
    (case e8_NoKeeper => k_is)
    (case aX_NotAsked => k_is)
    (case xk_NotAsked => k_is)
    (case xq_NotAsked => k_exc)
    (case xs_NotAsked => k_is)
    (case xt_NotAsked => k_is)
    (case e1_NotAsked => k_is)
    (case e2_NotAsked => k_is)
    (case e4_NotAsked => k_is)
    (case e5_NotAsked => k_is)
    (case e6_NotAsked => k_is)
    (case e7_NotAsked => k_is)
    (case e8_NotAsked => k_is)
    (case a_Terms_init => k_is)
    (case i_Terms_init => k_is)
    (case l_Terms_init => k_is)
    (case c_Terms_init => k_is)
    (case k_Terms_init => k_is)
    (case a_Terms_ticks => k_is)
    (case i_Terms_ticks => k_is)
    (case l_Terms_ticks => k_is)
    (case c_Terms_ticks => k_is)
    (case k_Terms_ticks => k_is)
    (case a_Terms_wait => k_is)
    (case i_Terms_wait => k_is)
    (case l_Terms_wait => k_is)
    (case c_Terms_wait => k_is)
    (case k_Terms_wait => k_is)
    (case a_Terms_most => k_is)
    (case i_Terms_most => k_is)
    (case l_Terms_most => k_is)
    (case c_Terms_most => k_is)
    (case k_Terms_most => k_is)
    (case a_Keeper_init => k_is)
    (case i_Keeper_init => k_is)
    (case l_Keeper_init => k_is)
    (case c_Keeper_init => k_is)
    (case k_Keeper_init => k_is)
    (case a_Keeper_look => k_is)
    (case i_Keeper_look => k_is)
    (case l_Keeper_look => k_is)
    (case c_Keeper_look => k_is)
    (case k_Keeper_look => k_is)
    (case a_Keeper_is_let => k_is)
    (case i_Keeper_is_let => k_is)
    (case l_Keeper_is_let => k_is)
    (case c_Keeper_is_let => k_is)
    (case k_Keeper_is_let => k_is)
    (case a_Keeper_asked => k_is)
    (case i_Keeper_asked => k_is)
    (case l_Keeper_asked => k_is)
    (case c_Keeper_asked => k_is)
    (case k_Keeper_asked => k_is)
    (case a_Keeper_freed => k_is)
    (case i_Keeper_freed => k_is)
    (case l_Keeper_freed => k_is)
    (case c_Keeper_freed => k_is)
    (case k_Keeper_freed => k_is)
    (case a_Keeper_let_to => k_is)
    (case i_Keeper_let_to => k_is)
    (case l_Keeper_let_to => k_is)
    (case c_Keeper_let_to => k_is)
    (case k_Keeper_let_to => k_is)
    (case a__law_cell => k_is)
    (case l__law_cell => k_is)
    (case c__law_cell => k_is)
    (case k__law_cell => k_is)
    (case a__law_mix => k_is)
    (case l__law_mix => k_is)
    (case c__law_mix => k_is)
    (case k__law_mix => k_is)
    (case a__law_terms => k_is)
    (case l__law_terms => k_is)
    (case c__law_terms => k_is)
    (case k__law_terms => k_is)
    (case a__law_wait => k_is)
    (case l__law_wait => k_is)
    (case c__law_wait => k_is)
    (case k__law_wait => k_is)
    (case a__law_asked => k_is)
    (case l__law_asked => k_is)
    (case c__law_asked => k_is)
    (case k__law_asked => k_is)
    (case a__law_due => k_is)
    (case l__law_due => k_is)
    (case c__law_due => k_is)
    (case k__law_due => k_is)
    (case a_law => k_is)
    (case l_law => k_is)
    (case c_law => k_is)
    (case k_law => k_is)
    (case z0_len => k_is)
    (case z0_isinstance => k_is)
    (case z0_int => k_is)
    (case z0_bool => k_is)
    (case z0_ValueError => k_is)
    (case z0_min => k_is)
    (case z0_range => k_is)
    (case g0_MOST_STEP => k_is)
    (case g0_MOST_LENGTH => k_is)
    (case g0_MOST_KEEPERS => k_is)
    (case sL_Back => k_is)
    (case sV_Back => k_is)
    (case s_Back_BadTerms => k_is)
    (case d_Back_BadTerms => decide)
    (case s_Back_NoKeeper => k_is)
    (case d_Back_NoKeeper => decide)
    (case s_Back_NotAsked => k_is)
    (case d_Back_NotAsked => decide)
#print axioms PySem.Challenge.cw_leasehold_k02_keeper_holds
