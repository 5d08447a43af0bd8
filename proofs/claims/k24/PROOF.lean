import PyProof.Rows.All
import Wide.All
import OpenK.AllK
import Wide.FinOn
import HandS.Iter
import HandS.Style
import HandS.DeepEq
import HandS.TupMul
import HandS.ForMost
import HandS.Wide
import HandS.IsInst
import HandS.TupAny
import HandS.Evl
import HandS.Codes
import HandS.Gcd
import HandS.OwnEq
import HandS.Defaults
import PySem.Challenge.RW_sureplay_k24_folded_statements
set_option Elab.async false
set_option linter.all false
set_option maxRecDepth 100000
set_option maxHeartbeats 4000000
set_option Elab.async false
set_option linter.all false
set_option maxRecDepth 100000
/-! Own lemmas: stepping through readings (go_), tests, heaps. No program in sight. -/
namespace Gx
open PySem PySem.Spec PyProof.Rows L2

/-! ### statements -/
section
variable {D : Ends} {σ : L2.St} {H : Hp} {t u c : TS} {te ta tb tc tl th : TE} {i : Nat} {Q : VK} {QB : Bool → Hp → Prop}
theorem go_seq (h : t { D with nx := u D } σ H) : tSeq t u D σ H := h
theorem go_cut (M : L2.St → Hp → Prop) (h : t { D with nx := M } σ H) (k : ∀ σ' H', M σ' H' → u D σ' H') : Evl.tCut t u D σ H := ⟨M, h, k⟩
theorem go_asg {g : TG} (h : te σ H fun x H1 => g x σ H1 D.nx) : tAsg te g D σ H := h
theorem go_name {v : V} {R : L2.St → Hp → Prop} (h : R (σ.set i (some v)) H) : gName i v σ H R := h
theorem go_drop (h : te σ H fun _ H1 => D.nx σ H1) : tDrop te D σ H := h
theorem go_ret (h : te σ H D.rt) : tRet te D σ H := h
theorem go_retN (h : D.rt .non H) : tRetN D σ H := h
theorem go_next (h : D.nx σ H) : tNext D σ H := h
theorem go_brk (h : D.bk σ H) : tBreak D σ H := h
theorem go_cont (h : D.ct σ H) : tCont D σ H := h
theorem go_if {tt : TT} (h : tt σ H fun b H1 => if b = true then t D σ H1 else u D σ H1) : tIfS tt t u D σ H := h
/-! ### expressions -/
theorem go_var {v : V} (e : σ[i]? = some (some v)) (h : Q v H) : tVar i σ H Q := ⟨v, e, h⟩
theorem go_c {v : V} (h : Q v H) : tC v σ H Q := h
theorem go_op {r : R2} (h : ta σ H fun x H1 => tb σ H1 fun y H2 => r x y H2 Q) : tOp r ta tb σ H Q := h
theorem go_un {r : V → Hp → VK → Prop} (h : ta σ H fun x H1 => r x H1 Q) : tUn r ta σ H Q := h
theorem go_rI0 {g : Int → Int → V} {a b : Int} (h : Q (g a b) H) : rI0 g (.int a) (.int b) H Q := ⟨a, b, rfl, rfl, h⟩
theorem go_rI {C : Int → Int → Prop} {g : Int → Int → V} {a b : Int} (hc : C a b) (h : Q (g a b) H) : rI C g (.int a) (.int b) H Q := ⟨a, b, rfl, rfl, hc, h⟩
theorem go_rU {g : Int → V} {a : Int} (h : Q (g a) H) : rU g (.int a) H Q := ⟨a, rfl, h⟩
theorem go_eqI {a b : Int} (h : Q (.bl (decide (a = b))) H) : rEq (.int a) (.int b) H Q := ⟨rfl, by simpa using h⟩
theorem go_neI {a b : Int} (h : Q (.bl (!decide (a = b))) H) : rNe (.int a) (.int b) H Q := ⟨rfl, by simpa using h⟩
theorem go_eqS {a b : Str} (h : Q (.bl (decide (a = b))) H) : rEq (.str a) (.str b) H Q := ⟨rfl, by simpa using h⟩
theorem go_neS {a b : Str} (h : Q (.bl (!decide (a = b))) H) : rNe (.str a) (.str b) H Q := ⟨rfl, by simpa using h⟩
theorem go_eqB {a b : Bool} (h : Q (.bl (decide (a = b))) H) : rEq (.bl a) (.bl b) H Q := ⟨rfl, by simpa using h⟩
theorem go_neB {a b : Bool} (h : Q (.bl (!decide (a = b))) H) : rNe (.bl a) (.bl b) H Q := ⟨rfl, by simpa using h⟩
theorem go_eqN (h : Q (.bl true) H) : rEq .non .non H Q := ⟨rfl, by simpa using h⟩
theorem ite_dt {α : Type} [DecidableEq α] {a : α} {A B : Prop} (h : A) : if decide (a = a) = true then A else B := by rw [decide_eq_true rfl]; exact h
theorem go_test (h : te σ H fun x H1 => ∃ k, x = .bl k ∧ QB k H1) : tTest te σ H QB := h
theorem go_B (h : te σ H fun x H1 => ∃ k, x = .bl k ∧ QB k H1) : tB te σ H QB := h
theorem go_bl {b : Bool} (h : QB b H) : ∃ k, V.bl b = .bl k ∧ QB k H := ⟨b, rfl, h⟩
theorem go_and {t u : TT} (h : t σ H fun b H1 => if b = true then u σ H1 QB else QB false H1) : tAnd t u σ H QB := h
theorem go_or {t u : TT} (h : t σ H fun b H1 => if b = true then QB true H1 else u σ H1 QB) : tOr t u σ H QB := h
theorem go_not {t : TT} (h : t σ H fun b H1 => QB (!b) H1) : tNot t σ H QB := h
theorem go_andV (h : ta σ H fun x H1 => ∃ c, x = .bl c ∧ if c = true then tb σ H1 Q else Q (.bl false) H1) : tAndV ta tb σ H Q := h
theorem go_orV (h : ta σ H fun x H1 => ∃ c, x = .bl c ∧ if c = true then Q (.bl true) H1 else tb σ H1 Q) : tOrV ta tb σ H Q := h
theorem go_notV (h : ta σ H fun x H1 => ∃ c, x = .bl c ∧ Q (.bl (!c)) H1) : tNotV ta σ H Q := h
theorem go_ifE {t : TT} (h : t σ H fun c H1 => if c = true then ta σ H1 Q else tb σ H1 Q) : tIf t ta tb σ H Q := h
theorem go_blA {b : Bool} {R : Bool → Prop} (h : R b) : ∃ k, V.bl b = .bl k ∧ R k := ⟨b, rfl, h⟩
theorem go_not_t {QB : Bool → Hp → Prop} (h : QB false H) : QB (!true) H := h
theorem go_not_f {QB : Bool → Hp → Prop} (h : QB true H) : QB (!false) H := h
theorem go_chain {r r' : R2} (h : ta σ H fun x H1 => tb σ H1 fun y H2 => r x y H2 fun z H3 => ∃ k, z = .bl k ∧ (if k = true then tc σ H3 fun w' H4 => r' y w' H4 Q else Q (.bl false) H3)) : tChain r r' ta tb tc σ H Q := h
/-! ### calls -/
theorem go_CB {r : List V → Hp → VK → Prop} {t : TA} (h : t σ H fun vs H1 => r vs H1 Q) : tCB r t σ H Q := h
theorem go_cons {t : TA} {R : List V → Hp → Prop} (h : ta σ H fun x H1 => t σ H1 fun xs H2 => R (x :: xs) H2) : tCons ta t σ H R := h
theorem go_nil {R : List V → Hp → Prop} (h : R [] H) : tNil σ H R := h
theorem go_call {sp : Sp} {dvs : List V} {E : XK} {t : TA} (h : t σ H fun vs H1 => sp (vs ++ dvs) H1 Q E) : tCall sp dvs E t σ H Q := h
theorem go_isi {K : PySem.W.Frag} {x c : V} {t u : Value} {b : Bool} (k : ClsV c u) (ty : TyX K H x t) (e : PySem.W.kitOne K t u = some b) (h : Q (.bl b) H) : rIsi K [x, c] H Q := ⟨x, c, t, u, b, rfl, k, ty, e, h⟩
theorem go_isiB {K : PySem.W.Frag} {x : V} {a c : String} {b : Bool} (ty : TyX K H x (.type a)) (e : kitB a c = some b) (h : Q (.bl b) H) : rIsi K [x, .ty c] H Q := ⟨x, .ty c, .type a, .type c, b, rfl, .ty c, ty, kit_ty e, h⟩
theorem go_lst {t : TA} (h : t σ H fun vs H1 => vs.length ≤ sizeLine ∧ ∀ l, H1 l = none → Q (.ref l) (upd H1 l (.lst vs))) : tLst t σ H Q := h
theorem go_tup {t : TA} (h : t σ H fun vs H1 => vs.length ≤ sizeLine ∧ ∀ l, H1 l = none → Q (.ref l) (upd H1 l (.tup vs))) : tTup t σ H Q := h
theorem go_sl {r : V → Option Int → Option Int → Hp → VK → Prop} {tlo tho : TO} (h : te σ H fun x H1 => tlo σ H1 fun lo H2 => tho σ H2 fun hi H3 => r x lo hi H3 Q) : tSl r te tlo tho σ H Q := h
theorem go_noPart {R : Option Int → Hp → Prop} (h : R none H) : tNoPart σ H R := h
theorem go_part {R : Option Int → Hp → Prop} (h : te σ H fun x H1 => ∃ i, x = .int i ∧ R (some i) H1) : tPart te σ H R := h
theorem go_partI {a : Int} {R : Int → Prop} (h : R a) : ∃ i, V.int a = .int i ∧ R i := ⟨a, rfl, h⟩
theorem go_slL {K : PySem.W.Frag} {a : Addr} {xs : List V} {lo hi : Option Int} (hs : SqL K H a xs) (h : ∀ p, H p = none → Q (.ref p) (upd H p (.lst (cutV xs lo hi)))) : rSlL K (.ref a) lo hi H Q := ⟨a, xs, rfl, hs, h⟩
theorem go_ixL {K : PySem.W.Frag} {a : Addr} {xs : List V} {k : Int} {v : V} (hs : SqL K H a xs) (e : atI xs k = some v) (h : Q v H) : rIxL K (.ref a) (.int k) H Q := ⟨a, xs, k, v, rfl, rfl, hs, e, h⟩
theorem go_ixT {K : PySem.W.Frag} {a : Addr} {xs : List V} {k : Int} {v : V} (hs : SqT K H a xs) (e : atI xs k = some v) (h : Q v H) : rIxT K (.ref a) (.int k) H Q := ⟨a, xs, k, v, rfl, rfl, hs, e, h⟩
end
/-! ### isinstance of scalars -/
theorem isi_int_int {K : PySem.W.Frag} {H : Hp} {Q : VK} {k : Int} (h : Q (.bl true) H) : rIsi K [(V.int k), .ty "int"] H Q := go_isiB (.base (.int _)) (by decide +kernel) h
theorem isi_int_bool {K : PySem.W.Frag} {H : Hp} {Q : VK} {k : Int} (h : Q (.bl false) H) : rIsi K [(V.int k), .ty "bool"] H Q := go_isiB (.base (.int _)) (by decide +kernel) h
theorem isi_int_str {K : PySem.W.Frag} {H : Hp} {Q : VK} {k : Int} (h : Q (.bl false) H) : rIsi K [(V.int k), .ty "str"] H Q := go_isiB (.base (.int _)) (by decide +kernel) h
theorem isi_int_list {K : PySem.W.Frag} {H : Hp} {Q : VK} {k : Int} (h : Q (.bl false) H) : rIsi K [(V.int k), .ty "list"] H Q := go_isiB (.base (.int _)) (by decide +kernel) h
theorem isi_int_tuple {K : PySem.W.Frag} {H : Hp} {Q : VK} {k : Int} (h : Q (.bl false) H) : rIsi K [(V.int k), .ty "tuple"] H Q := go_isiB (.base (.int _)) (by decide +kernel) h
theorem isi_bool_int {K : PySem.W.Frag} {H : Hp} {Q : VK} {k : Bool} (h : Q (.bl true) H) : rIsi K [(V.bl k), .ty "int"] H Q := go_isiB (.base (.bl _)) (by decide +kernel) h
theorem isi_bool_bool {K : PySem.W.Frag} {H : Hp} {Q : VK} {k : Bool} (h : Q (.bl true) H) : rIsi K [(V.bl k), .ty "bool"] H Q := go_isiB (.base (.bl _)) (by decide +kernel) h
theorem isi_bool_str {K : PySem.W.Frag} {H : Hp} {Q : VK} {k : Bool} (h : Q (.bl false) H) : rIsi K [(V.bl k), .ty "str"] H Q := go_isiB (.base (.bl _)) (by decide +kernel) h
theorem isi_bool_list {K : PySem.W.Frag} {H : Hp} {Q : VK} {k : Bool} (h : Q (.bl false) H) : rIsi K [(V.bl k), .ty "list"] H Q := go_isiB (.base (.bl _)) (by decide +kernel) h
theorem isi_bool_tuple {K : PySem.W.Frag} {H : Hp} {Q : VK} {k : Bool} (h : Q (.bl false) H) : rIsi K [(V.bl k), .ty "tuple"] H Q := go_isiB (.base (.bl _)) (by decide +kernel) h
theorem isi_str_int {K : PySem.W.Frag} {H : Hp} {Q : VK} {k : Str} (h : Q (.bl false) H) : rIsi K [(V.str k), .ty "int"] H Q := go_isiB (.base (.str _)) (by decide +kernel) h
theorem isi_str_bool {K : PySem.W.Frag} {H : Hp} {Q : VK} {k : Str} (h : Q (.bl false) H) : rIsi K [(V.str k), .ty "bool"] H Q := go_isiB (.base (.str _)) (by decide +kernel) h
theorem isi_str_str {K : PySem.W.Frag} {H : Hp} {Q : VK} {k : Str} (h : Q (.bl true) H) : rIsi K [(V.str k), .ty "str"] H Q := go_isiB (.base (.str _)) (by decide +kernel) h
theorem isi_str_list {K : PySem.W.Frag} {H : Hp} {Q : VK} {k : Str} (h : Q (.bl false) H) : rIsi K [(V.str k), .ty "list"] H Q := go_isiB (.base (.str _)) (by decide +kernel) h
theorem isi_str_tuple {K : PySem.W.Frag} {H : Hp} {Q : VK} {k : Str} (h : Q (.bl false) H) : rIsi K [(V.str k), .ty "tuple"] H Q := go_isiB (.base (.str _)) (by decide +kernel) h
theorem isi_NoneType_int {K : PySem.W.Frag} {H : Hp} {Q : VK} (h : Q (.bl false) H) : rIsi K [V.non, .ty "int"] H Q := go_isiB (.base .non) (by decide +kernel) h
theorem isi_NoneType_bool {K : PySem.W.Frag} {H : Hp} {Q : VK} (h : Q (.bl false) H) : rIsi K [V.non, .ty "bool"] H Q := go_isiB (.base .non) (by decide +kernel) h
theorem isi_NoneType_str {K : PySem.W.Frag} {H : Hp} {Q : VK} (h : Q (.bl false) H) : rIsi K [V.non, .ty "str"] H Q := go_isiB (.base .non) (by decide +kernel) h
theorem isi_NoneType_list {K : PySem.W.Frag} {H : Hp} {Q : VK} (h : Q (.bl false) H) : rIsi K [V.non, .ty "list"] H Q := go_isiB (.base .non) (by decide +kernel) h
theorem isi_NoneType_tuple {K : PySem.W.Frag} {H : Hp} {Q : VK} (h : Q (.bl false) H) : rIsi K [V.non, .ty "tuple"] H Q := go_isiB (.base .non) (by decide +kernel) h
theorem isi_list_int {K : PySem.W.Frag} {H : Hp} {Q : VK} {p : Addr} {xs : List V} (e : H p = some (.lst xs)) (h : Q (.bl false) H) : rIsi K [.ref p, .ty "int"] H Q := go_isiB (.base (.lst e)) (by decide +kernel) h
theorem isi_list_bool {K : PySem.W.Frag} {H : Hp} {Q : VK} {p : Addr} {xs : List V} (e : H p = some (.lst xs)) (h : Q (.bl false) H) : rIsi K [.ref p, .ty "bool"] H Q := go_isiB (.base (.lst e)) (by decide +kernel) h
theorem isi_list_str {K : PySem.W.Frag} {H : Hp} {Q : VK} {p : Addr} {xs : List V} (e : H p = some (.lst xs)) (h : Q (.bl false) H) : rIsi K [.ref p, .ty "str"] H Q := go_isiB (.base (.lst e)) (by decide +kernel) h
theorem isi_list_list {K : PySem.W.Frag} {H : Hp} {Q : VK} {p : Addr} {xs : List V} (e : H p = some (.lst xs)) (h : Q (.bl true) H) : rIsi K [.ref p, .ty "list"] H Q := go_isiB (.base (.lst e)) (by decide +kernel) h
theorem isi_list_tuple {K : PySem.W.Frag} {H : Hp} {Q : VK} {p : Addr} {xs : List V} (e : H p = some (.lst xs)) (h : Q (.bl false) H) : rIsi K [.ref p, .ty "tuple"] H Q := go_isiB (.base (.lst e)) (by decide +kernel) h
theorem isi_tuple_int {K : PySem.W.Frag} {H : Hp} {Q : VK} {p : Addr} {xs : List V} (e : H p = some (.tup xs)) (h : Q (.bl false) H) : rIsi K [.ref p, .ty "int"] H Q := go_isiB (.base (.tup e)) (by decide +kernel) h
theorem isi_tuple_bool {K : PySem.W.Frag} {H : Hp} {Q : VK} {p : Addr} {xs : List V} (e : H p = some (.tup xs)) (h : Q (.bl false) H) : rIsi K [.ref p, .ty "bool"] H Q := go_isiB (.base (.tup e)) (by decide +kernel) h
theorem isi_tuple_str {K : PySem.W.Frag} {H : Hp} {Q : VK} {p : Addr} {xs : List V} (e : H p = some (.tup xs)) (h : Q (.bl false) H) : rIsi K [.ref p, .ty "str"] H Q := go_isiB (.base (.tup e)) (by decide +kernel) h
theorem isi_tuple_list {K : PySem.W.Frag} {H : Hp} {Q : VK} {p : Addr} {xs : List V} (e : H p = some (.tup xs)) (h : Q (.bl false) H) : rIsi K [.ref p, .ty "list"] H Q := go_isiB (.base (.tup e)) (by decide +kernel) h
theorem isi_tuple_tuple {K : PySem.W.Frag} {H : Hp} {Q : VK} {p : Addr} {xs : List V} (e : H p = some (.tup xs)) (h : Q (.bl true) H) : rIsi K [.ref p, .ty "tuple"] H Q := go_isiB (.base (.tup e)) (by decide +kernel) h
section
variable {D : Ends} {σ : L2.St} {H : Hp} {t u c : TS} {te ta tb tc tl th : TE} {i : Nat} {Q : VK} {QB : Bool → Hp → Prop}
/-! ### what a test comes to -/
theorem ite_d {p : Prop} [Decidable p] {A B : Prop} (h1 : p → A) (h2 : ¬ p → B) : if decide p = true then A else B := by
  by_cases h : p
  · rw [decide_eq_true h]; exact h1 h
  · rw [decide_eq_false h]; exact h2 h
theorem ite_nd {p : Prop} [Decidable p] {A B : Prop} (h1 : ¬ p → A) (h2 : p → B) : if (!decide p) = true then A else B := by
  by_cases h : p
  · rw [decide_eq_true h]; exact h2 h
  · rw [decide_eq_false h]; exact h1 h
theorem ite_nt {A B : Prop} (h : B) : if (!true) = true then A else B := h
theorem ite_nf {A B : Prop} (h : A) : if (!false) = true then A else B := h
theorem ite_b {b : Bool} {A B : Prop} (h1 : b = true → A) (h2 : b = false → B) : if b = true then A else B := by
  cases b with
  | true => exact h1 rfl
  | false => exact h2 rfl
end
/-! ### readings by name -/
section
variable {X : Cx} {H : Hp} {Q : VK} {K : PySem.W.Frag}
def qInt1 : List V → Hp → VK → Prop := fun xs H Q => (∃ i, xs = [.int i] ∧ Q (.int i) H) ∨ ∃ k, xs = [.bl k] ∧ Q (.int (if k then 1 else 0)) H
theorem k_int1 : CallR X (.type "int") qInt1 := call_int1
theorem go_int1 {a : Int} (h : Q (.int a) H) : qInt1 [.int a] H Q := .inl ⟨a, rfl, h⟩
theorem go_intB {b : Bool} (h : Q (.int (if b then 1 else 0)) H) : qInt1 [.bl b] H Q := .inr ⟨b, rfl, h⟩
def qBool1 : List V → Hp → VK → Prop := fun xs H Q => (∃ i, xs = [.int i] ∧ Q (.bl (i != 0)) H) ∨ ∃ k, xs = [.bl k] ∧ Q (.bl k) H
theorem k_bool1 : CallR X (.type "bool") qBool1 := call_bool1
theorem go_bool1 {a : Int} (h : Q (.bl (a != 0)) H) : qBool1 [.int a] H Q := .inl ⟨a, rfl, h⟩
theorem go_boolB {b : Bool} (h : Q (.bl b) H) : qBool1 [.bl b] H Q := .inr ⟨b, rfl, h⟩
def qStrInt : List V → Hp → VK → Prop := fun xs H Q => ∃ i, xs = [.int i] ∧ i.natAbs.log2 < 1920 ∧ Q (.str (toString i)) H
theorem k_str_int : CallR X (.type "str") qStrInt := call_str_int
theorem go_str_int {a : Int} (ha : a.natAbs.log2 < 1920) (h : Q (.str (toString a)) H) : qStrInt [.int a] H Q := ⟨a, rfl, ha, h⟩
def qAbs : List V → Hp → VK → Prop := fun xs H Q => ∃ i, xs = [.int i] ∧ Q (.int (if i < 0 then -i else i)) H
theorem k_abs : CallR X (.builtin "abs") qAbs := call_abs
theorem go_abs {a : Int} (h : Q (.int (if a < 0 then -a else a)) H) : qAbs [.int a] H Q := ⟨a, rfl, h⟩
def qMax2 : List V → Hp → VK → Prop := fun xs H Q => ∃ i j, xs = [.int i, .int j] ∧ Q (.int (if j > i then j else i)) H
theorem k_max2 (hc : X.calm = true) : CallR X (.builtin "max") qMax2 := call_max2 hc
theorem go_max2 {a b : Int} (h : Q (.int (if b > a then b else a)) H) : qMax2 [.int a, .int b] H Q := ⟨a, b, rfl, h⟩
def qMin2 : List V → Hp → VK → Prop := fun xs H Q => ∃ i j, xs = [.int i, .int j] ∧ Q (.int (if j < i then j else i)) H
theorem k_min2 (hc : X.calm = true) : CallR X (.builtin "min") qMin2 := call_min2 hc
theorem go_min2 {a b : Int} (h : Q (.int (if b < a then b else a)) H) : qMin2 [.int a, .int b] H Q := ⟨a, b, rfl, h⟩
def qOrd : List V → Hp → VK → Prop := fun xs H Q => ∃ x, xs = [.str x] ∧ x.length = 1 ∧ Q (.int (x.cps.getD 0 0 : Nat)) H
theorem k_ord : CallR X (.builtin "ord") qOrd := call_ord
theorem go_ord {c : Nat} (h : Q (.int (c : Nat)) H) : qOrd [.str ⟨#[c]⟩] H Q := ⟨⟨#[c]⟩, rfl, rfl, h⟩
def qLen (K : PySem.W.Frag) : List V → Hp → VK → Prop := fun xs H Q => ∃ x n, xs = [x] ∧ LenV K x H n ∧ Q (.int n) H
theorem k_len : CallR X (.builtin "len") (qLen X.K) := call_len
theorem go_lenL {a : Addr} {xs : List V} (hs : SqL K H a xs) (h : Q (.int (xs.length : Nat)) H) : qLen K [.ref a] H Q := ⟨.ref a, xs.length, rfl, .inl ⟨xs, hs, rfl⟩, h⟩
theorem go_lenT {a : Addr} {xs : List V} (hs : SqT K H a xs) (h : Q (.int (xs.length : Nat)) H) : qLen K [.ref a] H Q := ⟨.ref a, xs.length, rfl, .inr ⟨xs, hs, rfl⟩, h⟩
theorem go_lenS {y : Str} (hz : y.length ≤ sizeLine) (h : Q (.int (y.length : Nat)) H) : qLen K [.str y] H Q := ⟨.str y, y.length, rfl, ⟨hz, rfl⟩, h⟩
def qListOf (K : PySem.W.Frag) : List V → Hp → VK → Prop := fun xs H Q => ∃ p ys, xs = [.ref p] ∧ (SqL K H p ys ∨ SqT K H p ys) ∧ ∀ l, H l = none → Q (.ref l) (upd H l (.lst ys))
theorem k_list_of : CallR X (.type "list") (qListOf X.K) := call_list_of
theorem go_listOfL {a : Addr} {xs : List V} (hs : SqL K H a xs) (h : ∀ l, H l = none → Q (.ref l) (upd H l (.lst xs))) : qListOf K [.ref a] H Q := ⟨a, xs, rfl, .inl hs, h⟩
theorem go_listOfT {a : Addr} {xs : List V} (hs : SqT K H a xs) (h : ∀ l, H l = none → Q (.ref l) (upd H l (.lst xs))) : qListOf K [.ref a] H Q := ⟨a, xs, rfl, .inr hs, h⟩
def qTupOf (K : PySem.W.Frag) : List V → Hp → VK → Prop := fun xs H Q => ∃ p ys, xs = [.ref p] ∧ ((SqL K H p ys ∧ ∀ l, H l = none → Q (.ref l) (upd H l (.tup ys))) ∨ (SqT K H p ys ∧ Q (.ref p) H))
theorem k_tuple_of : CallR X (.type "tuple") (qTupOf X.K) := call_tuple_of
theorem go_tupOfL {a : Addr} {xs : List V} (hs : SqL K H a xs) (h : ∀ l, H l = none → Q (.ref l) (upd H l (.tup xs))) : qTupOf K [.ref a] H Q := ⟨a, xs, rfl, .inl ⟨hs, h⟩⟩
theorem go_tupOfT {a : Addr} {xs : List V} (hs : SqT K H a xs) (h : Q (.ref a) H) : qTupOf K [.ref a] H Q := ⟨a, xs, rfl, .inr ⟨hs, h⟩⟩
theorem go_sum {a : Addr} {ns : List Int} (hs : SqL K H a (ns.map V.int)) (h : Q (.int ns.sum) H) : rSum K [.ref a] H Q := ⟨a, ns, rfl, hs, h⟩
theorem go_all {a : Addr} {bs : List Bool} (hs : SqL K H a (bs.map V.bl)) (h : Q (.bl (bs.all id)) H) : rAll K [.ref a] H Q := ⟨a, bs, rfl, hs, h⟩
theorem go_any {a : Addr} {bs : List Bool} (hs : SqL K H a (bs.map V.bl)) (h : Q (.bl (bs.any id)) H) : rAny K [.ref a] H Q := ⟨a, bs, rfl, hs, h⟩
def qIsN : R2 := fun x y H Q => y = .non ∧ Q (.bl (decide (x = .non))) H
theorem o_isN : OpR X (compareOp .Is) qIsN := op_isN
def qNotN : R2 := fun x y H Q => y = .non ∧ Q (.bl (!decide (x = .non))) H
theorem o_notN : OpR X (compareOp .IsNot) qNotN := op_notN
theorem go_isN0 (h : Q (.bl true) H) : qIsN .non .non H Q := ⟨rfl, by simpa using h⟩
theorem go_isNI {i : Int} (h : Q (.bl false) H) : qIsN (.int i) .non H Q := ⟨rfl, by simpa using h⟩
theorem go_isNS {i : Str} (h : Q (.bl false) H) : qIsN (.str i) .non H Q := ⟨rfl, by simpa using h⟩
theorem go_isNB {i : Bool} (h : Q (.bl false) H) : qIsN (.bl i) .non H Q := ⟨rfl, by simpa using h⟩
theorem go_isNR {i : Addr} (h : Q (.bl false) H) : qIsN (.ref i) .non H Q := ⟨rfl, by simpa using h⟩
theorem go_notN0 (h : Q (.bl false) H) : qNotN .non .non H Q := ⟨rfl, by simpa using h⟩
theorem go_notNI {i : Int} (h : Q (.bl true) H) : qNotN (.int i) .non H Q := ⟨rfl, by simpa using h⟩
theorem go_notNS {i : Str} (h : Q (.bl true) H) : qNotN (.str i) .non H Q := ⟨rfl, by simpa using h⟩
theorem go_notNB {i : Bool} (h : Q (.bl true) H) : qNotN (.bl i) .non H Q := ⟨rfl, by simpa using h⟩
theorem go_notNR {i : Addr} (h : Q (.bl true) H) : qNotN (.ref i) .non H Q := ⟨rfl, by simpa using h⟩
def qLtS : R2 := fun x y H Q => ∃ i j, x = .str i ∧ y = .str j ∧ Q (.bl (decide (i.cps.toList < j.cps.toList))) H
theorem o_lt_str : OpR X (compareOp .Lt) qLtS := op_lt_str
theorem go_ltS {a b : Str} (h : Q (.bl (decide (a.cps.toList < b.cps.toList))) H) : qLtS (.str a) (.str b) H Q := ⟨a, b, rfl, rfl, h⟩
def qLeS : R2 := fun x y H Q => ∃ i j, x = .str i ∧ y = .str j ∧ Q (.bl (!decide (j.cps.toList < i.cps.toList))) H
theorem o_le_str : OpR X (compareOp .LtE) qLeS := op_le_str
theorem go_leS {a b : Str} (h : Q (.bl (!decide (b.cps.toList < a.cps.toList))) H) : qLeS (.str a) (.str b) H Q := ⟨a, b, rfl, rfl, h⟩
def qAddS : R2 := fun x y H Q => ∃ i j, x = .str i ∧ y = .str j ∧ i.length + j.length ≤ sizeLine ∧ Q (.str (i ++ j)) H
theorem o_add_str : OpR X (binaryOp .Add) qAddS := op_add_str
theorem go_addS {a b : Str} (hz : a.length + b.length ≤ sizeLine) (h : Q (.str (a ++ b)) H) : qAddS (.str a) (.str b) H Q := ⟨a, b, rfl, rfl, hz, h⟩
theorem go_cat {l b : Addr} {xs zs : List V} (h1 : H l = some (.lst xs)) (h2 : H b = some (.lst zs)) (hz : xs.length + zs.length ≤ sizeLine) (h : ∀ p, H p = none → Q (.ref p) (upd H p (.lst (xs ++ zs)))) : rCat (.ref l) (.ref b) H Q := ⟨l, b, xs, zs, rfl, rfl, h1, h2, hz, h⟩
theorem go_slS {z : Str} {lo hi : Option Int} (hz : z.length ≤ sizeLine) (h : Q (.str (cutS z lo hi)) H) : rSlS (.str z) lo hi H Q := ⟨z, rfl, hz, h⟩
theorem go_ixS {z : Str} {i : Int} {c : Nat} (hz : z.length ≤ sizeLine) (e : atI z.cps.toList i = some c) (h : Q (.str ⟨#[c]⟩) H) : rIxS (.str z) (.int i) H Q := ⟨z, i, c, rfl, rfl, hz, e, h⟩
theorem go_append {l : Addr} {xs : List V} {y : V} (e : H l = some (.lst xs)) (hz : xs.length < sizeLine) (h : Q .non (upd H l (.lst (xs ++ [y])))) : rAppend (.ref l) [y] H Q := ⟨l, xs, y, rfl, rfl, e, hz, h⟩
theorem go_BM {T : String} {r : V → List V → Hp → VK → Prop} {to : TE} {t : TA} {σ : L2.St} (h : to σ H fun x H1 => tyV K T x H1 ∧ t σ H1 fun xs H2 => r x xs H2 Q) : tBM K T r to t σ H Q := h
theorem go_BM0 {T : String} {r : V → List V → Hp → VK → Prop} {to : TE} {σ : L2.St} (h : to σ H fun x H1 => tyV K T x H1 ∧ r x [] H1 Q) : tBM0 K T r to σ H Q := h
end
/-! ### rules within a comprehension: the written part told apart -/
section
variable {X : Cx} {K : PySem.W.Frag} {e : Expr} {ta : TE} {f : Str} {pos : Pos}
theorem pe_fldK (hK : X.K = K) (he : PE X e ta) (hb : attributeBase e f X.env (eval e X.env) = eval e X.env) : PE X (.Attribute e f pos) (tFld K ta f) := by subst hK; exact pe_fld he hb
theorem ix_listK (hK : X.K = K) : IxR X (rIxL K) := by subst hK; exact ix_list
theorem ix_tupK (hK : X.K = K) : IxR X (rIxT K) := by subst hK; exact ix_tup
theorem ix_seqK (hK : X.K = K) : IxR X (rIx K) := by subst hK; exact ix_seq
theorem sl_listK (hK : X.K = K) : SlR X (rSlL K) := by subst hK; exact sl_list
theorem k_lenK (hK : X.K = K) : CallR X (.builtin "len") (qLen K) := by subst hK; exact k_len
theorem call_isiK (hK : X.K = K) : CallR X (.builtin "isinstance") (rIsi K) := by subst hK; exact call_isi
theorem k_list_ofK (hK : X.K = K) : CallR X (.type "list") (qListOf K) := by subst hK; exact k_list_of
theorem k_tuple_ofK (hK : X.K = K) : CallR X (.type "tuple") (qTupOf K) := by subst hK; exact k_tuple_of
theorem cr_sumK (hK : X.K = K) (hc : X.calm = true) : CallR X (.builtin "sum") (rSum K) := by subst hK; exact cr_sum hc
theorem cr_allK (hK : X.K = K) (hc : X.calm = true) : CallR X (.builtin "all") (rAll K) := by subst hK; exact cr_all hc
theorem cr_anyK (hK : X.K = K) (hc : X.calm = true) : CallR X (.builtin "any") (rAny K) := by subst hK; exact cr_any hc
theorem op_in_seqK (hK : X.K = K) : OpR X (compareOp .In) (rIn K false) := by subst hK; exact op_in_seq
theorem op_notIn_seqK (hK : X.K = K) : OpR X (compareOp .NotIn) (rIn K true) := by subst hK; exact op_notIn_seq
theorem op_eqDK (hK : X.K = K) (hu : X.A.units + 64 < cLine) : OpR X (compareOp .Eq) (rEqD K) := by subst hK; exact op_eqD hu
theorem op_neDK (hK : X.K = K) (hu : X.A.units + 64 < cLine) : OpR X (compareOp .NotEq) (rNeD K) := by subst hK; exact op_neD hu
end
/-! ### heaps -/
theorem same_new {H : Hp} {p : Addr} {o : HO} (h : H p = none) : Same H (upd H p o) := fun b x e => by
  rw [upd_ne (ne_of_none e h)]
  exact e
/-- an object that H does not know may change -/
theorem same_mut {H H' : Hp} {p : Addr} {o : HO} (e : Same H H') (h : H p = none) : Same H (upd H' p o) := fun a u ha => by
  rw [upd_ne (ne_of_none ha h)]
  exact e a u ha
theorem same_sqL {K : PySem.W.Frag} {H H' : Hp} {a : Addr} {xs : List V} (e : Same H H') (h : SqL K H a xs) : SqL K H' a xs := e.seq h
theorem same_rd {H H' : Hp} {a : Addr} {u : HO} (e : Same H H') (h : Rd H a u) : Rd H' a u := by
  rcases h with h | ⟨o, h⟩
  · exact Or.inl (e a _ h)
  · exact Or.inr ⟨o, e a _ h⟩
theorem same_sqT {K : PySem.W.Frag} {H H' : Hp} {a : Addr} {xs : List V} (e : Same H H') (h : SqT K H a xs) : SqT K H' a xs := by
  rcases h with h | h
  · exact Or.inl (same_rd e h)
  · exact Or.inr h
theorem sz {n : Nat} (h : n ≤ 100000) : n ≤ sizeLine := Nat.le_trans h (by decide)
theorem szlt {n : Nat} (h : n ≤ 100000) : n < sizeLine := Nat.lt_of_le_of_lt h (by decide)
/-- the list of ints at a place in bounds -/
theorem at_nat {xs : List V} {i : Nat} {v : V} (h : xs[i]? = some v) : atI xs (i : Int) = some v := atI_nat h
theorem at_int {ns : List Int} {k : Int} (h0 : 0 ≤ k) (h : k < ns.length) : atI (ns.map V.int) k = some (.int (ns.getD k.toNat 0)) := by
  have e : k = (k.toNat : Int) := by omega
  have h2 : k.toNat < ns.length := by omega
  rw [e]
  refine at_nat ?_
  rw [List.getElem?_map, Int.toNat_natCast, List.getElem?_eq_getElem h2, List.getD_eq_getElem?_getD, List.getElem?_eq_getElem h2]
  rfl
/-! ### lists of ints: ==, slices, sums -/
theorem dp_ints {K : PySem.W.Frag} {H : Hp} : ∀ ns : List Int, DpAll K H (ns.map V.int) (ns.map PyData.int)
  | [] => .nil
  | n :: r => .cons (.int n) (dp_ints r)
theorem eqv_int (a b : Int) : PyData.eqv (.int a) (.int b) = decide (a = b) := by
  simp only [PyData.eqv]
  by_cases h : a = b
  · simp [h]
  · simp [h]
theorem eqvAll_ints : ∀ xs ys : List Int, PyData.eqvAll (xs.map PyData.int) (ys.map PyData.int) = decide (xs = ys)
  | [], [] => by simp [PyData.eqvAll]
  | [], _ :: _ => by simp [PyData.eqvAll]
  | _ :: _, [] => by simp [PyData.eqvAll]
  | x :: xs, y :: ys => by
    simp only [List.map_cons, PyData.eqvAll, eqv_int, eqvAll_ints xs ys]
    by_cases h : x = y <;> by_cases h2 : xs = ys <;> simp [h, h2]
theorem eqv_ints (xs ys : List Int) : PyData.eqv (.list (xs.map PyData.int)) (.list (ys.map PyData.int)) = decide (xs = ys) := by
  rw [PyData.eqv]
  exact eqvAll_ints xs ys
theorem depth_ints : ∀ xs : List Int, PyData.depthAll (xs.map PyData.int) = 0
  | [] => rfl
  | x :: xs => by
    rw [List.map_cons]
    unfold PyData.depthAll
    rw [depth_ints xs]
    rfl
theorem canLay_ints : ∀ xs : List Int, PyData.canLayAll0 (xs.map PyData.int) = true
  | [] => rfl
  | x :: xs => by
    rw [List.map_cons]
    simp only [PyData.canLayAll0, PyData.canLay0, canLay_ints xs, Bool.and_self]
theorem shaped_ints (xs : List Int) : SeqAt.shaped (.list (xs.map PyData.int)) = true := by
  unfold SeqAt.shaped
  have h1 : PyData.canLay0 (.list (xs.map PyData.int)) = true := by
    simp only [PyData.canLay0]
    exact canLay_ints xs
  have h2 : PyData.depth (.list (xs.map PyData.int)) ≤ 64 := by
    unfold PyData.depth
    rw [depth_ints xs]
    decide
  rw [h1, decide_eq_true h2]
  rfl
theorem go_eqInts {K : PySem.W.Frag} {H : Hp} {Q : VK} {a b : Addr} {xs ys : List Int} (h1 : SqL K H a (xs.map V.int)) (h2 : SqL K H b (ys.map V.int)) (h : Q (.bl (decide (xs = ys))) H) : rEqD K (.ref a) (.ref b) H Q :=
  ⟨_, _, .lst h1 (dp_ints xs), .lst h2 (dp_ints ys), shaped_ints xs, shaped_ints ys, by rw [eqv_ints]; exact h⟩
theorem go_neInts {K : PySem.W.Frag} {H : Hp} {Q : VK} {a b : Addr} {xs ys : List Int} (h1 : SqL K H a (xs.map V.int)) (h2 : SqL K H b (ys.map V.int)) (h : Q (.bl (!decide (xs = ys))) H) : rNeD K (.ref a) (.ref b) H Q :=
  ⟨_, _, .lst h1 (dp_ints xs), .lst h2 (dp_ints ys), shaped_ints xs, shaped_ints ys, by rw [eqv_ints]; exact h⟩
theorem cut_to (xs : List V) (k : Nat) : cutV xs none (some (k : Int)) = xs.take k := by
  unfold cutV
  rw [HT.sIx_none, HT.sIx_nat, List.drop_zero, Nat.sub_zero]
  rcases Nat.le_total k xs.length with h | h
  · rw [Nat.min_eq_left h]
  · rw [Nat.min_eq_right h, List.take_of_length_le (Nat.le_refl _), List.take_of_length_le h]
theorem cut_from (xs : List V) (k : Nat) : cutV xs (some (k : Int)) none = xs.drop k := by
  unfold cutV
  rw [HT.sIx_none, HT.sIx_nat]
  rcases Nat.le_total k xs.length with h | h
  · rw [Nat.min_eq_left h, List.take_of_length_le]
    rw [List.length_drop]
    exact Nat.le_refl _
  · rw [Nat.min_eq_right h, List.drop_of_length_le (Nat.le_refl _), List.drop_of_length_le h, List.take_nil]
theorem sum_take_succ (ws : List Int) (i : Nat) (h : i < ws.length) : (ws.take (i + 1)).sum = (ws.take i).sum + ws.getD i 0 := by
  rw [List.take_add_one, List.getElem?_eq_getElem h, List.sum_append, List.getD_eq_getElem?_getD, List.getElem?_eq_getElem h]
  simp
theorem sum_nonneg : ∀ {ws : List Int}, (∀ w ∈ ws, 0 ≤ w) → 0 ≤ ws.sum
  | [], _ => by simp
  | w :: r, h => by
    have h1 := h w (by simp)
    have h2 := sum_nonneg (ws := r) fun z hz => h z (by simp [hz])
    rw [List.sum_cons]
    omega
theorem sum_take_le {ws : List Int} (h : ∀ w ∈ ws, 0 ≤ w) (i : Nat) : (ws.take i).sum ≤ ws.sum := by
  have e := congrArg List.sum (List.take_append_drop i ws)
  rw [List.sum_append] at e
  have h2 := sum_nonneg (ws := ws.drop i) fun z hz => h z (List.mem_of_mem_drop hz)
  omega
/-- min, max as they are told -/
theorem lt_of_len {a b : Nat} (h : a < b) : (a : Int) < (b : Int) := by omega
/-! ### list comprehensions whose element changes nothing that stood -/
section
variable {K : PySem.W.Frag} {σ : L2.St} {H H1 : Hp} {Q : VK} {tl te : TE} {g : TG} {tt : TT} {vs : List Nat} {j : Nat} {wi : TI}
theorem go_iList {R : It → Hp → Prop} (h : tl σ H fun x H1 => ∃ a, x = .ref a ∧ (∃ xs, SqL K H1 a xs) ∧ R (Itl K a) H1) : iList K tl σ H R := h
theorem go_iListR {a : Addr} {xs : List V} {R : Addr → Prop} (hs : SqL K H a xs) (h : R a) : ∃ b, V.ref a = .ref b ∧ (∃ xs, SqL K H b xs) ∧ R b := ⟨a, rfl, ⟨xs, hs⟩, h⟩
theorem go_iRng1 {ta : TA} {R : It → Hp → Prop} (h : ta σ H fun vs H1 => ∃ j : Int, vs = [.int j] ∧ -(2 ^ 62) ≤ j ∧ j < 2 ^ 62 ∧ R (Itr 0 j.toNat) H1) : iRng1 ta σ H R := h
theorem go_iRng2 {ta : TA} {R : It → Hp → Prop} (h : ta σ H fun vs H1 => ∃ i j : Int, vs = [.int i, .int j] ∧ (-(2 ^ 62) ≤ i ∧ i < 2 ^ 62 ∧ -(2 ^ 62) ≤ j ∧ j < 2 ^ 62) ∧ R (Itr i (j - i).toNat) H1) : iRng2 ta σ H R := h
theorem go_rng1 {n : Int} {R : It → Hp → Prop} (hn : -(2 ^ 62) ≤ n ∧ n < 2 ^ 62) (h : R (Itr 0 n.toNat) H) : ∃ j : Int, [V.int n] = [.int j] ∧ -(2 ^ 62) ≤ j ∧ j < 2 ^ 62 ∧ R (Itr 0 j.toNat) H := ⟨n, rfl, hn.1, hn.2, h⟩
theorem go_rng2 {m n : Int} {R : It → Hp → Prop} (hm : -(2 ^ 62) ≤ m ∧ m < 2 ^ 62 ∧ -(2 ^ 62) ≤ n ∧ n < 2 ^ 62) (h : R (Itr m (n - m).toNat) H) :
    ∃ i j : Int, [V.int m, V.int n] = [.int i, .int j] ∧ (-(2 ^ 62) ≤ i ∧ i < 2 ^ 62 ∧ -(2 ^ 62) ≤ j ∧ j < 2 ^ 62) ∧ R (Itr i (j - i).toNat) H := ⟨m, n, rfl, hm, h⟩
theorem go_yes {QB : Bool → Hp → Prop} (h : QB true H) : tYes σ H QB := h
theorem go_lc (h : wi σ H fun J H1 => ∀ D, H1 D = none → ∃ W : Nat → Nat → Hp → Prop, (∃ m, W 0 m (upd H1 D (.lst []))) ∧ ∀ i m H, W i m H →
  (J.stop i H ∧ Q (.ref D) H) ∨ (J.go i H ∧ ∃ Nx : Hp → Prop, (∀ H', Nx H' → ∃ m', m' < m ∧ W (i + 1) m' H') ∧ ∀ x H', J.yld i H x H' → g x (wipe σ vs) H' fun σ2 H2 => wipe σ2 vs = wipe σ vs ∧ tt σ2 H2 fun b H3 =>
    if b = true then te σ2 H3 fun y H4 => ∃ acc, H4 D = some (.lst acc) ∧ acc.length < sizeLine ∧ Nx (upd H4 D (.lst (acc ++ [y]))) else Nx H3)) : tLc wi g tt te vs σ H Q := h
theorem go_for {D : Ends} {tb : TS} (h : wi σ H fun J H1 => ∃ W : Nat → Nat → L2.St → Hp → Prop, (∃ m, W 0 m σ H1) ∧ ∀ i m σ H, W i m σ H →
  (J.stop i H ∧ D.nx σ H) ∨ (J.go i H ∧ ∃ N : L2.St → Hp → Prop, (∀ σ' H', N σ' H' → ∃ m', m' < m ∧ W (i + 1) m' σ' H') ∧ ∀ x H', J.yld i H x H' → g x σ H' fun σ2 H2 => tb { D with nx := N, ct := N, bk := D.nx } σ2 H2)) : tFor wi g tb D σ H := h
/-- what is in the list being made: all of them so, and all else as it was -/
structure Acc (P : Nat → V → Prop) (H : Hp) (D : Addr) (i : Nat) (H' : Hp) : Prop where
  made : ∃ ys : List V, H' D = some (.lst ys) ∧ ys.length = i ∧ ∀ k y, ys[k]? = some y → P k y
  same : Same H H'
theorem acc_step {P : Nat → V → Prop} {H H' : Hp} {D : Addr} {i : Nat} {y : V} (hD : H D = none) (a : Acc P H D i H') (hy : P i y) (hi : i < 100000) : ∃ acc, H' D = some (.lst acc) ∧ acc.length < sizeLine ∧ Acc P H D (i + 1) (upd H' D (.lst (acc ++ [y]))) := by
  obtain ⟨⟨ys, e, hl, hp⟩, hs⟩ := a
  refine ⟨ys, e, szlt (by omega), ⟨ys ++ [y], upd_same, by simp [hl], fun k z hz => ?_⟩, same_mut hs hD⟩
  rcases Nat.lt_or_ge k ys.length with h | h
  · rw [List.getElem?_append_left h] at hz
    exact hp k z hz
  · rw [List.getElem?_append_right h] at hz
    rcases Nat.eq_or_lt_of_le h with e2 | e2
    · rw [← e2, Nat.sub_self] at hz
      cases hz
      rw [← e2, hl]
      exact hy
    · rw [List.getElem?_eq_none (by simp; omega)] at hz
      cases hz
theorem Acc.keep {P : Nat → V → Prop} {H H' H2 : Hp} {D : Addr} {i : Nat} (a : Acc P H D i H') (s : Same H' H2) : Acc P H D i H2 := by
  obtain ⟨⟨ys, e, hl, hp⟩, hs⟩ := a
  exact ⟨⟨ys, s _ _ e, hl, hp⟩, hs.trans s⟩
/-- [e for x in a list], behind the list's reading -/
theorem lcL {R : Addr → Hp → Prop} {a : Addr} (xs : List V) (P : Nat → V → Prop) (hs : SqL K H1 a xs) (hz : xs.length ≤ 100000) (hw : ∀ x, wipe ((wipe σ vs).set j x) vs = wipe σ vs)
    (he : ∀ (i : Nat) x H', xs[i]? = some x → Same H1 H' → ∀ R : VK, (∀ y H'', Same H' H'' → P i y → R y H'') → te ((wipe σ vs).set j (some x)) H' R)
    (q : ∀ D (ys : List V) H2, H1 D = none → Same H1 H2 → H2 D = some (.lst ys) → ys.length = xs.length → (∀ k y, ys[k]? = some y → P k y) → R D H2) :
    ∃ b, V.ref a = .ref b ∧ (∃ xs, SqL K H1 b xs) ∧ ∀ D, H1 D = none → ∃ W : Nat → Nat → Hp → Prop, (∃ m, W 0 m (upd H1 D (.lst []))) ∧ ∀ i m H, W i m H →
      ((Itl K b).stop i H ∧ R D H) ∨ ((Itl K b).go i H ∧ ∃ Nx : Hp → Prop, (∀ H', Nx H' → ∃ m', m' < m ∧ W (i + 1) m' H') ∧ ∀ x H', (Itl K b).yld i H x H' → gName j x (wipe σ vs) H' fun σ2 H2 => wipe σ2 vs = wipe σ vs ∧ tYes σ2 H2 fun b H3 =>
        if b = true then te σ2 H3 fun y H4 => ∃ acc, H4 D = some (.lst acc) ∧ acc.length < sizeLine ∧ Nx (upd H4 D (.lst (acc ++ [y]))) else Nx H3) := by
  refine ⟨a, rfl, ⟨xs, hs⟩, fun D hD => ?_⟩
  refine lc_list (xs := xs) (Acc P H1 D) ⟨⟨[], upd_same, rfl, fun k y h => by simp at h⟩, same_new hD⟩ (fun i H _ p => same_sqL p.same hs) (fun i x H hx p => ?_) fun H p => ?_
  · refine ⟨hw _, ?_⟩
    refine go_yes ?_
    refine iteT ?_
    refine he i x H hx p.same _ fun y H4 s4 hy => ?_
    have hi := (List.getElem?_eq_some_iff.mp hx).1
    exact acc_step hD (p.keep s4) hy (by omega)
  · obtain ⟨⟨ys, e, hl, hp⟩, s⟩ := p
    exact q D ys H hD s e hl hp
/-- [e for x in range(n)], behind the reading of n -/
theorem lcR1 {R : Addr → Hp → Prop} {n : Int} (P : Nat → V → Prop) (hz : n ≤ 100000) (hn : -(2 ^ 62) ≤ n) (hw : ∀ x, wipe ((wipe σ vs).set j x) vs = wipe σ vs)
    (he : ∀ (i : Nat) H', i < n.toNat → Same H1 H' → ∀ R : VK, (∀ y H'', Same H' H'' → P i y → R y H'') → te ((wipe σ vs).set j (some (.int i))) H' R)
    (q : ∀ D (ys : List V) H2, H1 D = none → Same H1 H2 → H2 D = some (.lst ys) → ys.length = n.toNat → (∀ k y, ys[k]? = some y → P k y) → R D H2) :
    ∃ k : Int, [V.int n] = [.int k] ∧ -(2 ^ 62) ≤ k ∧ k < 2 ^ 62 ∧ ∀ D, H1 D = none → ∃ W : Nat → Nat → Hp → Prop, (∃ m, W 0 m (upd H1 D (.lst []))) ∧ ∀ i m H, W i m H →
      ((Itr 0 k.toNat).stop i H ∧ R D H) ∨ ((Itr 0 k.toNat).go i H ∧ ∃ Nx : Hp → Prop, (∀ H', Nx H' → ∃ m', m' < m ∧ W (i + 1) m' H') ∧ ∀ x H', (Itr 0 k.toNat).yld i H x H' → gName j x (wipe σ vs) H' fun σ2 H2 => wipe σ2 vs = wipe σ vs ∧ tYes σ2 H2 fun b H3 =>
        if b = true then te σ2 H3 fun y H4 => ∃ acc, H4 D = some (.lst acc) ∧ acc.length < sizeLine ∧ Nx (upd H4 D (.lst (acc ++ [y]))) else Nx H3) := by
  refine ⟨n, rfl, hn, by omega, fun D hD => ?_⟩
  refine lc_range (lo := 0) (n := n.toNat) (Acc P H1 D) ⟨⟨[], upd_same, rfl, fun k y h => by simp at h⟩, same_new hD⟩ (fun i H hi p => ?_) fun H p => ?_
  · refine ⟨hw _, ?_⟩
    refine go_yes ?_
    refine iteT ?_
    rw [Int.zero_add]
    refine he i H hi p.same _ fun y H4 s4 hy => ?_
    exact acc_step hD (p.keep s4) hy (by omega)
  · obtain ⟨⟨ys, e, hl, hp⟩, s⟩ := p
    exact q D ys H hD s e hl hp
/-- for x in a list, behind the list's reading -/
theorem foL {D : Ends} {tb : TS} {a : Addr} (xs : List V) (Pv : Nat → L2.St → Hp → Prop) (h0 : Pv 0 σ H1) (hl : ∀ i σ H, i ≤ xs.length → Pv i σ H → SqL K H a xs)
    (hs : ∀ i x σ H, xs[i]? = some x → Pv i σ H → g x σ H fun σ2 H2 => tb { D with nx := Pv (i + 1), ct := Pv (i + 1), bk := D.nx } σ2 H2) (hd : ∀ σ H, Pv xs.length σ H → D.nx σ H) :
    ∃ b, V.ref a = .ref b ∧ (∃ xs, SqL K H1 b xs) ∧ ∃ W : Nat → Nat → L2.St → Hp → Prop, (∃ m, W 0 m σ H1) ∧ ∀ i m σ H, W i m σ H →
      ((Itl K b).stop i H ∧ D.nx σ H) ∨ ((Itl K b).go i H ∧ ∃ N : L2.St → Hp → Prop, (∀ σ' H', N σ' H' → ∃ m', m' < m ∧ W (i + 1) m' σ' H') ∧ ∀ x H', (Itl K b).yld i H x H' → g x σ H' fun σ2 H2 => tb { D with nx := N, ct := N, bk := D.nx } σ2 H2) :=
  ⟨a, rfl, ⟨xs, hl 0 σ H1 (Nat.zero_le _) h0⟩, for_list Pv h0 hl hs hd⟩
/-- for x in range(n), behind the reading of n -/
theorem foR1 {D : Ends} {tb : TS} {n : Int} (Pv : Nat → L2.St → Hp → Prop) (hn : -(2 ^ 62) ≤ n ∧ n < 2 ^ 62) (h0 : Pv 0 σ H1)
    (hs : ∀ (i : Nat) σ H, (i : Int) < n → Pv i σ H → g (.int i) σ H fun σ2 H2 => tb { D with nx := Pv (i + 1), ct := Pv (i + 1), bk := D.nx } σ2 H2) (hd : ∀ σ H, Pv n.toNat σ H → D.nx σ H) :
    ∃ k : Int, [V.int n] = [.int k] ∧ -(2 ^ 62) ≤ k ∧ k < 2 ^ 62 ∧ ∃ W : Nat → Nat → L2.St → Hp → Prop, (∃ m, W 0 m σ H1) ∧ ∀ i m σ H, W i m σ H →
      ((Itr 0 k.toNat).stop i H ∧ D.nx σ H) ∨ ((Itr 0 k.toNat).go i H ∧ ∃ N : L2.St → Hp → Prop, (∀ σ' H', N σ' H' → ∃ m', m' < m ∧ W (i + 1) m' σ' H') ∧ ∀ x H', (Itr 0 k.toNat).yld i H x H' → g x σ H' fun σ2 H2 => tb { D with nx := N, ct := N, bk := D.nx } σ2 H2) :=
  ⟨n, rfl, hn.1, hn.2, for_range Pv h0 (fun i σ H hi p => by rw [Int.zero_add]; exact hs i σ H (by omega) p) hd⟩
/-- while, by a measure that the invariant bears -/
theorem go_while {D : Ends} {c : TT} {tb : TS} (W : Nat → L2.St → Hp → Prop) (m : Nat) (h0 : W m σ H) (hs : ∀ m σ H, W m σ H → c σ H fun b H1 => if b = true then ∃ N : L2.St → Hp → Prop, (∀ σ' H', N σ' H' → ∃ m', m' < m ∧ W m' σ' H') ∧ tb { D with nx := N, ct := N, bk := D.nx } σ H1 else D.nx σ H1) :
    tWhile c tb D σ H := ⟨W, ⟨m, h0⟩, hs⟩
theorem go_loop {D : Ends} {tb : TS} {W : Nat → L2.St → Hp → Prop} {m : Nat} (h : tb { D with nx := fun σ' H' => ∃ m', m' < m ∧ W m' σ' H', ct := fun σ' H' => ∃ m', m' < m ∧ W m' σ' H', bk := D.nx } σ H) :
    ∃ N : L2.St → Hp → Prop, (∀ σ' H', N σ' H' → ∃ m', m' < m ∧ W m' σ' H') ∧ tb { D with nx := N, ct := N, bk := D.nx } σ H := ⟨_, fun _ _ h => h, h⟩
end
/-- all ints, each so -/
theorem ints_of {P : Int → Prop} : ∀ {ys : List V}, (∀ (k : Nat) y, ys[k]? = some y → ∃ w, y = V.int w ∧ P w) → ∃ ws : List Int, ys = ws.map V.int ∧ ∀ w ∈ ws, P w
  | [], _ => ⟨[], rfl, fun _ h => nomatch h⟩
  | y :: r, h => by
    obtain ⟨w, e, p⟩ := h 0 y rfl
    obtain ⟨ws, e2, p2⟩ := ints_of (ys := r) fun k z hz => h (k + 1) z hz
    refine ⟨w :: ws, by rw [e, e2, List.map_cons], fun z hz => ?_⟩
    rcases List.mem_cons.mp hz with rfl | hz
    · exact p
    · exact p2 z hz
end Gx

set_option Elab.async false
set_option linter.all false
set_option maxRecDepth 100000
set_option maxHeartbeats 4000000
/-! Own lemmas: a pool of numbers (a list that is changed by place), data, comprehensions that change it. -/
namespace Gx
open PySem PySem.Spec PyProof.Rows L2
section
variable {K : PySem.W.Frag} {σ : L2.St} {H H1 : Hp} {Q : VK} {tl te to ti : TE} {g : TG} {tt : TT} {vs : List Nat} {j : Nat} {wi : TI}
theorem go_sub {t : TSet} {v : V} {R : L2.St → Hp → Prop} (h : to σ H fun o H1 => ti σ H1 fun i H2 => t o i v H2 fun H3 => R σ H3) : gSub to ti t v σ H R := h
theorem go_setL {p : Addr} {xs : List V} {k : Int} {i : Nat} {v : V} {R : Hp → Prop} (e : H p = some (.lst xs)) (hi : ixN xs.length k = some i) (h : R (upd H p (.lst (xs.set i v)))) : rSetL (.ref p) (.int k) v H R :=
  ⟨p, xs, k, i, rfl, rfl, e, hi, h⟩
theorem go_setL2 {p : Addr} {xs : List V} {k : Int} {i : Nat} {v : V} {R : Hp → Prop} (hi : ixN xs.length k = some i) (h : R (upd H p (.lst (xs.set i v)))) : rSetL (.ref p) (.int k) v (upd H p (.lst xs)) R :=
  ⟨p, xs, k, i, rfl, rfl, upd_same, hi, by rw [upd_upd]; exact h⟩
theorem go_ixL2 {p : Addr} {xs : List V} {k : Int} {v : V} (e : atI xs k = some v) (h : Q v (upd H p (.lst xs))) : rIxL K (.ref p) (.int k) (upd H p (.lst xs)) Q := ⟨p, xs, k, v, rfl, rfl, .of upd_same, e, h⟩
theorem go_ixL1 {p : Addr} {xs : List V} {k : Int} {v : V} (h : H p = some (.lst xs)) (e : atI xs k = some v) (q : Q v H) : rIxL K (.ref p) (.int k) H Q := ⟨p, xs, k, v, rfl, rfl, .of h, e, q⟩
theorem go_ixT1 {p : Addr} {xs : List V} {k : Int} {v : V} (h : H p = some (.tup xs)) (e : atI xs k = some v) (q : Q v H) : rIxT K (.ref p) (.int k) H Q := ⟨p, xs, k, v, rfl, rfl, .of h, e, q⟩
end
/-- all else as it was -/
def But (a : Addr) (H H' : Hp) : Prop := ∀ b o, b ≠ a → H b = some o → H' b = some o
theorem But.refl (a : Addr) (H : Hp) : But a H H := fun _ _ _ h => h
theorem But.trans {a : Addr} {H H1 H2 : Hp} (h : But a H H1) (k : But a H1 H2) : But a H H2 := fun b o n e => k b o n (h b o n e)
theorem But.upd {a : Addr} {H H' : Hp} {o : HO} (h : But a H H') : But a H (upd H' a o) := fun b u n e => by rw [upd_ne n]; exact h b u n e
theorem But.new {a p : Addr} {H H' : Hp} {o : HO} (h : But a H H') (n : H' p = none) : But a H (L2.upd H' p o) := fun b u z e => by
  have q := h b u z e
  rw [upd_ne (ne_of_none q n)]
  exact q
theorem Same.but {a : Addr} {H H' : Hp} (s : Same H H') : But a H H' := fun b o _ e => s b o e
/-- a pool: where it stands, where its list of the script's numbers stands, these -/
structure Pl where
  a : Addr
  l : Addr
  ns : List Int
/-- the pool p stands in H; b: its budget -/
structure Pool (H : Hp) (p : Pl) (b : Int) : Prop where
  ex : ∃ (p1 p2 p3 p4 : Int), H p.a = some (.lst [.ref p.l, .int p1, .int p2, .int p3, .int p4, .int b]) ∧ 0 ≤ p1 ∧ 0 ≤ p3 ∧ p3 < 2147483647
  li : H p.l = some (.lst (p.ns.map V.int))
  ne : p.l ≠ p.a
theorem Pool.there {H : Hp} {p : Pl} {b : Int} (h : Pool H p b) : ∃ xs, H p.a = some (.lst xs) := let ⟨_, _, _, _, e, _⟩ := h.ex; ⟨_, e⟩
theorem Pool.same {H H' : Hp} {p : Pl} {b : Int} (h : Pool H p b) (s : Same H H') : Pool H' p b := by
  obtain ⟨p1, p2, p3, p4, e, k⟩ := h.ex
  exact ⟨⟨p1, p2, p3, p4, s _ _ e, k⟩, s _ _ h.li, h.ne⟩
theorem Pool.new {H : Hp} {p : Pl} {q : Addr} {b : Int} {o : HO} (h : Pool H p b) (n : H q = none) : Pool (upd H q o) p b := h.same (same_new n)
/-- another object is written -/
theorem Pool.upd {H : Hp} {p : Pl} {q : Addr} {b : Int} {o : HO} (h : Pool H p b) (n : q ≠ p.a) (n2 : q ≠ p.l) : Pool (upd H q o) p b := by
  obtain ⟨p1, p2, p3, p4, e, k⟩ := h.ex
  exact ⟨⟨p1, p2, p3, p4, by rw [upd_ne n.symm]; exact e, k⟩, by rw [upd_ne n2.symm]; exact h.li, h.ne⟩
/-- what is free behind was free before -/
theorem But.free {a p : Addr} {H H' : Hp} {o : HO} (h : But a H H') (e : H' a = some o) (n : H' p = none) : H p = none := by
  cases q : H p with
  | none => rfl
  | some u =>
    have ne : p ≠ a := fun z => by rw [z, e] at n; cases n
    rw [h p u ne q] at n
    cases n
/-- one pool's turn: the pool stands, all else is as it was -/
structure Turn (p : Pl) (b : Int) (H H' : Hp) : Prop where
  pool : Pool H' p b
  but : But p.a H H'
theorem Turn.refl {p : Pl} {b : Int} {H : Hp} (h : Pool H p b) : Turn p b H H := ⟨h, .refl p.a H⟩
theorem Turn.trans {p : Pl} {b b' : Int} {H H1 H2 : Hp} (h : Turn p b H H1) (k : Turn p b' H1 H2) : Turn p b' H H2 := ⟨k.pool, h.but.trans k.but⟩
theorem Turn.new {p : Pl} {q : Addr} {b : Int} {H H1 : Hp} {o : HO} (h : Turn p b H H1) (n : H1 q = none) : Turn p b H (upd H1 q o) := ⟨h.pool.new n, h.but.new n⟩
theorem Turn.same {p : Pl} {b : Int} {H H1 H2 : Hp} (h : Turn p b H H1) (s : Same H1 H2) : Turn p b H H2 := ⟨h.pool.same s, h.but.trans (Same.but s)⟩
theorem Turn.free {p : Pl} {q : Addr} {b : Int} {H H' : Hp} (h : Turn p b H H') (n : H' q = none) : H q = none := let ⟨_, e⟩ := h.pool.there; h.but.free e n
theorem Pool.nea {p : Pl} {q : Addr} {b : Int} {H : Hp} (h : Pool H p b) (n : H q = none) : q ≠ p.a := fun z => by
  obtain ⟨_, e⟩ := h.there
  rw [z, e] at n
  cases n
theorem Pool.nel {p : Pl} {q : Addr} {b : Int} {H : Hp} (h : Pool H p b) (n : H q = none) : q ≠ p.l := fun z => by
  rw [z, h.li] at n
  cases n
/-- a new list is written further -/
theorem Turn.mut {p : Pl} {q : Addr} {b b' : Int} {H H2 : Hp} {o : HO} (h0 : Pool H p b') (n : H q = none) (h : Turn p b H H2) : Turn p b H (upd H2 q o) :=
  ⟨h.pool.upd (h0.nea n) (h0.nel n), fun c u nc ec => by rw [upd_ne (ne_of_none ec n)]; exact h.but c u nc ec⟩

section
variable {K : PySem.W.Frag} {σ : L2.St} {H H1 : Hp} {Q : VK} {tl te : TE} {g : TG} {tt : TT} {vs : List Nat} {j : Nat} {wi : TI}
/-- [e for x in range(n)] whose element turns a pool -/
theorem lcPool {R : Addr → Hp → Prop} {n : Int} {p : Pl} {b : Int} (P : Nat → V → Prop) (hp : Pool H1 p b) (hz : n ≤ 100000) (hn : -(2 ^ 62) ≤ n) (hw : ∀ x, wipe ((wipe σ vs).set j x) vs = wipe σ vs)
    (he : ∀ (i : Nat) H', (i : Int) < n → Turn p b H1 H' → ∀ R : VK, (∀ y H'', Turn p b H' H'' → P i y → R y H'') → te ((wipe σ vs).set j (some (.int i))) H' R)
    (q : ∀ D (ys : List V) H2, H1 D = none → Turn p b H1 H2 → H2 D = some (.lst ys) → ys.length = n.toNat → (∀ k y, ys[k]? = some y → P k y) → R D H2) :
    ∃ k : Int, [V.int n] = [.int k] ∧ -(2 ^ 62) ≤ k ∧ k < 2 ^ 62 ∧ ∀ D, H1 D = none → ∃ W : Nat → Nat → Hp → Prop, (∃ m, W 0 m (upd H1 D (.lst []))) ∧ ∀ i m H, W i m H →
      ((Itr 0 k.toNat).stop i H ∧ R D H) ∨ ((Itr 0 k.toNat).go i H ∧ ∃ Nx : Hp → Prop, (∀ H', Nx H' → ∃ m', m' < m ∧ W (i + 1) m' H') ∧ ∀ x H', (Itr 0 k.toNat).yld i H x H' → gName j x (wipe σ vs) H' fun σ2 H2 => wipe σ2 vs = wipe σ vs ∧ tYes σ2 H2 fun b H3 =>
        if b = true then te σ2 H3 fun y H4 => ∃ acc, H4 D = some (.lst acc) ∧ acc.length < sizeLine ∧ Nx (upd H4 D (.lst (acc ++ [y]))) else Nx H3) := by
  refine ⟨n, rfl, hn, by omega, fun D hD => ?_⟩
  have nD : D ≠ p.a := hp.nea hD
  refine lc_range (lo := 0) (n := n.toNat) (fun i H' => (∃ ys : List V, H' D = some (.lst ys) ∧ ys.length = i ∧ ∀ k y, ys[k]? = some y → P k y) ∧ Turn p b H1 H') ⟨⟨[], upd_same, rfl, fun k y h => by simp at h⟩, (Turn.refl hp).new hD⟩ (fun i H hi p => ?_) fun H p => ?_
  · refine ⟨hw _, ?_⟩
    refine go_yes ?_
    refine iteT ?_
    rw [Int.zero_add]
    obtain ⟨⟨ys, e, hl, hP⟩, t⟩ := p
    refine he i H (by omega) t _ fun y H4 s4 hy => ?_
    have e4 := s4.but D _ nD e
    refine ⟨ys, e4, szlt (by omega), ⟨ys ++ [y], upd_same, by simp [hl], fun k z hz => ?_⟩, Turn.mut hp hD (t.trans s4)⟩
    rcases Nat.lt_or_ge k ys.length with h | h
    · rw [List.getElem?_append_left h] at hz
      exact hP k z hz
    · rw [List.getElem?_append_right h] at hz
      rcases Nat.eq_or_lt_of_le h with e2 | e2
      · rw [← e2, Nat.sub_self] at hz
        cases hz
        rw [← e2, hl]
        exact hy
      · rw [List.getElem?_eq_none (by simp; omega)] at hz
        cases hz
  · obtain ⟨⟨ys, e, hl, hP⟩, t⟩ := p
    exact q D ys H hD t e hl hP
end
/-! ### data -/
theorem tyx_list {K : PySem.W.Frag} {H : Hp} {a : Addr} {xs : List V} (h : SqL K H a xs) : TyX K H (.ref a) (.type "list") := by
  rcases h with (h | ⟨o, h⟩) | ⟨o, its, n, e, c, _⟩
  · exact .base (.lst h)
  · exact .base (.frz h)
  · exact .kList e c
theorem tyx_tup {K : PySem.W.Frag} {H : Hp} {a : Addr} {xs : List V} (h : SqT K H a xs) : TyX K H (.ref a) (.type "tuple") := by
  rcases h with (h | ⟨o, h⟩) | ⟨o, its, n, e, c, _⟩
  · exact .base (.tup h)
  · exact .fTuple h
  · exact .kTuple e c
/-- the same data, at most n deep -/
inductive Eqd (K : PySem.W.Frag) (H : Hp) : Nat → V → V → Prop where
  | non {n : Nat} : Eqd K H n .non .non
  | bl {n : Nat} (b : Bool) : Eqd K H n (.bl b) (.bl b)
  | int {n : Nat} (i : Int) : Eqd K H n (.int i) (.int i)
  | str {n : Nat} (x : Str) : Eqd K H n (.str x) (.str x)
  | lst {n : Nat} {a b : Addr} {xs ys : List V} (h1 : SqL K H a xs) (h2 : SqL K H b ys) (hl : xs.length = ys.length) (hz : xs.length ≤ 100000) (h : ∀ (i : Nat) x y, xs[i]? = some x → ys[i]? = some y → Eqd K H n x y) : Eqd K H (n + 1) (.ref a) (.ref b)
  | tup {n : Nat} {a b : Addr} {xs ys : List V} (h1 : SqT K H a xs) (h2 : SqT K H b ys) (hl : xs.length = ys.length) (hz : xs.length ≤ 100000) (h : ∀ (i : Nat) x y, xs[i]? = some x → ys[i]? = some y → Eqd K H n x y) : Eqd K H (n + 1) (.ref a) (.ref b)
section
variable {K : PySem.W.Frag} {H H1 : Hp} {Q : VK}
theorem go_isiL (c : String) {b : Bool} {a : Addr} {xs : List V} (h : SqL K H a xs) (e : kitB "list" c = some b) (q : Q (.bl b) H) : rIsi K [.ref a, .ty c] H Q := go_isiB (tyx_list h) e q
theorem go_isiT (c : String) {b : Bool} {a : Addr} {xs : List V} (h : SqT K H a xs) (e : kitB "tuple" c = some b) (q : Q (.bl b) H) : rIsi K [.ref a, .ty c] H Q := go_isiB (tyx_tup h) e q
theorem sq_list_int {a : Addr} {xs : List V} (h : SqL K H a xs) (q : Q (.bl false) H) : rIsi K [.ref a, .ty "int"] H Q := go_isiB (tyx_list h) (by decide +kernel) q
theorem sq_list_bool {a : Addr} {xs : List V} (h : SqL K H a xs) (q : Q (.bl false) H) : rIsi K [.ref a, .ty "bool"] H Q := go_isiB (tyx_list h) (by decide +kernel) q
theorem sq_list_str {a : Addr} {xs : List V} (h : SqL K H a xs) (q : Q (.bl false) H) : rIsi K [.ref a, .ty "str"] H Q := go_isiB (tyx_list h) (by decide +kernel) q
theorem sq_list_list {a : Addr} {xs : List V} (h : SqL K H a xs) (q : Q (.bl true) H) : rIsi K [.ref a, .ty "list"] H Q := go_isiB (tyx_list h) (by decide +kernel) q
theorem sq_list_tuple {a : Addr} {xs : List V} (h : SqL K H a xs) (q : Q (.bl false) H) : rIsi K [.ref a, .ty "tuple"] H Q := go_isiB (tyx_list h) (by decide +kernel) q
theorem sq_tuple_int {a : Addr} {xs : List V} (h : SqT K H a xs) (q : Q (.bl false) H) : rIsi K [.ref a, .ty "int"] H Q := go_isiB (tyx_tup h) (by decide +kernel) q
theorem sq_tuple_bool {a : Addr} {xs : List V} (h : SqT K H a xs) (q : Q (.bl false) H) : rIsi K [.ref a, .ty "bool"] H Q := go_isiB (tyx_tup h) (by decide +kernel) q
theorem sq_tuple_str {a : Addr} {xs : List V} (h : SqT K H a xs) (q : Q (.bl false) H) : rIsi K [.ref a, .ty "str"] H Q := go_isiB (tyx_tup h) (by decide +kernel) q
theorem sq_tuple_list {a : Addr} {xs : List V} (h : SqT K H a xs) (q : Q (.bl false) H) : rIsi K [.ref a, .ty "list"] H Q := go_isiB (tyx_tup h) (by decide +kernel) q
theorem sq_tuple_tuple {a : Addr} {xs : List V} (h : SqT K H a xs) (q : Q (.bl true) H) : rIsi K [.ref a, .ty "tuple"] H Q := go_isiB (tyx_tup h) (by decide +kernel) q
theorem go_ixQL {a : Addr} {xs : List V} {k : Int} {v : V} (hs : SqL K H a xs) (e : atI xs k = some v) (h : Q v H) : rIx K (.ref a) (.int k) H Q := .inl ⟨a, xs, k, v, rfl, rfl, hs, e, h⟩
theorem go_ixQT {a : Addr} {xs : List V} {k : Int} {v : V} (hs : SqT K H a xs) (e : atI xs k = some v) (h : Q v H) : rIx K (.ref a) (.int k) H Q := .inr (.inl ⟨a, xs, k, v, rfl, rfl, hs, e, h⟩)
end
/-! ### texts -/
abbrev S : List Nat → Str := SX.S
section
variable {X : Cx} {σ : L2.St} {H H1 : Hp} {Q : VK} {K : PySem.W.Frag} {o e : Expr} {to te : TE}
def qSplit : V → List V → Hp → VK → Prop := fun x xs H Q => ∃ a b, x = .str a ∧ xs = [.str b] ∧ (b.length == 0) = false ∧ a.length + 2 ≤ sizeLine ∧ rNewStrs (Txt.split a b) H Q
theorem e_split {apos pos : Pos} (ho : PE X o to) (he : PE X e te) (hs : starEach [e] X.env = [(false, eval e X.env)] := by rfl) (hbase : attributeBase o "split" X.env (eval o X.env) = eval o X.env := by rfl) (hline : (apos.endLine == pos.line) = true := by rfl) :
    PE X (.Call (.Attribute o "split" apos) [e] [] pos) (tM1 qSplit to te) := pe_split ho he hs hbase hline
theorem go_M1 {r : V → List V → Hp → VK → Prop} (h : to σ H fun x H1 => (∃ a, x = .str a) ∧ te σ H1 fun y H2 => r x [y] H2 Q) : tM1 r to te σ H Q := h
theorem go_M0 {r : V → List V → Hp → VK → Prop} (h : to σ H fun x H1 => (∃ a, x = .str a) ∧ r x [] H1 Q) : tM0 r to σ H Q := h
theorem go_isS {a : Str} {B : Prop} (h : B) : (∃ b, V.str a = .str b) ∧ B := ⟨⟨a, rfl⟩, h⟩
theorem go_split {a : List Nat} (ha : a.length ≤ 90000) {c : Nat} (hc : c < 256) (h : ∀ p, H p = none → Q (.ref p) (upd H p (.lst ((TL.spl [c] 0 [] a).map fun w => V.str (S w))))) : qSplit (.str (S a)) [.str (S [c])] H Q := by
  refine ⟨S a, S [c], rfl, rfl, rfl, by rw [SX.S_len]; exact sz (by omega), ?_⟩
  rw [SX.split_S (by simp) (by simp [hc])]
  intro p hp
  rw [List.map_map]
  exact h p hp
def qJoin (K : PySem.W.Frag) : V → List V → Hp → VK → Prop := fun x xs H Q => ∃ a p, ∃ ys : List Str, x = .str a ∧ xs = [.ref p] ∧ (SqL K H p (ys.map V.str) ∨ SqT K H p (ys.map V.str)) ∧ (ys.map (·.length)).sum + ys.length * a.length ≤ 16777216 ∧ Q (.str (Txt.join a ys)) H
theorem e_join {apos pos : Pos} (ho : PE X o to) (he : PE X e te) (hs : starEach [e] X.env = [(false, eval e X.env)] := by rfl) (hbase : attributeBase o "join" X.env (eval o X.env) = eval o X.env := by rfl) (hline : (apos.endLine == pos.line) = true := by rfl) :
    PE X (.Call (.Attribute o "join" apos) [e] [] pos) (tM1 (qJoin X.K) to te) := pe_join ho he hs hbase hline
theorem go_join {a : List Nat} {p : Addr} {ws : List (List Nat)} (hs : SqL K H p (ws.map fun w => V.str (S w))) (hz : (ws.map List.length).sum + ws.length * a.length ≤ 16777216) (h : Q (.str (S (TL.joinL a ws))) H) : qJoin K (.str (S a)) [.ref p] H Q := by
  refine ⟨S a, p, ws.map S, rfl, rfl, .inl (by rw [List.map_map]; exact hs), ?_, by rw [SX.join_S]; exact h⟩
  rw [SX.lens, List.length_map, SX.S_len]
  exact hz
/-- for c in a text -/
theorem go_iStr {R : It → Hp → Prop} (h : te σ H fun v H1 => ∃ x, v = .str x ∧ R (Its x) H1) : iStr te σ H R := h
theorem foS {D : Ends} {tb : TS} {g : TG} (cs : List Nat) (Pv : Nat → L2.St → Hp → Prop) (h0 : Pv 0 σ H1)
    (hs : ∀ i c σ H, cs[i]? = some c → Pv i σ H → g (.str (S [c])) σ H fun σ2 H2 => tb { D with nx := Pv (i + 1), ct := Pv (i + 1), bk := D.nx } σ2 H2) (hd : ∀ σ H, Pv cs.length σ H → D.nx σ H) :
    ∃ x, V.str (S cs) = .str x ∧ ∃ W : Nat → Nat → L2.St → Hp → Prop, (∃ m, W 0 m σ H1) ∧ ∀ i m σ H, W i m σ H →
      ((Its x).stop i H ∧ D.nx σ H) ∨ ((Its x).go i H ∧ ∃ N : L2.St → Hp → Prop, (∀ σ' H', N σ' H' → ∃ m', m' < m ∧ W (i + 1) m' σ' H') ∧ ∀ x2 H', (Its x).yld i H x2 H' → g x2 σ H' fun σ2 H2 => tb { D with nx := N, ct := N, bk := D.nx } σ2 H2) := by
  refine ⟨S cs, rfl, fun i m σ H => m = cs.length - i ∧ i ≤ cs.length ∧ Pv i σ H, ⟨cs.length, by simp, Nat.zero_le _, h0⟩, ?_⟩
  rintro i m σ H ⟨rfl, hi, p⟩
  have hsz : (S cs).cps.size = cs.length := by simp
  by_cases hlt : i < cs.length
  · refine .inr ⟨by show i < (S cs).cps.size; rw [hsz]; exact hlt, Pv (i + 1), fun σ' H' p' => ⟨cs.length - (i + 1), by omega, rfl, hlt, p'⟩, fun x H' y => ?_⟩
    obtain ⟨e, c, hc, rfl⟩ := y
    subst e
    refine hs i c σ _ ?_ p
    have : (S cs).cps[i]? = some c := hc
    simpa using this
  · have e : i = cs.length := by omega
    subst e
    exact .inl ⟨by show (S cs).cps.size ≤ cs.length; omega, hd σ H p⟩
theorem at_mem {α : Type} {xs : List α} {i : Nat} {v : α} (h : atI xs (i : Int) = some v) : v ∈ xs := by
  unfold atI ixN at h
  rw [if_pos (by omega)] at h
  split at h
  · rw [Option.bind_some, Int.toNat_natCast] at h
    exact List.mem_of_getElem? h
  · cases h
theorem atS_ex {z : Str} {k : Int} (h0 : 0 ≤ k) (h : k < z.length) : ∃ c, atI z.cps.toList k = some c := by
  have e : k = (k.toNat : Int) := by omega
  have h2 : k.toNat < z.cps.toList.length := by
    have : z.length = z.cps.toList.length := by simp [Str.length]
    omega
  rw [e]
  exact ⟨_, atI_nat (List.getElem?_eq_getElem h2)⟩
theorem dp_strs : ∀ ws : List Str, DpAll K H (ws.map V.str) (ws.map PyData.str)
  | [] => .nil
  | n :: r => .cons (.str n) (dp_strs r)
theorem eqvAll_strs : ∀ xs : List Str, PyData.eqvAll (xs.map PyData.str) (xs.map PyData.str) = true
  | [] => by simp [PyData.eqvAll]
  | x :: xs => by simp only [List.map_cons, PyData.eqvAll, PyData.eqv, eqvAll_strs xs]; simp
theorem depth_strs : ∀ xs : List Str, PyData.depthAll (xs.map PyData.str) = 0
  | [] => rfl
  | x :: xs => by
    rw [List.map_cons]
    unfold PyData.depthAll
    rw [depth_strs xs]
    rfl
theorem canLay_strs : ∀ xs : List Str, xs.all PyData.strOk = true → PyData.canLayAll0 (xs.map PyData.str) = true
  | [], _ => rfl
  | x :: xs, h => by
    rw [List.all_cons, Bool.and_eq_true] at h
    rw [List.map_cons]
    simp only [PyData.canLayAll0, PyData.canLay0, canLay_strs xs h.2, h.1, Bool.and_self]
theorem shaped_strs (xs : List Str) (h : xs.all PyData.strOk = true) : SeqAt.shaped (.list (xs.map PyData.str)) = true := by
  unfold SeqAt.shaped
  have h1 : PyData.canLay0 (.list (xs.map PyData.str)) = true := by
    simp only [PyData.canLay0]
    exact canLay_strs xs h
  have h2 : PyData.depth (.list (xs.map PyData.str)) ≤ 64 := by
    unfold PyData.depth
    rw [depth_strs xs]
    decide
  rw [h1, decide_eq_true h2]
  rfl
theorem go_eqStrs {a b : Addr} {xs : List Str} (h1 : SqL K H a (xs.map V.str)) (h2 : SqL K H b (xs.map V.str)) (ho : xs.all PyData.strOk = true) (h : Q (.bl true) H) : rEqD K (.ref a) (.ref b) H Q :=
  ⟨_, _, .lst h1 (dp_strs xs), .lst h2 (dp_strs xs), shaped_strs xs ho, shaped_strs xs ho, by rw [PyData.eqv, eqvAll_strs]; exact h⟩
end
end Gx

set_option Elab.async false
set_option linter.all false
set_option maxRecDepth 100000
set_option maxHeartbeats 4000000
/-! Own lemmas: operators that a class defines; gcd, lcm, // of great ints. -/
namespace Gx
open PySem PySem.Spec PyProof.Rows L2
section
variable {X : Cx} {CX : CXT} {C f : Addr} {fd : FuncData} {ps : List Str} {sp : Sp} {E : XK} {k : Nat} {Q : VK} {H : Hp}
theorem back_of {pins : List (Addr × Obj)} {σ : L2.St} {M : Model} {A : Around} {R : Value → Shared → Prop} {t : Sem Value} {s : Shared} (h : wpAny M A t (EP X pins σ Q) R s) : wpAny M A t (PySem.W.CmpBack (EP X pins σ Q)) R s := by
  refine wpAny_mono h (fun v s' q => ?_) fun _ _ z => z
  cases v <;> first | exact q | (obtain ⟨x, H', I, r, q⟩ := q; cases x <;> first | (cases r; done) | (obtain ⟨_, r⟩ := r; cases r))
/-- x op y by the class's own method -/
def rOwn (C : Addr) (sp : Sp) (E : XK) : R2 := fun x y H Q => ∃ a b dx dy fs gs, x = .ref a ∧ y = .ref b ∧ H a = some (.ins C dx fs) ∧ H b = some (.ins C dy gs) ∧ sp [x, y] H Q E
theorem go_own {a b dx dy : Addr} {fs gs : List (Str × V)} (h1 : H a = some (.ins C dx fs)) (h2 : H b = some (.ins C dy gs)) (h : sp [.ref a, .ref b] H Q E) : rOwn C sp E (.ref a) (.ref b) H Q := ⟨a, b, dx, dy, fs, gs, rfl, rfl, h1, h2, h⟩
theorem op_own {op : Operator} (hc : PySem.W.selfFirst X.K C = true) (hs : PySem.W.findIn X.K (.ref C) (PySem.dunder op.info.2) = some (some (.ref f))) (hf : PySem.W.isFn X.K (.ref f) = true)
    (F : FnOk X.prog X.w X.K X.mg X.base CX k f fd ps sp) (hr : Room k X.A) (hb : Binds X.K fd ps []) (hx : Passes CX X E) : OpR X (binaryOp op) (rOwn C sp E) := by
  intro pins s σ H x y v u Q I rx ry h
  obtain ⟨a, b, dx, dy, fs, gs, rfl, rfl, ha, hb', hq⟩ := h
  have rx' := rx
  have ry' := ry
  cases rx
  cases ry
  obtain ⟨mA, J, _⟩ := ins_get I.hok ha
  obtain ⟨mB, J', _⟩ := ins_get I.hok hb'
  obtain ⟨od, J, _⟩ := J.look
  obtain ⟨od', J', _⟩ := J'.look
  obtain ⟨m, hF⟩ := I.fr
  refine PySem.W.binop_K hF I.ok.mod.kin J J'.type hc hs hf (back_of ?_)
  exact run_fn F hr hb .nil hx I (.cons rx' (.cons ry' .nil)) (by simpa using hq)
/-- x == y, x != y by the class's own method (op: its own name) -/
theorem op_ownCmp {op : CmpOp} (hcmp : ∀ v u, compareOp op v u = richCompare op v u) (hc : PySem.W.notFirst X.K C (.ref C) = true) (hs : PySem.W.findIn X.K (.ref C) (cmpInfo op).2.1 = some (some (.ref f))) (hf : PySem.W.isFn X.K (.ref f) = true)
    (F : FnOk X.prog X.w X.K X.mg X.base CX k f fd ps sp) (hr : Room k X.A) (hb : Binds X.K fd ps []) (hx : Passes CX X E) : OpR X (compareOp op) (rOwn C sp E) := by
  intro pins s σ H x y v u Q I rx ry h
  obtain ⟨a, b, dx, dy, fs, gs, rfl, rfl, ha, hb', hq⟩ := h
  have rx' := rx
  have ry' := ry
  cases rx
  cases ry
  obtain ⟨mA, J, _⟩ := ins_get I.hok ha
  obtain ⟨mB, J', _⟩ := ins_get I.hok hb'
  obtain ⟨od, J, _⟩ := J.look
  obtain ⟨od', J', _⟩ := J'.look
  obtain ⟨m, hF⟩ := I.fr
  rw [hcmp]
  refine PySem.W.cmp_K hr.units0 hF I.ok.mod.kin J J'.type hc hs hf (back_of ?_)
  exact run_fn F hr hb .nil hx I (.cons rx' (.cons ry' .nil)) (by simpa using hq)
/-- -x by the class's own method -/
def uOwn (C : Addr) (sp : Sp) (E : XK) : V → Hp → VK → Prop := fun x H Q => ∃ a dx fs, x = .ref a ∧ H a = some (.ins C dx fs) ∧ sp [x] H Q E
theorem go_uOwn {a dx : Addr} {fs : List (Str × V)} (h1 : H a = some (.ins C dx fs)) (h : sp [.ref a] H Q E) : uOwn C sp E (.ref a) H Q := ⟨a, dx, fs, rfl, h1, h⟩
theorem un_own (hs : PySem.W.findIn X.K (.ref C) "__neg__" = some (some (.ref f))) (hf : PySem.W.isFn X.K (.ref f) = true)
    (F : FnOk X.prog X.w X.K X.mg X.base CX k f fd ps sp) (hr : Room k X.A) (hb : Binds X.K fd ps []) (hx : Passes CX X E) : UnR X (unaryOp .USub) (uOwn C sp E) := by
  intro pins s σ H x v Q I rx h
  obtain ⟨a, dx, fs, rfl, ha, hq⟩ := h
  have rx' := rx
  cases rx
  obtain ⟨mA, J, _⟩ := ins_get I.hok ha
  obtain ⟨od, J, _⟩ := J.look
  unfold unaryOp
  refine wpAny_holding ?_
  dsimp only
  rw [if_neg (by decide)]
  refine wpAny_bind (PySem.W.special_fn I.kIn J hs (beq_iff_eq.mp hf) ?_)
  exact wpAny_mono (run_fn F hr hb .nil hx I (.cons rx' .nil) (by simpa using hq)) (fun v s' q => wpAny_pure q) fun _ _ z => z
/-! ### great ints -/
def CDivX (_ j : Int) : Prop := j ≠ 0 ∧ j.natAbs.log2 < 9000
theorem op_fdivX : OpR X (binaryOp .FloorDiv) (rI CDivX fun i j => .int (i.fdiv j)) := opI fun _ _ _ _ _ _ _ hc q => floordiv_int hc.1 q (.inl (PyProof.noPylong_of_log2 hc.2))
theorem divX {i j : Int} {b : Nat} (h : j ≠ 0) (hb : j.natAbs < 2 ^ b) (h0 : 0 < b) (h9 : b ≤ 9000) : CDivX i j := ⟨h, Nat.lt_of_lt_of_le (PySem.Flt.log2_lt_of h0 hb) h9⟩
theorem go_gcd {a b : Int} (h : Q (.int ((Nat.gcd a.natAbs b.natAbs : Nat) : Int)) H) : rGcd [.int a, .int b] H Q := ⟨a, b, rfl, h⟩
/-- two numbers of up to 9000 bits -/
def rLcm : List V → Hp → VK → Prop := fun vs H Q => ∃ a b : Int, vs = [.int a, .int b] ∧ a.natAbs < 2 ^ 9000 ∧ b.natAbs < 2 ^ 9000 ∧ Q (.int ((Nat.lcm a.natAbs b.natAbs : Nat) : Int)) H
theorem log2_le {n k : Nat} (h : n < 2 ^ (k + 1)) : n.log2 ≤ k := PySem.W.mg_log h
theorem cr_lcm : CallR X (.builtin "math.lcm") rLcm := by
  intro pins s σ H vs us Q I r h
  obtain ⟨a, b, rfl, ha, hb, q⟩ := h
  obtain ⟨t, u, rfl⟩ := Vals.int2 r
  have h1 : (max 1 a.natAbs).log2 ≤ 8999 := log2_le (by
    have : 1 < 2 ^ 9000 := Nat.one_lt_two_pow (by decide)
    show max 1 a.natAbs < 2 ^ 9000
    omega)
  have h2 : (max a.natAbs b.natAbs).log2 ≤ 8999 := log2_le (by show max a.natAbs b.natAbs < 2 ^ 9000; omega)
  have e : (Nat.lcm 1 a.natAbs) = a.natAbs := Nat.lcm_one_left _
  have hz : ((((Nat.lcm 1 a.natAbs).lcm b.natAbs : Nat) : Int)).natAbs.log2 < bitsLine := by
    rw [e, Int.natAbs_natCast]
    have hm : a.natAbs.lcm b.natAbs ≤ a.natAbs * b.natAbs := Nat.div_le_self _ _
    have hl : a.natAbs.lcm b.natAbs < 2 ^ (17999 + 1) := by
      have : a.natAbs * b.natAbs < 2 ^ 9000 * 2 ^ 9000 := Nat.mul_lt_mul'' ha hb
      rw [← Nat.pow_add] at this
      exact Nat.lt_of_le_of_lt hm this
    have := log2_le hl
    have hb : bitsLine = 134217728 := by decide
    omega
  have g := PySem.W.mg_run_lcm a t b u (by omega) (by omega) hz
  refine call_function_meets PySem.W.MGF.kind_lcm PySem.W.MGF.plain_lcm PySem.W.MGF.entry_lcm (PySem.W.MGF.args_lcm _ _) g.meets ?_
  rw [e]
  exact ⟨.int _, H, I.tok _, ⟨_, rfl⟩, q⟩
theorem go_lcm {a b : Int} (ha : a.natAbs < 2 ^ 9000) (hb : b.natAbs < 2 ^ 9000) (h : Q (.int ((Nat.lcm a.natAbs b.natAbs : Nat) : Int)) H) : rLcm [.int a, .int b] H Q := ⟨a, b, rfl, ha, hb, h⟩
end
end Gx

set_option Elab.async false
set_option linter.all false
set_option maxRecDepth 100000
set_option maxHeartbeats 4000000
/-! Own lemmas: fractions in lowest terms; Euclid's loop. -/
namespace Gx
open PySem PySem.Spec PyProof.Rows L2
/-- the numerator and the denominator in lowest terms -/
def rN (a b : Int) : Int := if b < 0 then (-a) / (Int.gcd a b : Int) else a / (Int.gcd a b : Int)
def rD (a b : Int) : Int := if b < 0 then (-b) / (Int.gcd a b : Int) else b / (Int.gcd a b : Int)
theorem gcd_pos {a b : Int} (h : b ≠ 0) : 0 < (Int.gcd a b : Int) := by
  have := Int.gcd_pos_of_ne_zero_right a h
  omega
theorem gcd_l (a b : Int) : (Int.gcd a b : Int) ∣ a := Int.gcd_dvd_left _ _
theorem gcd_r (a b : Int) : (Int.gcd a b : Int) ∣ b := Int.gcd_dvd_right _ _
/-- one form for both signs -/
theorem rN_mul {a b : Int} (h : b ≠ 0) : rN a b * (if b < 0 then -(Int.gcd a b : Int) else (Int.gcd a b : Int)) = a := by
  unfold rN
  split
  · rw [Int.mul_neg, Int.ediv_mul_cancel (Int.dvd_neg.mpr (gcd_l a b)), Int.neg_neg]
  · exact Int.ediv_mul_cancel (gcd_l a b)
theorem rD_mul {a b : Int} (h : b ≠ 0) : rD a b * (if b < 0 then -(Int.gcd a b : Int) else (Int.gcd a b : Int)) = b := by
  unfold rD
  split
  · rw [Int.mul_neg, Int.ediv_mul_cancel (Int.dvd_neg.mpr (gcd_r a b)), Int.neg_neg]
  · exact Int.ediv_mul_cancel (gcd_r a b)
theorem rD_pos {a b : Int} (h : b ≠ 0) : 0 < rD a b := by
  have g := gcd_pos (a := a) h
  have e := rD_mul (a := a) h
  by_cases hb : b < 0
  · rw [if_pos hb] at e
    by_cases q : 0 < rD a b
    · exact q
    · have : 0 ≤ rD a b * -(Int.gcd a b : Int) := Int.mul_nonneg_of_nonpos_of_nonpos (by omega) (by omega)
      omega
  · rw [if_neg hb] at e
    by_cases q : 0 < rD a b
    · exact q
    · have : rD a b * (Int.gcd a b : Int) ≤ 0 := Int.mul_nonpos_of_nonpos_of_nonneg (by omega) (by omega)
      omega
theorem r_cross {a b : Int} (h : b ≠ 0) : rN a b * b = a * rD a b := by
  have e1 := rN_mul (a := a) h
  have e2 := rD_mul (a := a) h
  generalize (if b < 0 then -(Int.gcd a b : Int) else (Int.gcd a b : Int)) = g at e1 e2
  calc rN a b * b = rN a b * (rD a b * g) := by rw [e2]
    _ = (rN a b * g) * rD a b := by rw [Int.mul_comm (rD a b) g, ← Int.mul_assoc]
    _ = a * rD a b := by rw [e1]
theorem r_coprime {a b : Int} (h : b ≠ 0) : Int.gcd (rN a b) (rD a b) = 1 := by
  have g := gcd_pos (a := a) h
  have e1 := rN_mul (a := a) h
  have e2 := rD_mul (a := a) h
  have e3 : Int.gcd (rN a b * (if b < 0 then -(Int.gcd a b : Int) else (Int.gcd a b : Int))) (rD a b * (if b < 0 then -(Int.gcd a b : Int) else (Int.gcd a b : Int))) = Int.gcd a b := by rw [e1, e2]
  rw [Int.gcd_mul_right] at e3
  have e4 : (if b < 0 then -(Int.gcd a b : Int) else (Int.gcd a b : Int)).natAbs = Int.gcd a b := by
    split
    · rw [Int.natAbs_neg, Int.natAbs_natCast]
    · rw [Int.natAbs_natCast]
  rw [e4] at e3
  have hp : 0 < Int.gcd a b := by omega
  exact Nat.eq_of_mul_eq_mul_right hp (by omega)
theorem dvd_co {k m n : Int} (h : k ∣ m * n) (g : Int.gcd k m = 1) : k ∣ n := by
  have h' : k.natAbs ∣ m.natAbs * n.natAbs := by
    rw [← Int.natAbs_mul]
    exact Int.natAbs_dvd_natAbs.mpr h
  exact Int.natAbs_dvd_natAbs.mp (Nat.Coprime.dvd_of_dvd_mul_left (show Nat.gcd k.natAbs m.natAbs = 1 from g) h')
/-- lowest terms are one -/
theorem low_unique {n d n' d' : Int} (hd : 0 < d) (hd' : 0 < d') (h1 : Int.gcd n d = 1) (h2 : Int.gcd n' d' = 1) (h : n * d' = n' * d) : n = n' ∧ d = d' := by
  have k1 : d ∣ d' := by
    have : d ∣ n * d' := by rw [h]; exact Int.dvd_mul_left _ _
    exact dvd_co this (by rw [Int.gcd_comm]; exact h1)
  have k2 : d' ∣ d := by
    have : d' ∣ n' * d := by rw [← h]; exact Int.dvd_mul_left _ _
    exact dvd_co this (by rw [Int.gcd_comm]; exact h2)
  have e : d = d' := Int.dvd_antisymm (by omega) (by omega) k1 k2
  subst e
  exact ⟨Int.eq_of_mul_eq_mul_right (by omega) h, rfl⟩
theorem r_unique {a b n d : Int} (h : b ≠ 0) (hd : 0 < d) (hg : Int.gcd n d = 1) (e : n * b = a * d) : n = rN a b ∧ d = rD a b := by
  refine low_unique hd (rD_pos h) hg (r_coprime h) ?_
  have c := r_cross (a := a) h
  have : n * rD a b * b = rN a b * d * b := by
    calc n * rD a b * b = n * b * rD a b := by rw [Int.mul_right_comm]
      _ = a * d * rD a b := by rw [e]
      _ = a * rD a b * d := by rw [Int.mul_right_comm]
      _ = rN a b * b * d := by rw [c]
      _ = rN a b * d * b := by rw [Int.mul_right_comm]
  exact Int.eq_of_mul_eq_mul_right h this
theorem r_congr {a b a' b' : Int} (h : b ≠ 0) (h' : b' ≠ 0) (e : a * b' = a' * b) : rN a b = rN a' b' ∧ rD a b = rD a' b' := by
  refine r_unique h' (rD_pos h) (r_coprime h) ?_
  have c := r_cross (a := a) h
  have : rN a b * b' * b = a' * rD a b * b := by
    calc rN a b * b' * b = rN a b * b * b' := by rw [Int.mul_right_comm]
      _ = a * rD a b * b' := by rw [c]
      _ = a * b' * rD a b := by rw [Int.mul_right_comm]
      _ = a' * b * rD a b := by rw [e]
      _ = a' * rD a b * b := by rw [Int.mul_right_comm]
  exact Int.eq_of_mul_eq_mul_right h this
/-- what the program reckons -/
theorem rN_fdiv {a b : Int} (h : b ≠ 0) {p : Int} (hp : p = if b < 0 then -(Int.gcd a b : Int) else (Int.gcd a b : Int)) : a.fdiv p = rN a b ∧ b.fdiv p = rD a b ∧ p ≠ 0 := by
  have g := gcd_pos (a := a) h
  have hp0 : p ≠ 0 := by rw [hp]; split <;> omega
  have e1 := rN_mul (a := a) h
  have e2 := rD_mul (a := a) h
  rw [← hp] at e1 e2
  refine ⟨?_, ?_, hp0⟩
  · have := Int.mul_fdiv_cancel (rN a b) hp0
    rw [e1] at this
    exact this
  · have := Int.mul_fdiv_cancel (rD a b) hp0
    rw [e2] at this
    exact this
theorem mul_abs_le {x y z : Int} (hz : z ≠ 0) (e : x * z = y) : x.natAbs ≤ y.natAbs := by
  rw [← e, Int.natAbs_mul]
  exact Nat.le_mul_of_pos_right _ (by omega)
theorem rN_le (a b : Int) (h : b ≠ 0) : (rN a b).natAbs ≤ a.natAbs := by
  have g := gcd_pos (a := a) h
  exact mul_abs_le (by split <;> omega) (rN_mul h)
theorem rD_le (a b : Int) (h : b ≠ 0) : (rD a b).natAbs ≤ b.natAbs := by
  have g := gcd_pos (a := a) h
  exact mul_abs_le (by split <;> omega) (rD_mul h)
theorem r_self {n d : Int} (hd : 0 < d) (hg : Int.gcd n d = 1) : rN n d = n ∧ rD n d = d := by
  obtain ⟨e1, e2⟩ := r_unique (a := n) (b := d) (n := n) (d := d) (by omega) hd hg rfl
  exact ⟨e1.symm, e2.symm⟩
/-! ### sums, products of fractions that were brought to lowest terms -/
theorem r_add {a b c d : Int} (hb : b ≠ 0) (hd : d ≠ 0) : rN (rN a b * rD c d + rN c d * rD a b) (rD a b * rD c d) = rN (a * d + c * b) (b * d) ∧ rD (rN a b * rD c d + rN c d * rD a b) (rD a b * rD c d) = rD (a * d + c * b) (b * d) := by
  have p1 := rD_pos (a := a) hb
  have p2 := rD_pos (a := c) hd
  have c1 := r_cross (a := a) hb
  have c2 := r_cross (a := c) hd
  refine r_congr (Int.ne_of_gt (Int.mul_pos p1 p2)) (Int.mul_ne_zero hb hd) ?_
  generalize rN a b = n at *
  generalize rD a b = m at *
  generalize rN c d = n' at *
  generalize rD c d = m' at *
  rw [Int.add_mul, Int.add_mul]
  have e1 : n * m' * (b * d) = a * d * (m * m') := by
    calc n * m' * (b * d) = (n * b) * (m' * d) := by ac_rfl
      _ = (a * m) * (m' * d) := by rw [c1]
      _ = a * d * (m * m') := by ac_rfl
  have e2 : n' * m * (b * d) = c * b * (m * m') := by
    calc n' * m * (b * d) = (n' * d) * (m * b) := by ac_rfl
      _ = (c * m') * (m * b) := by rw [c2]
      _ = c * b * (m * m') := by ac_rfl
  rw [e1, e2]
theorem r_neg {a b : Int} (hb : b ≠ 0) : rN (-rN a b) (rD a b) = rN (-a) b ∧ rD (-rN a b) (rD a b) = rD (-a) b := by
  have p1 := rD_pos (a := a) hb
  have c1 := r_cross (a := a) hb
  refine r_congr (by omega) hb ?_
  rw [Int.neg_mul, Int.neg_mul, c1]
theorem r_sub {a b c d : Int} (hb : b ≠ 0) (hd : d ≠ 0) : rN (rN a b * rD c d - rN c d * rD a b) (rD a b * rD c d) = rN (a * d - c * b) (b * d) ∧ rD (rN a b * rD c d - rN c d * rD a b) (rD a b * rD c d) = rD (a * d - c * b) (b * d) := by
  have p1 := rD_pos (a := a) hb
  have p2 := rD_pos (a := c) hd
  have c1 := r_cross (a := a) hb
  have c2 := r_cross (a := c) hd
  refine r_congr (Int.ne_of_gt (Int.mul_pos p1 p2)) (Int.mul_ne_zero hb hd) ?_
  generalize rN a b = n at *
  generalize rD a b = m at *
  generalize rN c d = n' at *
  generalize rD c d = m' at *
  rw [Int.sub_mul, Int.sub_mul]
  have e1 : n * m' * (b * d) = a * d * (m * m') := by
    calc n * m' * (b * d) = (n * b) * (m' * d) := by ac_rfl
      _ = (a * m) * (m' * d) := by rw [c1]
      _ = a * d * (m * m') := by ac_rfl
  have e2 : n' * m * (b * d) = c * b * (m * m') := by
    calc n' * m * (b * d) = (n' * d) * (m * b) := by ac_rfl
      _ = (c * m') * (m * b) := by rw [c2]
      _ = c * b * (m * m') := by ac_rfl
  rw [e1, e2]
theorem r_mul {a b c d : Int} (hb : b ≠ 0) (hd : d ≠ 0) : rN (rN a b * rN c d) (rD a b * rD c d) = rN (a * c) (b * d) ∧ rD (rN a b * rN c d) (rD a b * rD c d) = rD (a * c) (b * d) := by
  have p1 := rD_pos (a := a) hb
  have p2 := rD_pos (a := c) hd
  have c1 := r_cross (a := a) hb
  have c2 := r_cross (a := c) hd
  refine r_congr (Int.ne_of_gt (Int.mul_pos p1 p2)) (Int.mul_ne_zero hb hd) ?_
  generalize rN a b = n at *
  generalize rD a b = m at *
  generalize rN c d = n' at *
  generalize rD c d = m' at *
  calc n * n' * (b * d) = (n * b) * (n' * d) := by ac_rfl
    _ = (a * m) * (c * m') := by rw [c1, c2]
    _ = a * c * (m * m') := by ac_rfl
/-! ### Euclid -/
theorem gcd_step {a b : Int} (ha : 0 ≤ a) (hb : 0 < b) : Int.gcd b (a % b) = Int.gcd a b := by
  have h : 0 ≤ a % b := Int.emod_nonneg _ (by omega)
  obtain ⟨n, rfl⟩ : ∃ n : Nat, a = n := ⟨a.toNat, by omega⟩
  obtain ⟨m, rfl⟩ : ∃ m : Nat, b = m := ⟨b.toNat, by omega⟩
  rw [← Int.natCast_emod, Int.gcd_natCast_natCast, Int.gcd_natCast_natCast, Nat.gcd_comm n m, Nat.gcd_rec m n, Nat.gcd_comm]
theorem euclid_drop {a b : Int} (hb : 0 < b) (h : b < a) : 2 * (b * (a % b)) ≤ a * b := by
  have h0 : 0 ≤ a % b := Int.emod_nonneg _ (by omega)
  have h1 : a % b < b := Int.emod_lt_of_pos _ hb
  have h2 : 1 ≤ a / b := by
    rw [Int.le_ediv_iff_mul_le hb]
    omega
  have h3 := Int.mul_ediv_add_emod a b
  have h4 : b * 1 ≤ b * (a / b) := Int.mul_le_mul_of_nonneg_left h2 (by omega)
  have h5 : 2 * (a % b) ≤ a := by omega
  have h6 : b * (2 * (a % b)) ≤ b * a := Int.mul_le_mul_of_nonneg_left h5 (by omega)
  rw [Int.mul_comm a b]
  calc 2 * (b * (a % b)) = b * (2 * (a % b)) := by ac_rfl
    _ ≤ b * a := h6
/-! ### a ratio as an object -/
def rf (n d : Int) : List (Str × V) := [("num", .int n), ("den", .int d)]
theorem nd_ne : ¬ (("num" : Str) = "den") := by decide +kernel
theorem rf_num (n d : Int) : (rf n d).lookup ("num" : Str) = some (.int n) := by
  unfold rf
  rw [List.lookup_cons, beq_self_eq_true]
theorem rf_den (n d : Int) : (rf n d).lookup ("den" : Str) = some (.int d) := by
  unfold rf
  rw [List.lookup_cons, show (("den" : Str) == "num") = false by decide +kernel, List.lookup_cons, beq_self_eq_true]
theorem rf_none (n d : Int) {m : Str} (h1 : ¬ m = "num") (h2 : ¬ m = "den") : (rf n d).lookup m = none := by
  unfold rf
  rw [List.lookup_cons, beq_eq_false_iff_ne.mpr h1, List.lookup_cons, beq_eq_false_iff_ne.mpr h2]
  rfl
theorem rf_put (n d : Int) : putF "den" (.int d) (putF "num" (.int n) []) = rf n d := by
  show (if ("num" : Str) = "den" then [(("num" : Str), V.int d)] else (("num" : Str), V.int n) :: putF "den" (V.int d) []) = _
  rw [if_neg nd_ne]
  rfl
/-- a ratio n / d stands at x -/
def RatAt (C : Addr) (H : Hp) (x : Addr) (n d : Int) : Prop := ∃ dx, H x = some (.ins C dx (rf n d))
theorem RatAt.same {C : Addr} {H H' : Hp} {x : Addr} {n d : Int} (h : RatAt C H x n d) (s : Same H H') : RatAt C H' x n d := let ⟨dx, e⟩ := h; ⟨dx, s _ _ e⟩
section
variable {K : PySem.W.Frag} {σ : L2.St} {H : Hp} {Q : VK} {ta : TE} {f : Str}
def qFld (K : PySem.W.Frag) (f : Str) (Q : VK) : VK := fun x H1 => ∃ a C dx fs v, x = .ref a ∧ H1 a = some (.ins C dx fs) ∧ Cls K C ∧ NoAttr K C f ∧ fs.lookup f = some v ∧ Q v H1
theorem go_fld (h : ta σ H (qFld K f Q)) : tFld K ta f σ H Q := h
theorem go_fldV {a C dx : Addr} {fs : List (Str × V)} {v : V} (e : H a = some (.ins C dx fs)) (c : Cls K C) (n : NoAttr K C f) (l : fs.lookup f = some v) (h : Q v H) : qFld K f Q (.ref a) H := ⟨a, C, dx, fs, v, rfl, e, c, n, l, h⟩
theorem go_rnum {a C dx : Addr} {m d : Int} (e : H a = some (.ins C dx (rf m d))) (c : Cls K C) (n : NoAttr K C "num") (h : Q (.int m) H) : qFld K "num" Q (.ref a) H := go_fldV e c n (rf_num m d) h
theorem go_rden {a C dx : Addr} {m d : Int} (e : H a = some (.ins C dx (rf m d))) (c : Cls K C) (n : NoAttr K C "den") (h : Q (.int d) H) : qFld K "den" Q (.ref a) H := go_fldV e c n (rf_den m d) h
theorem go_make {C : Addr} {sp : Sp} {dvs : List V} {E : XK} {t : TA} (h : t σ H fun vs H1 => ∀ x dx, H1 x = none → H1 dx = none → dx ≠ x →
  sp (.ref x :: (vs ++ dvs)) (upd (upd H1 dx (.own x)) x (.ins C dx [])) (fun v H2 => v = .non ∧ Q (.ref x) H2) E) : tMake C sp dvs E t σ H Q := h
theorem go_meth {C : Addr} {m : Str} {sp : Sp} {dvs : List V} {E : XK} {t : TA} (h : ta σ H fun x H1 => ∃ a dx fs, x = .ref a ∧ H1 a = some (.ins C dx fs) ∧ fs.lookup m = none ∧
  t σ H1 fun vs H2 => sp (x :: (vs ++ dvs)) H2 Q E) : tMeth C m sp dvs E ta t σ H Q := h
def sFldN (K : PySem.W.Frag) (f : Str) (y : V) (σ : L2.St) (D : Ends) : VK := fun x H2 => ∃ a C dx fs, x = .ref a ∧ H2 a = some (.ins C dx fs) ∧ Cls K C ∧ NoAttr K C f ∧ fs.length < 1000 ∧ D.nx σ (upd H2 a (.ins C dx (putF f y fs)))
theorem go_sfld {D : Ends} {tv : TE} (h : tv σ H fun y H1 => ta σ H1 (sFldN K f y σ D)) : sFld K ta tv f D σ H := h
theorem go_sfldV {D : Ends} {y : V} {a C dx : Addr} {fs : List (Str × V)} (e : H a = some (.ins C dx fs)) (c : Cls K C) (n : NoAttr K C f) (l : fs.length < 1000) (h : D.nx σ (upd H a (.ins C dx (putF f y fs)))) : sFldN K f y σ D (.ref a) H :=
  ⟨a, C, dx, fs, rfl, e, c, n, l, h⟩
end
theorem same_made {H H1 : Hp} {z dz : Addr} {o1 o2 : HO} (hz : H z = none) (hdz : H dz = none) (s : ∀ c o, c ≠ z → upd (upd H dz o1) z o2 c = some o → H1 c = some o) : Same H H1 := fun t o ht => by
  refine s t o (ne_of_none ht hz) ?_
  rw [upd_ne (ne_of_none ht hz), upd_ne (ne_of_none ht hdz)]
  exact ht
theorem p_mono {x : Int} {k n : Nat} (h : x.natAbs < 2 ^ k) (hk : k ≤ n) : x.natAbs < 2 ^ n := Nat.lt_of_lt_of_le h (Nat.pow_le_pow_right (by decide) hk)
theorem p30 {x : Int} (h : x.natAbs ≤ 10 ^ 30 + 1) : x.natAbs < 2 ^ 100 := Nat.lt_of_le_of_lt h (by decide)
theorem p_add {x y : Int} {k : Nat} (h1 : x.natAbs < 2 ^ k) (h2 : y.natAbs < 2 ^ k) : (x + y).natAbs < 2 ^ (k + 1) := by
  have := Int.natAbs_add_le x y
  rw [Nat.pow_succ]
  omega
theorem p_sub {x y : Int} {k : Nat} (h1 : x.natAbs < 2 ^ k) (h2 : y.natAbs < 2 ^ k) : (x - y).natAbs < 2 ^ (k + 1) := by
  have := Int.natAbs_sub_le x y
  rw [Nat.pow_succ]
  omega
/-! ### lists of ratios -/
/-- each of xs is a ratio, with the terms of rs -/
def RatsAt (C : Addr) (H : Hp) (xs : List V) (rs : List (Int × Int)) : Prop := xs.length = rs.length ∧ ∀ (i : Nat) x r, xs[i]? = some x → rs[i]? = some r → ∃ p dx, x = .ref p ∧ H p = some (.ins C dx (rf r.1 r.2))
theorem RatsAt.same {C : Addr} {H H' : Hp} {xs : List V} {rs : List (Int × Int)} (h : RatsAt C H xs rs) (s : Same H H') : RatsAt C H' xs rs :=
  ⟨h.1, fun i x r a b => let ⟨p, dx, e, k⟩ := h.2 i x r a b; ⟨p, dx, e, s _ _ k⟩⟩
theorem RatsAt.get {C : Addr} {H : Hp} {xs : List V} {rs : List (Int × Int)} (h : RatsAt C H xs rs) {i : Nat} {x : V} (e : xs[i]? = some x) : ∃ r p dx, rs[i]? = some r ∧ x = .ref p ∧ H p = some (.ins C dx (rf r.1 r.2)) := by
  have hi := (List.getElem?_eq_some_iff.mp e).1
  have hi2 : i < rs.length := by rw [← h.1]; exact hi
  obtain ⟨p, dx, e2, k⟩ := h.2 i x _ e (List.getElem?_eq_getElem hi2)
  exact ⟨_, p, dx, List.getElem?_eq_getElem hi2, e2, k⟩
theorem RatsAt.nil {C : Addr} {H : Hp} : RatsAt C H [] [] := ⟨rfl, fun i x r h _ => by simp at h⟩
theorem RatsAt.snoc {C : Addr} {H : Hp} {xs : List V} {rs : List (Int × Int)} (h : RatsAt C H xs rs) {p dx : Addr} {n d : Int} (e : H p = some (.ins C dx (rf n d))) : RatsAt C H (xs ++ [.ref p]) (rs ++ [(n, d)]) := by
  refine ⟨by simp [h.1], fun i x r a b => ?_⟩
  rcases Nat.lt_or_ge i xs.length with q | q
  · rw [List.getElem?_append_left q] at a
    rw [List.getElem?_append_left (by rw [← h.1]; exact q)] at b
    exact h.2 i x r a b
  · rw [List.getElem?_append_right q] at a
    rw [List.getElem?_append_right (by rw [← h.1]; exact q), ← h.1] at b
    rcases Nat.eq_zero_or_pos (i - xs.length) with z | z
    · rw [z] at a b
      cases a
      cases b
      exact ⟨p, dx, rfl, e⟩
    · rw [List.getElem?_eq_none (by simp; omega)] at a
      cases a
/-- a comprehension's list, by what was made at each place -/
theorem rats_of {C : Addr} {H : Hp} {ys : List V} {rs : List (Int × Int)} (hl : ys.length = rs.length) (h : ∀ (k : Nat) y, ys[k]? = some y → ∃ r p dx, rs[k]? = some r ∧ y = .ref p ∧ H p = some (.ins C dx (rf r.1 r.2))) : RatsAt C H ys rs :=
  ⟨hl, fun i x r a b => by
    obtain ⟨r', p, dx, e1, e2, e3⟩ := h i x a
    rw [b] at e1
    cases e1
    exact ⟨p, dx, e2, e3⟩⟩
/-- the denominator of the common form -/
def cden (rs : List (Int × Int)) : Nat := rs.foldl (fun m r => Nat.lcm m r.2.natAbs) 1
theorem cden_snoc (rs : List (Int × Int)) (r : Int × Int) : cden (rs ++ [r]) = Nat.lcm (cden rs) r.2.natAbs := by
  unfold cden
  rw [List.foldl_append]
  rfl
theorem cden_take {rs : List (Int × Int)} {i : Nat} {r : Int × Int} (h : rs[i]? = some r) : cden (rs.take (i + 1)) = Nat.lcm (cden (rs.take i)) r.2.natAbs := by
  rw [List.take_add_one, h, show (some r).toList = [r] from rfl, cden_snoc]
theorem lfold_pos : ∀ (rs : List (Int × Int)) (m : Nat), 0 < m → (∀ r ∈ rs, 0 < r.2) → 0 < rs.foldl (fun m r => Nat.lcm m r.2.natAbs) m
  | [], m, h, _ => h
  | r :: t, m, h, hr => by
    rw [List.foldl_cons]
    refine lfold_pos t _ (Nat.lcm_pos h ?_) fun z hz => hr z (List.mem_cons_of_mem _ hz)
    have := hr r List.mem_cons_self
    omega
theorem cden_pos {rs : List (Int × Int)} (h : ∀ r ∈ rs, 0 < r.2) : 0 < cden rs := lfold_pos rs 1 (by decide) h
theorem lfold_dvd : ∀ (rs : List (Int × Int)) (m : Nat), m ∣ rs.foldl (fun m r => Nat.lcm m r.2.natAbs) m ∧ ∀ r ∈ rs, r.2.natAbs ∣ rs.foldl (fun m r => Nat.lcm m r.2.natAbs) m
  | [], m => ⟨Nat.dvd_refl _, fun r h => nomatch h⟩
  | s :: t, m => by
    rw [List.foldl_cons]
    obtain ⟨h1, h2⟩ := lfold_dvd t (Nat.lcm m s.2.natAbs)
    refine ⟨Nat.dvd_trans (Nat.dvd_lcm_left _ _) h1, fun r hr => ?_⟩
    rcases List.mem_cons.mp hr with rfl | hr
    · exact Nat.dvd_trans (Nat.dvd_lcm_right _ _) h1
    · exact h2 r hr
theorem cden_dvd {rs : List (Int × Int)} {r : Int × Int} (h : r ∈ rs) : r.2.natAbs ∣ cden rs := (lfold_dvd rs 1).2 r h
theorem lfold_least : ∀ (rs : List (Int × Int)) (m k : Nat), m ∣ k → (∀ r ∈ rs, r.2.natAbs ∣ k) → rs.foldl (fun m r => Nat.lcm m r.2.natAbs) m ∣ k
  | [], m, k, h, _ => h
  | s :: t, m, k, h, hr => by
    rw [List.foldl_cons]
    exact lfold_least t _ k (Nat.lcm_dvd h (hr s List.mem_cons_self)) fun z hz => hr z (List.mem_cons_of_mem _ hz)
theorem cden_least {rs : List (Int × Int)} {k : Nat} (h : ∀ r ∈ rs, r.2.natAbs ∣ k) : cden rs ∣ k := lfold_least rs 1 k (Nat.one_dvd _) h
theorem lfold_lt : ∀ (rs : List (Int × Int)) (m e : Nat), m < 2 ^ e → (∀ r ∈ rs, r.2.natAbs < 2 ^ 100) → rs.foldl (fun m r => Nat.lcm m r.2.natAbs) m < 2 ^ (e + 100 * rs.length)
  | [], m, e, h, _ => h
  | s :: t, m, e, h, hr => by
    rw [List.foldl_cons]
    have h1 : Nat.lcm m s.2.natAbs ≤ m * s.2.natAbs := Nat.div_le_self _ _
    have h2 : m * s.2.natAbs < 2 ^ e * 2 ^ 100 := Nat.mul_lt_mul'' h (hr s List.mem_cons_self)
    rw [← Nat.pow_add] at h2
    have := lfold_lt t (Nat.lcm m s.2.natAbs) (e + 100) (Nat.lt_of_le_of_lt h1 h2) fun z hz => hr z (List.mem_cons_of_mem _ hz)
    rw [List.length_cons, show e + 100 * (t.length + 1) = e + 100 + 100 * t.length by omega]
    exact this
theorem cden_lt {rs : List (Int × Int)} (h : ∀ r ∈ rs, r.2.natAbs < 2 ^ 100) (hl : rs.length ≤ 60) : cden rs < 2 ^ 9000 :=
  Nat.lt_of_lt_of_le (lfold_lt rs 1 1 (by decide) h) (Nat.pow_le_pow_right (by decide) (by omega))
/-- the numbers of the common form -/
def cnum (rs : List (Int × Int)) : List Int := rs.map fun r => r.1 * ((cden rs : Int) / r.2)
section
variable {K : PySem.W.Frag} {σ : L2.St} {H : Hp} {R : L2.St → Hp → Prop} {t : TG} {u : TGs}
theorem go_gtup {n : Nat} {a : Addr} {xs : List V} (h : SqT K H a xs) (hl : xs.length = n) (q : u xs σ H R) : gTup K n u (.ref a) σ H R := ⟨a, xs, rfl, h, hl, q⟩
theorem go_gcons {v : V} {r : List V} (h : t v σ H fun σ' H' => u r σ' H' R) : gCons t u (v :: r) σ H R := ⟨v, r, rfl, h⟩
theorem go_gnil (h : R σ H) : gNil [] σ H R := ⟨rfl, h⟩
end
/-! ### comprehensions that make objects -/
/-- what is told of an item stays as the heap grows, and as a list is written -/
structure Stays (P : Hp → Nat → V → Prop) : Prop where
  same : ∀ H H' k y, Same H H' → P H k y → P H' k y
  lst : ∀ H D zs zs' k y, H D = some (.lst zs) → P H k y → P (upd H D (.lst zs')) k y
theorem stays_rat {C : Addr} {rs : List (Int × Int)} : Stays fun H k y => ∃ r p dx, rs[k]? = some r ∧ y = .ref p ∧ H p = some (.ins C dx (rf r.1 r.2)) :=
  ⟨fun H H' k y s ⟨r, p, dx, a, b, c⟩ => ⟨r, p, dx, a, b, s _ _ c⟩, fun H D zs zs' k y e ⟨r, p, dx, a, b, c⟩ => ⟨r, p, dx, a, b, by rw [upd_ne (ne_of c e (by intro z; cases z))]; exact c⟩⟩
section
variable {K : PySem.W.Frag} {σ : L2.St} {H H1 : Hp} {Q : VK} {tl te : TE} {vs : List Nat} {j : Nat}
theorem lcLh {R : Addr → Hp → Prop} {a : Addr} (xs : List V) {P : Hp → Nat → V → Prop} (hP : Stays P) (hs : SqL K H1 a xs) (hz : xs.length ≤ 100000) (hw : ∀ x, wipe ((wipe σ vs).set j x) vs = wipe σ vs)
    (he : ∀ (i : Nat) x H', xs[i]? = some x → Same H1 H' → ∀ R : VK, (∀ y H'', Same H' H'' → P H'' i y → R y H'') → te ((wipe σ vs).set j (some x)) H' R)
    (q : ∀ D (ys : List V) H2, H1 D = none → Same H1 H2 → H2 D = some (.lst ys) → ys.length = xs.length → (∀ k y, ys[k]? = some y → P H2 k y) → R D H2) :
    ∃ b, V.ref a = .ref b ∧ (∃ xs, SqL K H1 b xs) ∧ ∀ D, H1 D = none → ∃ W : Nat → Nat → Hp → Prop, (∃ m, W 0 m (upd H1 D (.lst []))) ∧ ∀ i m H, W i m H →
      ((Itl K b).stop i H ∧ R D H) ∨ ((Itl K b).go i H ∧ ∃ Nx : Hp → Prop, (∀ H', Nx H' → ∃ m', m' < m ∧ W (i + 1) m' H') ∧ ∀ x H', (Itl K b).yld i H x H' → gName j x (wipe σ vs) H' fun σ2 H2 => wipe σ2 vs = wipe σ vs ∧ tYes σ2 H2 fun b H3 =>
        if b = true then te σ2 H3 fun y H4 => ∃ acc, H4 D = some (.lst acc) ∧ acc.length < sizeLine ∧ Nx (upd H4 D (.lst (acc ++ [y]))) else Nx H3) := by
  refine ⟨a, rfl, ⟨xs, hs⟩, fun D hD => ?_⟩
  refine lc_list (xs := xs) (fun i H' => Same H1 H' ∧ ∃ ys : List V, H' D = some (.lst ys) ∧ ys.length = i ∧ ∀ k y, ys[k]? = some y → P H' k y) ⟨same_new hD, [], upd_same, rfl, fun k y h => by simp at h⟩ (fun i H _ p => same_sqL p.1 hs) (fun i x H hx p => ?_) fun H p => ?_
  · obtain ⟨s, ys, e, hl, hp⟩ := p
    refine ⟨hw _, ?_⟩
    refine go_yes ?_
    refine iteT ?_
    refine he i x H hx s _ fun y H4 s4 hy => ?_
    have hi := (List.getElem?_eq_some_iff.mp hx).1
    have e4 := s4 _ _ e
    refine ⟨ys, e4, szlt (by omega), same_mut (s.trans s4) hD, ys ++ [y], upd_same, by simp [hl], fun k z hz => ?_⟩
    refine hP.lst _ _ ys _ _ _ e4 ?_
    rcases Nat.lt_or_ge k ys.length with h | h
    · rw [List.getElem?_append_left h] at hz
      exact hP.same _ _ _ _ s4 (hp k z hz)
    · rw [List.getElem?_append_right h] at hz
      rcases Nat.eq_or_lt_of_le h with e2 | e2
      · rw [← e2, Nat.sub_self] at hz
        cases hz
        rw [← e2, hl]
        exact hy
      · rw [List.getElem?_eq_none (by simp; omega)] at hz
        cases hz
  · obtain ⟨s, ys, e, hl, hp⟩ := p
    exact q D ys H hD s e hl hp
end
/-! ### lists of pairs -/
def PairsAt (H : Hp) (xs : List V) (ts : List (Int × Int)) : Prop := xs.length = ts.length ∧ ∀ (i : Nat) x t, xs[i]? = some x → ts[i]? = some t → ∃ p, x = .ref p ∧ H p = some (.tup [.int t.1, .int t.2])
theorem PairsAt.nil {H : Hp} : PairsAt H [] [] := ⟨rfl, fun i x r h _ => by simp at h⟩
theorem PairsAt.same {H H' : Hp} {xs : List V} {ts : List (Int × Int)} (h : PairsAt H xs ts) (s : Same H H') : PairsAt H' xs ts :=
  ⟨h.1, fun i x r a b => let ⟨p, e, k⟩ := h.2 i x r a b; ⟨p, e, s _ _ k⟩⟩
theorem PairsAt.get {H : Hp} {xs : List V} {ts : List (Int × Int)} (h : PairsAt H xs ts) {i : Nat} {t : Int × Int} (e : ts[i]? = some t) : ∃ p, xs[i]? = some (.ref p) ∧ H p = some (.tup [.int t.1, .int t.2]) := by
  have hi := (List.getElem?_eq_some_iff.mp e).1
  have hi2 : i < xs.length := by rw [h.1]; exact hi
  obtain ⟨p, e2, k⟩ := h.2 i _ t (List.getElem?_eq_getElem hi2) e
  exact ⟨p, by rw [List.getElem?_eq_getElem hi2, e2], k⟩
/-- a list is written: the pairs stand -/
theorem PairsAt.lst {H : Hp} {xs : List V} {ts : List (Int × Int)} {D : Addr} {zs zs' : List V} (h : PairsAt H xs ts) (e : H D = some (.lst zs)) : PairsAt (upd H D (.lst zs')) xs ts :=
  ⟨h.1, fun i x r a b => let ⟨p, e1, k⟩ := h.2 i x r a b; ⟨p, e1, by rw [upd_ne (ne_of k e (by intro z; cases z))]; exact k⟩⟩
theorem PairsAt.snoc {H : Hp} {xs : List V} {ts : List (Int × Int)} (h : PairsAt H xs ts) {p : Addr} {n d : Int} (e : H p = some (.tup [.int n, .int d])) : PairsAt H (xs ++ [.ref p]) (ts ++ [(n, d)]) := by
  refine ⟨by simp [h.1], fun i x r a b => ?_⟩
  rcases Nat.lt_or_ge i xs.length with q | q
  · rw [List.getElem?_append_left q] at a
    rw [List.getElem?_append_left (by rw [← h.1]; exact q)] at b
    exact h.2 i x r a b
  · rw [List.getElem?_append_right q] at a
    rw [List.getElem?_append_right (by rw [← h.1]; exact q), ← h.1] at b
    rcases Nat.eq_zero_or_pos (i - xs.length) with z | z
    · rw [z] at a b
      cases a
      cases b
      exact ⟨p, rfl, e⟩
    · rw [List.getElem?_eq_none (by simp; omega)] at a
      cases a
/-! ### the common form is the least -/
theorem form_coprime {rs : List (Int × Int)} (hpos : ∀ r ∈ rs, 0 < r.2) (hco : ∀ r ∈ rs, Int.gcd r.1 r.2 = 1) {g : Nat} (h1 : g ∣ cden rs) (h2 : ∀ n ∈ cnum rs, (g : Int) ∣ n) : g = 1 := by
  have hL := cden_pos hpos
  obtain ⟨m, hm⟩ := h1
  have hg : 0 < g := by
    rcases Nat.eq_zero_or_pos g with z | z
    · rw [z, Nat.zero_mul] at hm
      omega
    · exact z
  have hmp : 0 < m := by
    rcases Nat.eq_zero_or_pos m with z | z
    · rw [z, Nat.mul_zero] at hm
      omega
    · exact z
  have key : cden rs ∣ m := cden_least fun r hr => by
    have hd := cden_dvd hr
    have d0 := hpos r hr
    have co := hco r hr
    have hn : (g : Int) ∣ r.1 * ((cden rs : Int) / r.2) := h2 _ (List.mem_map_of_mem hr)
    obtain ⟨k, hk⟩ := hd
    have hrd : r.2 = (r.2.natAbs : Int) := by omega
    have hq : (cden rs : Int) / r.2 = (k : Int) := by
      rw [hk, hrd]
      push_cast
      rw [Int.natAbs_natCast]
      exact Int.mul_ediv_cancel_left _ (by omega)
    rw [hq] at hn
    have hn2 : g ∣ r.1.natAbs * k := by
      have := Int.natAbs_dvd_natAbs.mpr hn
      rw [Int.natAbs_natCast, Int.natAbs_mul, Int.natAbs_natCast] at this
      exact this
    have hn3 : g ∣ r.2.natAbs * k := by rw [← hk]; exact ⟨m, hm⟩
    have hgk : g ∣ k := by
      have := Nat.dvd_gcd hn2 hn3
      rw [Nat.gcd_mul_right] at this
      have e : Nat.gcd r.1.natAbs r.2.natAbs = 1 := co
      rw [e, Nat.one_mul] at this
      exact this
    obtain ⟨j, hj⟩ := hgk
    refine ⟨j, ?_⟩
    have : g * m = g * (r.2.natAbs * j) := by rw [← hm, hk, hj]; ac_rfl
    exact Nat.eq_of_mul_eq_mul_left hg this
  have := Nat.le_of_dvd hmp key
  rw [hm] at this
  rcases Nat.lt_or_ge 1 g with z | z
  · exfalso
    have : 2 * m ≤ g * m := Nat.mul_le_mul_right _ z
    omega
  · omega
theorem cnum_len (rs : List (Int × Int)) : (cnum rs).length = rs.length := by unfold cnum; rw [List.length_map]
theorem cnum_at {rs : List (Int × Int)} {i : Nat} {r : Int × Int} (h : rs[i]? = some r) : (cnum rs)[i]? = some (r.1 * ((cden rs : Int) / r.2)) := by
  unfold cnum
  rw [List.getElem?_map, h]
  rfl
theorem cnum_mul {rs : List (Int × Int)} {r : Int × Int} (h : r ∈ rs) : r.1 * ((cden rs : Int) / r.2) * r.2 = r.1 * (cden rs : Int) := by
  have : r.2 ∣ (cden rs : Int) := Int.natAbs_dvd_natAbs.mp (by rw [Int.natAbs_natCast]; exact cden_dvd h)
  rw [Int.mul_assoc, Int.ediv_mul_cancel this]
end Gx

set_option Elab.async false
set_option linter.all false
set_option maxRecDepth 100000
set_option maxHeartbeats 4000000
/-! Own lemmas: texts, sign by sign; numbers as texts. -/
namespace Gx
open PySem PySem.Spec PyProof.Rows L2
section
variable {X : Cx} {σ : L2.St} {H H1 : Hp} {Q : VK} {K : PySem.W.Frag}
def qInC : R2 := fun x y H Q => ∃ (c : Nat) (z : Str), x = .str ⟨#[c]⟩ ∧ y = .str z ∧ Q (.bl (decide (c ∈ z.cps.toList))) H
theorem o_in_sign : OpR X (compareOp .In) qInC := op_in_sign
theorem go_inC {c : Nat} {z : Str} (h : Q (.bl (decide (c ∈ z.cps.toList))) H) : qInC (.str (S [c])) (.str z) H Q := ⟨c, z, rfl, rfl, h⟩
def qNiC : R2 := fun x y H Q => ∃ (c : Nat) (z : Str), x = .str ⟨#[c]⟩ ∧ y = .str z ∧ Q (.bl (!decide (c ∈ z.cps.toList))) H
theorem o_notIn_sign : OpR X (compareOp .NotIn) qNiC := op_notIn_sign
theorem go_niC {c : Nat} {z : Str} (h : Q (.bl (!decide (c ∈ z.cps.toList))) H) : qNiC (.str (S [c])) (.str z) H Q := ⟨c, z, rfl, rfl, h⟩
def qIntStr : List V → Hp → VK → Prop := fun xs H Q => ∃ a n, xs = [.str a] ∧ PySem.intText? a = some n ∧ a.length ≤ 640 ∧ Q (.int n) H
theorem k_int_str : CallR X (.type "int") qIntStr := call_int_str
theorem go_intStr {a : Str} {n : Int} (e : PySem.intText? a = some n) (hl : a.length ≤ 640) (h : Q (.int n) H) : qIntStr [.str a] H Q := ⟨a, n, rfl, e, hl, h⟩
theorem go_intDigits {a : Str} (h : NumText.AllDigits a.cps.toList) (h1 : a.cps.toList ≠ []) (hl : a.length ≤ 640) (q : Q (.int ((NumText.digitsVal a.cps.toList : Nat) : Int)) H) : qIntStr [.str a] H Q :=
  go_intStr (intText_digits h h1 (by omega)) hl q
theorem len_toList (z : Str) : z.length = z.cps.toList.length := by simp [Str.length]
/-- the sign at a place -/
theorem atS_get {z : Str} {k : Nat} {c : Nat} (h : z.cps.toList[k]? = some c) : atI z.cps.toList (k : Int) = some c := atI_nat h
/-- for c in x -/
theorem foX {D : Ends} {tb : TS} {g : TG} (x : Str) (Pv : Nat → L2.St → Hp → Prop) (h0 : Pv 0 σ H1)
    (hs : ∀ i c σ H, x.cps.toList[i]? = some c → Pv i σ H → g (.str (S [c])) σ H fun σ2 H2 => tb { D with nx := Pv (i + 1), ct := Pv (i + 1), bk := D.nx } σ2 H2) (hd : ∀ σ H, Pv x.cps.toList.length σ H → D.nx σ H) :
    ∃ y, V.str x = .str y ∧ ∃ W : Nat → Nat → L2.St → Hp → Prop, (∃ m, W 0 m σ H1) ∧ ∀ i m σ H, W i m σ H →
      ((Its y).stop i H ∧ D.nx σ H) ∨ ((Its y).go i H ∧ ∃ N : L2.St → Hp → Prop, (∀ σ' H', N σ' H' → ∃ m', m' < m ∧ W (i + 1) m' σ' H') ∧ ∀ x2 H', (Its y).yld i H x2 H' → g x2 σ H' fun σ2 H2 => tb { D with nx := N, ct := N, bk := D.nx } σ2 H2) :=
  foS (x.cps.toList) Pv h0 hs hd
/-- an item of a written list at an int -/
theorem at_pick {xs : List V} {k : Int} (h0 : 0 ≤ k) (h : k < xs.length) : ∃ v, v ∈ xs ∧ atI xs k = some v := by
  have e : k = (k.toNat : Int) := by omega
  have h2 : k.toNat < xs.length := by omega
  rw [e]
  exact ⟨xs[k.toNat], List.getElem_mem h2, atI_nat (List.getElem?_eq_getElem h2)⟩
theorem at_pick2 {P : V → Prop} {xs : List V} {k : Int} (h0 : 0 ≤ k) (h : k < xs.length) (hp : ∀ v ∈ xs, P v) : ∃ v, P v ∧ atI xs k = some v := by
  obtain ⟨v, hm, e⟩ := at_pick h0 h
  exact ⟨v, hp v hm, e⟩
/-- one sign against another -/
theorem lt_sign (a b : Nat) : decide ((S [a]).cps.toList < (S [b]).cps.toList) = decide (a < b) := by
  show decide ([a] < [b]) = _
  by_cases h : a < b
  · rw [decide_eq_true h, decide_eq_true (by exact List.Lex.rel h)]
  · rw [decide_eq_false h, decide_eq_false]
    intro z
    cases z with
    | rel z => exact h z
    | cons z => cases z
/-- a text in a list of texts -/
theorem inV_str (x : Str) : ∀ ks : List Str, inV (.str x) (ks.map V.str) = ks.any (fun k => k == x)
  | [] => rfl
  | k :: r => by
    have := inV_str x r
    unfold inV at this ⊢
    rw [List.map_cons, List.any_cons, List.any_cons, this]
    rfl
theorem flat_strs (ks : List Str) : (ks.map V.str).all flatV = true := by
  rw [List.all_map, List.all_eq_true]
  intro k _
  rfl
theorem str_one (x : Str) (h : x.length = 1) : ∃ c, x = S [c] := by
  have : x.cps.toList.length = 1 := by rw [← len_toList]; exact h
  obtain ⟨c, hc⟩ := List.length_eq_one_iff.mp this
  exact ⟨c, by rw [← hc]⟩
end
/-! ### digits -/
theorem snocRec {α : Type} {P : List α → Prop} (nil : P []) (append_singleton : ∀ l a, P l → P (l ++ [a])) (l : List α) : P l := by
  have h : ∀ r : List α, P r.reverse := fun r => by
    induction r with
    | nil => exact nil
    | cons a r ih => rw [List.reverse_cons]; exact append_singleton _ _ ih
  have := h l.reverse
  rw [List.reverse_reverse] at this
  exact this
def isDig (c : Nat) : Bool := decide (48 ≤ c ∧ c ≤ 57)
theorem allDig {cs : List Nat} (h : cs.all isDig = true) : NumText.AllDigits cs := fun c hc => by
  have := List.all_eq_true.mp h c hc
  simpa [isDig] using this
theorem numL_dig (n : Nat) : (TL.numL n).all isDig = true := List.all_eq_true.mpr fun c hc => by
  have := TL.numL_digits n c hc
  simpa [isDig] using this
theorem digitsVal_snoc (cs : List Nat) (c : Nat) : NumText.digitsVal (cs ++ [c]) = NumText.digitsVal cs * 10 + (c - 48) := by
  unfold NumText.digitsVal
  rw [List.foldl_append]
  rfl
/-- a number's first sign -/
theorem numL_head : ∀ {n : Nat}, 0 < n → ∃ c r, TL.numL n = c :: r ∧ 49 ≤ c := by
  intro n
  induction n using Nat.strongRecOn with
  | _ n ih =>
    intro h0
    by_cases h : n < 10
    · exact ⟨48 + n, [], TL.numL_lt h, by omega⟩
    · obtain ⟨c, r, e, hc⟩ := ih (n / 10) (by omega) (by omega)
      refine ⟨c, r ++ [48 + n % 10], ?_, hc⟩
      rw [TL.numL_step (by omega), e]
      rfl
theorem val_zero_all : ∀ cs : List Nat, NumText.AllDigits cs → NumText.digitsVal cs = 0 → ∀ c ∈ cs, c = 48 := by
  intro cs
  induction cs using snocRec with
  | nil => intro _ _ c hc; cases hc
  | append_singleton l d ih =>
    intro h e c hc
    rw [digitsVal_snoc] at e
    have hd := h d (by simp)
    have h2 : NumText.AllDigits l := fun c hc => h c (List.mem_append_left _ hc)
    rcases List.mem_append.mp hc with hc | hc
    · exact ih h2 (by omega) c hc
    · rw [List.mem_singleton.mp hc]; omega
/-- digits without a zero ahead are the number's own -/
theorem numL_canon : ∀ cs : List Nat, NumText.AllDigits cs → cs ≠ [] → (∀ r, cs = 48 :: r → r = []) → TL.numL (NumText.digitsVal cs) = cs := by
  intro cs
  induction cs using snocRec with
  | nil => intro _ h; exact absurd rfl h
  | append_singleton l d ih =>
    intro h _ hz
    have hd := h d (by simp)
    have h2 : NumText.AllDigits l := fun c hc => h c (List.mem_append_left _ hc)
    rw [digitsVal_snoc]
    cases l with
    | nil =>
      show TL.numL (0 * 10 + (d - 48)) = [d]
      rw [TL.numL_lt (by omega)]
      congr 1
      omega
    | cons c r =>
      have hc := h2 c (by simp)
      have hc0 : c ≠ 48 := fun e => by
        subst e
        have := hz (r ++ [d]) rfl
        simp at this
      have e := ih h2 (by simp) (fun r' e' => by cases e'; exact absurd rfl hc0)
      have hp : 0 < NumText.digitsVal (c :: r) := by
        rcases Nat.eq_zero_or_pos (NumText.digitsVal (c :: r)) with z | z
        · exact absurd (val_zero_all _ h2 z c (by simp)) hc0
        · exact z
      rw [TL.numL_step (by omega)]
      have e1 : (NumText.digitsVal (c :: r) * 10 + (d - 48)) / 10 = NumText.digitsVal (c :: r) := by omega
      have e2 : 48 + (NumText.digitsVal (c :: r) * 10 + (d - 48)) % 10 = d := by omega
      rw [e1, e2, e]
theorem numL_iff {cs : List Nat} (h : NumText.AllDigits cs) : TL.numL (NumText.digitsVal cs) = cs ↔ cs ≠ [] ∧ ∀ r, cs = 48 :: r → r = [] := by
  constructor
  · intro e
    refine ⟨fun z => ?_, fun r er => ?_⟩
    · rw [z] at e
      exact TL.numL_ne _ e
    · rcases Nat.eq_zero_or_pos (NumText.digitsVal cs) with z | z
      · rw [z, er] at e
        have : TL.numL 0 = [48] := TL.numL_lt (by decide)
        rw [this] at e
        injection e with _ e
        exact e.symm
      · obtain ⟨c, r', e', hc⟩ := numL_head z
        rw [e, er] at e'
        injection e' with e1 _
        omega
  · rintro ⟨h1, h2⟩
    exact numL_canon cs h h1 h2
theorem val_lt : ∀ cs : List Nat, NumText.AllDigits cs → NumText.digitsVal cs < 10 ^ cs.length := by
  intro cs
  induction cs using snocRec with
  | nil => intro _; decide
  | append_singleton l d ih =>
    intro h
    have hd := h d (by simp)
    have := ih fun c hc => h c (List.mem_append_left _ hc)
    rw [digitsVal_snoc, List.length_append, List.length_singleton, Nat.pow_succ]
    omega
end Gx

set_option Elab.async false
set_option linter.all false
set_option maxRecDepth 100000
set_option maxHeartbeats 4000000
/-! Own lemmas: data at any depth (Dp), tuples joined and cut, a range with a step, a list turned round. -/
namespace Gx
open PySem PySem.Spec PyProof.Rows L2
section
variable {K : PySem.W.Frag} {H H' : Hp}
mutual
theorem dp_same (s : Same H H') : ∀ (d : PyData) (v : V), Dp K H v d → Dp K H' v d
  | .none, _, h => by cases h; exact .non
  | .bool b, _, h => by cases h; exact .bl b
  | .int i, _, h => by cases h; exact .int i
  | .str x, _, h => by cases h; exact .str x
  | .list ds, _, h => by
    cases h with
    | lst hs ha => exact .lst (Same.seq s hs) (dpAll_same s ds _ ha)
  | .tuple ds, _, h => by
    cases h with
    | tup hs ha => exact .tup (same_sqT s hs) (dpAll_same s ds _ ha)
  | .dict _, _, h => by cases h
theorem dpAll_same (s : Same H H') : ∀ (ds : List PyData) (vs : List V), DpAll K H vs ds → DpAll K H' vs ds
  | [], _, h => by cases h; exact .nil
  | d :: ds, _, h => by
    cases h with
    | cons h1 h2 => exact .cons (dp_same s d _ h1) (dpAll_same s ds _ h2)
end
theorem dpAll_len : ∀ {ds : List PyData} {vs : List V}, DpAll K H vs ds → vs.length = ds.length
  | [], _, h => by cases h; rfl
  | d :: ds, _, h => by
    cases h with
    | cons h1 h2 => simp [dpAll_len h2]
theorem dpAll_get : ∀ {ds : List PyData} {vs : List V} {i : Nat} {d : PyData}, DpAll K H vs ds → ds[i]? = some d → ∃ v, vs[i]? = some v ∧ Dp K H v d
  | [], _, i, d, _, e => by simp at e
  | d :: ds, _, 0, d', h, e => by
    cases h with
    | cons h1 h2 =>
      simp at e
      subst e
      exact ⟨_, rfl, h1⟩
  | d :: ds, _, i + 1, d', h, e => by
    cases h with
    | cons h1 h2 =>
      simp at e
      obtain ⟨v, e2, h3⟩ := dpAll_get h2 e
      exact ⟨v, by simpa using e2, h3⟩
theorem dpAll_last {K : PySem.W.Frag} {H : Hp} {ds : List PyData} {vs : List V} {v : V} (h : DpAll K H vs ds) (e : vs.getLast? = some v) : ∃ d, ds.getLast? = some d ∧ Dp K H v d := by
  have hl := dpAll_len h
  rw [List.getLast?_eq_getElem?] at e
  have hlt := (List.getElem?_eq_some_iff.mp e).1
  obtain ⟨d, ed⟩ : ∃ d, ds[ds.length - 1]? = some d := ⟨_, List.getElem?_eq_getElem (by omega)⟩
  obtain ⟨v2, e2, h2⟩ := dpAll_get h ed
  rw [← hl, e] at e2
  cases e2
  exact ⟨d, by rw [List.getLast?_eq_getElem?]; exact ed, h2⟩
theorem dpAll_append : ∀ {ds es : List PyData} {vs us : List V}, DpAll K H vs ds → DpAll K H us es → DpAll K H (vs ++ us) (ds ++ es)
  | [], es, _, us, h, k => by cases h; exact k
  | d :: ds, es, _, us, h, k => by
    cases h with
    | cons h1 h2 => exact .cons h1 (dpAll_append h2 k)
theorem dpAll_take : ∀ {ds : List PyData} {vs : List V} (n : Nat), DpAll K H vs ds → DpAll K H (vs.take n) (ds.take n)
  | [], _, n, h => by cases h; simp; exact .nil
  | d :: ds, _, 0, h => by simp; exact .nil
  | d :: ds, _, n + 1, h => by
    cases h with
    | cons h1 h2 => exact .cons h1 (dpAll_take n h2)
theorem dpAll_reverse : ∀ {ds : List PyData} {vs : List V}, DpAll K H vs ds → DpAll K H vs.reverse ds.reverse
  | [], _, h => by cases h; exact .nil
  | d :: ds, _, h => by
    cases h with
    | cons h1 h2 =>
      rw [List.reverse_cons, List.reverse_cons]
      exact dpAll_append (dpAll_reverse h2) (.cons h1 .nil)
/-! data without lists: they outlast what is stored into a list -/
mutual
def noL : PyData → Bool
  | .list _ => false
  | .dict _ => false
  | .tuple xs => noLAll xs
  | _ => true
def noLAll : List PyData → Bool
  | [] => true
  | d :: ds => noL d && noLAll ds
end
theorem sqT_put {l a : Addr} {ys zs xs : List V} (hl : H l = some (.lst ys)) (h : SqT K H a xs) : SqT K (upd H l (.lst zs)) a xs := by
  have ne : ∀ {o : HO}, H a = some o → o ≠ .lst ys → a ≠ l := fun e n z => by
    rw [z, hl] at e
    exact n (Option.some.inj e).symm
  rcases h with (h | ⟨o, h⟩) | h
  · exact .inl (.inl (by rw [upd_ne (ne h (fun z => by cases z))]; exact h))
  · exact .inl (.inr ⟨o, by rw [upd_ne (ne h (fun z => by cases z))]; exact h⟩)
  · exact .inr h
mutual
theorem dp_put {l : Addr} {ys zs : List V} (hl : H l = some (.lst ys)) : ∀ (d : PyData) (v : V), noL d = true → Dp K H v d → Dp K (upd H l (.lst zs)) v d
  | .none, _, _, h => by cases h; exact .non
  | .bool b, _, _, h => by cases h; exact .bl b
  | .int i, _, _, h => by cases h; exact .int i
  | .str x, _, _, h => by cases h; exact .str x
  | .list ds, _, n, _ => by simp [noL] at n
  | .tuple ds, _, n, h => by
    cases h with
    | tup hs ha => exact .tup (sqT_put hl hs) (dpAll_put hl ds _ (by simpa [noL] using n) ha)
  | .dict _, _, n, _ => by simp [noL] at n
theorem dpAll_put {l : Addr} {ys zs : List V} (hl : H l = some (.lst ys)) : ∀ (ds : List PyData) (vs : List V), noLAll ds = true → DpAll K H vs ds → DpAll K (upd H l (.lst zs)) vs ds
  | [], _, _, h => by cases h; exact .nil
  | d :: ds, _, n, h => by
    have n' : noL d = true ∧ noLAll ds = true := by simpa [noLAll] using n
    cases h with
    | cons h1 h2 => exact .cons (dp_put hl d _ n'.1 h1) (dpAll_put hl ds _ n'.2 h2)
end
theorem noL_all : ∀ {ds : List PyData}, (∀ d ∈ ds, noL d = true) → noLAll ds = true
  | [], _ => rfl
  | d :: ds, h => by
    show (noL d && noLAll ds) = true
    rw [h d (List.mem_cons_self ..), noL_all fun x hx => h x (List.mem_cons_of_mem _ hx)]
    rfl
theorem dp_tup {v : V} {ds : List PyData} (h : Dp K H v (.tuple ds)) : ∃ a xs, v = .ref a ∧ SqT K H a xs ∧ DpAll K H xs ds := by
  cases h with
  | tup hs ha => exact ⟨_, _, rfl, hs, ha⟩
variable {Q : VK} {R : L2.St → Hp → Prop}
theorem go_catA {a b : Addr} {xs ys : List V} (h1 : SqT K H a xs) (h2 : SqT K H b ys) (hz : xs.length + ys.length ≤ 100000) (hy : ys ≠ [])
    (q : ∀ p H', Same H H' → SqT K H' p (xs ++ ys) → Q (.ref p) H') : rCatA K (.ref a) (.ref b) H Q := by
  refine ⟨a, b, xs, ys, rfl, rfl, h1, h2, Nat.le_trans hz (by rw [sizeLine_eq]; decide), fun e => ?_, fun _ e => absurd e hy, fun _ _ p hp => ?_⟩
  · subst e
    exact q b H (Same.refl _) h2
  · exact q p _ (fun c o hc => by rw [upd_ne (ne_of_none hc hp)]; exact hc) (.inl (.inl upd_same))
theorem go_slTo {a : Addr} {xs : List V} {k : Nat} (h : SqT K H a xs) (hk : k ≤ xs.length) (q : ∀ p H', Same H H' → SqT K H' p (xs.take k) → Q (.ref p) H') : rSlA K (.ref a) none (some (k : Int)) H Q := by
  refine ⟨a, xs, rfl, h, fun e => ?_, fun _ p hp => ?_⟩
  · have e2 := e.2
    rw [HT.sIx_nat] at e2
    have : xs.take k = xs := List.take_of_length_le (by omega)
    exact q a H (Same.refl _) (by rw [this]; exact h)
  · have e : cutV xs none (some (k : Int)) = xs.take k := by
      unfold cutV
      rw [HT.sIx_none, HT.sIx_nat]
      simp
    exact q p _ (fun c o hc => by rw [upd_ne (ne_of_none hc hp)]; exact hc) (.inl (.inl (by rw [upd_same, e])))
theorem go_eqD {x y : V} {d : PyData} (h1 : Dp K H x d) (h2 : Dp K H y d) (hs : SeqAt.shaped d = true) (q : Q (.bl true) H) : rEqD K x y H Q :=
  ⟨d, d, h1, h2, hs, hs, by rw [SeqAt.eqv_refl d (SeqAt.canLay_of_shaped hs)]; exact q⟩
theorem go_neD {x y : V} {d : PyData} (h1 : Dp K H x d) (h2 : Dp K H y d) (hs : SeqAt.shaped d = true) (q : Q (.bl false) H) : rNeD K x y H Q :=
  ⟨d, d, h1, h2, hs, hs, by rw [SeqAt.eqv_refl d (SeqAt.canLay_of_shaped hs)]; exact q⟩
theorem at_0 {x : V} {l : List V} : atI (x :: l) 0 = some x := at_nat (xs := x :: l) (i := 0) rfl
theorem at_1 {x y : V} {l : List V} : atI (x :: y :: l) 1 = some y := at_nat (xs := x :: y :: l) (i := 1) rfl
theorem at_2 {x y z : V} {l : List V} : atI (x :: y :: z :: l) 2 = some z := at_nat (xs := x :: y :: z :: l) (i := 2) rfl
theorem at_last {xs : List V} (h : xs ≠ []) : atI xs (-1) = xs.getLast? := by
  have hl : 0 < xs.length := List.length_pos_iff.mpr h
  have e : ixN xs.length (-1) = some (xs.length - 1) := by
    unfold ixN
    rw [if_neg (by decide), if_pos (by omega)]
    congr 1
    omega
  unfold atI
  rw [e, Option.bind_some, List.getLast?_eq_getElem?]
theorem go_iRng3 {σ : L2.St} {ta : TA} {R : It → Hp → Prop} (h : ta σ H fun vs H1 => ∃ (i j c : Int) (n : Nat), vs = [.int i, .int j, .int c] ∧ RgC i j c n ∧ R (Itc i c n) H1) : iRng3 ta σ H R := h
/-- for i in range(n - 1, -1, -1) -/
theorem foRdn {σ : L2.St} {D : Ends} {g : TG} {tb : TS} {n : Nat} (Pv : Nat → L2.St → Hp → Prop) (hn : n ≤ 1000000) (h0 : Pv 0 σ H)
    (hs : ∀ (i : Nat) σ H, i < n → Pv i σ H → g (.int ((n - 1 - i : Nat) : Int)) σ H fun σ2 H2 => tb { D with nx := Pv (i + 1), ct := Pv (i + 1), bk := D.nx } σ2 H2) (hd : ∀ σ H, Pv n σ H → D.nx σ H) :
    ∃ (i j c : Int) (k : Nat), [V.int ((n : Int) - 1), .int (-1), .int (-1)] = [.int i, .int j, .int c] ∧ RgC i j c k ∧ ∃ W : Nat → Nat → L2.St → Hp → Prop, (∃ m, W 0 m σ H) ∧ ∀ i' m σ H, W i' m σ H →
      ((Itc i c k).stop i' H ∧ D.nx σ H) ∨ ((Itc i c k).go i' H ∧ ∃ N : L2.St → Hp → Prop, (∀ σ' H', N σ' H' → ∃ m', m' < m ∧ W (i' + 1) m' σ' H') ∧ ∀ x H', (Itc i c k).yld i' H x H' → g x σ H' fun σ2 H2 => tb { D with nx := N, ct := N, bk := D.nx } σ2 H2) := by
  have r := RgC.neg (i := (n : Int) - 1) (j := -1) (by omega) (by omega) (by omega) (by omega)
  have e : ((n : Int) - 1 - -1).toNat = n := by omega
  rw [e] at r
  refine ⟨_, _, _, n, rfl, r, for_rangeC Pv h0 (fun i σ H hi p => ?_) hd⟩
  have e2 : (n : Int) - 1 + (i : Nat) * (-1) = ((n - 1 - i : Nat) : Int) := by omega
  rw [e2]
  exact hs i σ H hi p
/-- t + ((..),): a view with one more item -/
theorem add_dp {vw p p2 : Addr} {xs : List V} {ds es : List PyData} (hv : Dp K H (.ref vw) (.tuple ds)) (hp : H p = none) (hp2 : upd H p (.tup xs) p2 = none) (hx : ∀ H', DpAll K H' xs es) (hl : ds.length ≤ 1000)
    (q : ∀ p3 H3, Same H H3 → Dp K H3 (.ref p3) (.tuple (ds ++ [.tuple es])) → Q (.ref p3) H3) : rCatA K (.ref vw) (.ref p2) (upd (upd H p (.tup xs)) p2 (.tup [.ref p])) Q := by
  obtain ⟨a, ys, e, h1, h2⟩ := dp_tup hv
  cases e
  have s1 : Same H (upd (upd H p (.tup xs)) p2 (.tup [.ref p])) := fun c o hc => by
    have h3 : upd H p (.tup xs) c = some o := by rw [upd_ne (ne_of_none hc hp)]; exact hc
    rw [upd_ne (ne_of_none h3 hp2)]
    exact h3
  have hpp : upd (upd H p (.tup xs)) p2 (.tup [.ref p]) p = some (.tup xs) := by
    have h3 : upd H p (.tup xs) p = some (.tup xs) := upd_same
    rw [upd_ne (ne_of_none h3 hp2)]
    exact h3
  have hlen := dpAll_len h2
  refine go_catA (same_sqT s1 h1) (.inl (.inl upd_same)) (by simp; omega) (by simp) fun p3 H3 s3 e3 => ?_
  refine q p3 H3 (s1.trans s3) (.tup e3 (dpAll_append (dpAll_same (s1.trans s3) _ _ h2) (.cons (.tup (.inl (.inl (s3 _ _ hpp))) (hx H3)) .nil)))
theorem go_revL {te : TE} {σ : L2.St} (h : te σ H fun x H1 => ∃ a xs, x = .ref a ∧ SqL K H1 a xs ∧ ∀ p, H1 p = none → Q (.ref p) (upd H1 p (.lst xs.reverse))) : tRevL K te σ H Q := h
end
end Gx

set_option Elab.async false
set_option linter.all false
set_option maxRecDepth 100000
set_option maxHeartbeats 4000000
/-! Own lemmas: what stands while one list is written. -/
namespace Gx
open PySem PySem.Spec PyProof.Rows L2
theorem PairsAt.but {q : Addr} {H H' : Hp} {zs xs : List V} {ts : List (Int × Int)} (h : PairsAt H xs ts) (e : H q = some (.lst zs)) (B : But q H H') : PairsAt H' xs ts :=
  ⟨h.1, fun i x r a b => let ⟨p, e1, k⟩ := h.2 i x r a b; ⟨p, e1, B _ _ (ne_of k e (by intro z; cases z)) k⟩⟩
theorem Pool.but {p : Pl} {b : Int} {q : Addr} {H H' : Hp} (h : Pool H p b) (B : But q H H') (n1 : q ≠ p.a) (n2 : q ≠ p.l) : Pool H' p b := by
  obtain ⟨p1, p2, p3, p4, e, k⟩ := h.ex
  exact ⟨⟨p1, p2, p3, p4, B _ _ n1.symm e, k⟩, B _ _ n2.symm h.li, h.ne⟩
end Gx

set_option Elab.async false
set_option linter.all false
set_option maxRecDepth 100000
set_option maxHeartbeats 4000000
/-! Own lemmas: data while one list is written; dicts of texts; expressions. -/
namespace Gx
open PySem PySem.Spec PyProof.Rows L2
section
variable {K : PySem.W.Frag} {H H' : Hp}
theorem sqT_but {l a : Addr} {ys xs : List V} (hl : H l = some (.lst ys)) (B : But l H H') (h : SqT K H a xs) : SqT K H' a xs := by
  have ne : ∀ {o : HO}, H a = some o → o ≠ .lst ys → a ≠ l := fun e n z => by
    rw [z, hl] at e
    exact n (Option.some.inj e).symm
  rcases h with (h | ⟨o, h⟩) | h
  · exact .inl (.inl (B _ _ (ne h (fun z => by cases z)) h))
  · exact .inl (.inr ⟨o, B _ _ (ne h (fun z => by cases z)) h⟩)
  · exact .inr h
mutual
theorem dp_but {l : Addr} {ys : List V} (hl : H l = some (.lst ys)) (B : But l H H') : ∀ (d : PyData) (v : V), noL d = true → Dp K H v d → Dp K H' v d
  | .none, _, _, h => by cases h; exact .non
  | .bool b, _, _, h => by cases h; exact .bl b
  | .int i, _, _, h => by cases h; exact .int i
  | .str x, _, _, h => by cases h; exact .str x
  | .list ds, _, n, _ => by simp [noL] at n
  | .tuple ds, _, n, h => by
    cases h with
    | tup hs ha => exact .tup (sqT_but hl B hs) (dpAll_but hl B ds _ (by simpa [noL] using n) ha)
  | .dict _, _, n, _ => by simp [noL] at n
theorem dpAll_but {l : Addr} {ys : List V} (hl : H l = some (.lst ys)) (B : But l H H') : ∀ (ds : List PyData) (vs : List V), noLAll ds = true → DpAll K H vs ds → DpAll K H' vs ds
  | [], _, _, h => by cases h; exact .nil
  | d :: ds, _, n, h => by
    have n' : noL d = true ∧ noLAll ds = true := by simpa [noLAll] using n
    cases h with
    | cons h1 h2 => exact .cons (dp_but hl B d _ n'.1 h1) (dpAll_but hl B ds _ n'.2 h2)
end
theorem Turn.dp {p : Pl} {b b0 : Int} {d : PyData} {v : V} (t : Turn p b H H') (hp : Pool H p b0) (n : noL d = true) (h : Dp K H v d) : Dp K H' v d := by
  obtain ⟨zs, ez⟩ := hp.there
  exact dp_but ez t.but d v n h
theorem Turn.sqT {p : Pl} {b b0 : Int} {a : Addr} {xs : List V} (t : Turn p b H H') (hp : Pool H p b0) (h : SqT K H a xs) : SqT K H' a xs := by
  obtain ⟨zs, ez⟩ := hp.there
  exact sqT_but ez t.but h
/-! how deep data are -/
mutual
def dDeep : PyData → Nat
  | .list ds => dDeepAll ds + 1
  | .tuple ds => dDeepAll ds + 1
  | _ => 0
def dDeepAll : List PyData → Nat
  | [] => 0
  | d :: ds => max (dDeep d) (dDeepAll ds)
end
mutual
def noDict : PyData → Bool
  | .dict _ => false
  | .list ds => noDictAll ds
  | .tuple ds => noDictAll ds
  | _ => true
def noDictAll : List PyData → Bool
  | [] => true
  | d :: ds => noDict d && noDictAll ds
end
mutual
def small : PyData → Bool
  | .list ds => decide (ds.length ≤ 100000) && smallAll ds
  | .tuple ds => decide (ds.length ≤ 100000) && smallAll ds
  | .dict _ => false
  | _ => true
def smallAll : List PyData → Bool
  | [] => true
  | d :: ds => small d && smallAll ds
end
theorem small_at : ∀ {ds : List PyData} {i : Nat} {d : PyData}, smallAll ds = true → ds[i]? = some d → small d = true
  | [], _, _, _, h => by cases h
  | e :: ds, 0, d, s, h => by
    cases h
    have : small e = true ∧ smallAll ds = true := by simpa [smallAll] using s
    exact this.1
  | e :: ds, i + 1, d, s, h => by
    have : small e = true ∧ smallAll ds = true := by simpa [smallAll] using s
    exact small_at this.2 (by simpa using h)
theorem deep_at : ∀ {ds : List PyData} {i : Nat} {d : PyData}, ds[i]? = some d → dDeep d ≤ dDeepAll ds
  | [], _, _, h => by cases h
  | e :: ds, 0, d, h => by cases h; exact Nat.le_max_left _ _
  | e :: ds, i + 1, d, h => Nat.le_trans (deep_at (ds := ds) (i := i) (by simpa using h)) (Nat.le_max_right _ _)
theorem eqd_of : ∀ (n : Nat) (d : PyData) (x y : V), dDeep d ≤ n → small d = true → Dp K H x d → Dp K H y d → Eqd K H n x y
  | n, .none, _, _, _, _, h, k => by cases h; cases k; exact .non
  | n, .bool b, _, _, _, _, h, k => by cases h; cases k; exact .bl b
  | n, .int i, _, _, _, _, h, k => by cases h; cases k; exact .int i
  | n, .str z, _, _, _, _, h, k => by cases h; cases k; exact .str z
  | n, .dict _, _, _, _, s, _, _ => by simp [small] at s
  | 0, .list ds, _, _, hd, _, _, _ => by simp [dDeep] at hd
  | 0, .tuple ds, _, _, hd, _, _, _ => by simp [dDeep] at hd
  | n + 1, .list ds, _, _, hd, s, h, k => by
    have s2 : ds.length ≤ 100000 ∧ smallAll ds = true := by simpa [small] using s
    have hd2 : dDeepAll ds ≤ n := by simpa [dDeep] using hd
    cases h with
    | lst h1 h2 =>
      cases k with
      | lst k1 k2 =>
        have l1 := dpAll_len h2
        have l2 := dpAll_len k2
        refine .lst h1 k1 (by omega) (by omega) fun i x y hx hy => ?_
        have hi := (List.getElem?_eq_some_iff.mp hx).1
        have e : ds[i]? = some ds[i] := List.getElem?_eq_getElem (by omega)
        obtain ⟨x', e1, d1⟩ := dpAll_get h2 e
        obtain ⟨y', e2, d2⟩ := dpAll_get k2 e
        rw [hx] at e1
        rw [hy] at e2
        cases e1
        cases e2
        exact eqd_of n _ _ _ (Nat.le_trans (deep_at e) hd2) (small_at s2.2 e) d1 d2
  | n + 1, .tuple ds, _, _, hd, s, h, k => by
    have s2 : ds.length ≤ 100000 ∧ smallAll ds = true := by simpa [small] using s
    have hd2 : dDeepAll ds ≤ n := by simpa [dDeep] using hd
    cases h with
    | tup h1 h2 =>
      cases k with
      | tup k1 k2 =>
        have l1 := dpAll_len h2
        have l2 := dpAll_len k2
        refine .tup h1 k1 (by omega) (by omega) fun i x y hx hy => ?_
        have hi := (List.getElem?_eq_some_iff.mp hx).1
        have e : ds[i]? = some ds[i] := List.getElem?_eq_getElem (by omega)
        obtain ⟨x', e1, d1⟩ := dpAll_get h2 e
        obtain ⟨y', e2, d2⟩ := dpAll_get k2 e
        rw [hx] at e1
        rw [hy] at e2
        cases e1
        cases e2
        exact eqd_of n _ _ _ (Nat.le_trans (deep_at e) hd2) (small_at s2.2 e) d1 d2
end
theorem upd_id {H : Hp} {a : Addr} {o : HO} (e : H a = some o) : upd H a o = H := by
  funext b
  unfold upd
  split
  · rename_i h
    rw [h, e]
  · rfl
section
variable {K : PySem.W.Frag} {H H' : Hp}
theorem sqT_ext (ht : ∀ c xs, H c = some (.tup xs) → H' c = some (.tup xs)) (hf : ∀ c o u, H c = some (.frz o u) → H' c = some (.frz o u)) {a : Addr} {xs : List V} (h : SqT K H a xs) : SqT K H' a xs := by
  rcases h with (h | ⟨o, h⟩) | h
  · exact .inl (.inl (ht _ _ h))
  · exact .inl (.inr ⟨o, hf _ _ _ h⟩)
  · exact .inr h
mutual
theorem dp_ext (ht : ∀ c xs, H c = some (.tup xs) → H' c = some (.tup xs)) (hf : ∀ c o u, H c = some (.frz o u) → H' c = some (.frz o u)) : ∀ (d : PyData) (v : V), noL d = true → Dp K H v d → Dp K H' v d
  | .none, _, _, h => by cases h; exact .non
  | .bool b, _, _, h => by cases h; exact .bl b
  | .int i, _, _, h => by cases h; exact .int i
  | .str x, _, _, h => by cases h; exact .str x
  | .list ds, _, n, _ => by simp [noL] at n
  | .tuple ds, _, n, h => by
    cases h with
    | tup hs ha => exact .tup (sqT_ext ht hf hs) (dpAll_ext ht hf ds _ (by simpa [noL] using n) ha)
  | .dict _, _, n, _ => by simp [noL] at n
theorem dpAll_ext (ht : ∀ c xs, H c = some (.tup xs) → H' c = some (.tup xs)) (hf : ∀ c o u, H c = some (.frz o u) → H' c = some (.frz o u)) : ∀ (ds : List PyData) (vs : List V), noLAll ds = true → DpAll K H vs ds → DpAll K H' vs ds
  | [], _, _, h => by cases h; exact .nil
  | d :: ds, _, n, h => by
    have n' : noL d = true ∧ noLAll ds = true := by simpa [noLAll] using n
    cases h with
    | cons h1 h2 => exact .cons (dp_ext ht hf d _ n'.1 h1) (dpAll_ext ht hf ds _ n'.2 h2)
end
end
section
variable {K : PySem.W.Frag} {H H' : Hp}
/-- the script's list is not the new list at l, or it is a written one -/
theorem sqL_split {a l : Addr} {xs : List V} (h : SqL K H a xs) (n : H l = none) : a ≠ l ∨ ∀ H' : Hp, SqL K H' a xs := by
  rcases h with (h | ⟨o, h⟩) | h
  · exact .inl (ne_of_none h n)
  · exact .inl (ne_of_none h n)
  · exact .inr fun H' => .inr h
theorem sqL_but {a l : Addr} {xs : List V} (hA : a ≠ l ∨ ∀ H' : Hp, SqL K H' a xs) (B : But l H H') (h : SqL K H a xs) : SqL K H' a xs := by
  rcases hA with n | hA
  · rcases h with (h | ⟨o, h⟩) | h
    · exact .inl (.inl (B _ _ n h))
    · exact .inl (.inr ⟨o, B _ _ n h⟩)
    · exact .inr h
  · exact hA H'
theorem sqL_updK {a l : Addr} {xs : List V} {kvs kvs' : List (Key × V)} (e : H l = some (.dK kvs)) (h : SqL K H a xs) : SqL K (upd H l (.dK kvs')) a xs := by
  rcases h with (h | ⟨o, h⟩) | h
  · exact .inl (.inl (by rw [upd_ne (ne_of h e (by intro z; cases z))]; exact h))
  · exact .inl (.inr ⟨o, by rw [upd_ne (ne_of h e (by intro z; cases z))]; exact h⟩)
  · exact .inr h
theorem sqT_updK {a l : Addr} {xs : List V} {kvs kvs' : List (Key × V)} (e : H l = some (.dK kvs)) (h : SqT K H a xs) : SqT K (upd H l (.dK kvs')) a xs :=
  sqT_ext (fun c xs h => by rw [upd_ne (ne_of h e (by intro z; cases z))]; exact h) (fun c o u h => by rw [upd_ne (ne_of h e (by intro z; cases z))]; exact h) h
theorem dp_updK {l : Addr} {kvs kvs' : List (Key × V)} (e : H l = some (.dK kvs)) {d : PyData} {v : V} (n : noL d = true) (h : Dp K H v d) : Dp K (upd H l (.dK kvs')) v d :=
  dp_ext (fun c xs h => by rw [upd_ne (ne_of h e (by intro z; cases z))]; exact h) (fun c o u h => by rw [upd_ne (ne_of h e (by intro z; cases z))]; exact h) d v n h
end
/-! ### tests of written texts -/
theorem ite_df {a b : Str} {A B : Prop} (h : ¬ a = b) (k : B) : if decide (a = b) = true then A else B := by rw [decide_eq_false h]; exact k
theorem ite_ndt {a : Str} {A B : Prop} (k : B) : if (!decide (a = a)) = true then A else B := by rw [decide_eq_true rfl]; exact k
theorem ite_ndtI {a : Int} {A B : Prop} (k : B) : if (!decide (a = a)) = true then A else B := by rw [decide_eq_true rfl]; exact k
theorem ite_ndf {a b : Str} {A B : Prop} (h : ¬ a = b) (k : A) : if (!decide (a = b)) = true then A else B := by rw [decide_eq_false h]; exact k
/-! ### dicts of texts -/
section
variable {K : PySem.W.Frag} {σ : L2.St} {H H1 : Hp} {Q : VK} {td ty tv : TE} {D : Ends}
def qDGet (y : V) (Q : VK) (x : V) (H2 : Hp) : Prop := ∃ a v, x = .ref a ∧ DGet H2 a y (some v) ∧ Q v H2
theorem go_dget (h : td σ H fun x H1 => ty σ H1 fun y H2 => qDGet y Q x H2) : tDGet td ty σ H Q := h
theorem go_dgetS {a : Addr} {kvs : List (Key × V)} {k : Str} {v : V} (e : H a = some (.dK kvs)) (hv : valV kvs (.inr k) = some v) (h : Q v H) : qDGet (.str k) Q (.ref a) H :=
  ⟨a, v, rfl, by have g := DGet.k (k := Sum.inr k) e; rw [hv] at g; exact g, h⟩
def qDPut (y v : V) (D : Ends) (σ : L2.St) (x : V) (H3 : Hp) : Prop := ∃ a H4, x = .ref a ∧ DPut H3 a y v H4 ∧ D.nx σ H4
theorem go_dput (h : tv σ H fun v H1 => td σ H1 fun x H2 => ty σ H2 fun y H3 => qDPut y v D σ x H3) : sDPut td ty tv D σ H := h
theorem go_dputS {a : Addr} {kvs : List (Key × V)} {k : Str} {v : V} (e : H a = some (.dK kvs)) (hz : kvs.length ≤ 100000) (h : D.nx σ (upd H a (.dK (putK kvs (.inr k) v)))) : qDPut (.str k) v D σ (.ref a) H :=
  ⟨a, _, rfl, DPut.k (k := Sum.inr k) e (szlt hz), h⟩
theorem go_dnew (h : ∀ p, H p = none → Q (.ref p) (upd H p (.dK []))) : tDNewK σ H Q := h
theorem go_iTup {tl : TE} {R : It → Hp → Prop} (h : tl σ H fun x H1 => ∃ a, x = .ref a ∧ (∃ xs, SqT K H1 a xs) ∧ R (Itt K a) H1) : iTup K tl σ H R := h
/-- for x in a tuple, behind its reading -/
theorem foT {g : TG} {tb : TS} {a : Addr} (xs : List V) (Pv : Nat → L2.St → Hp → Prop) (h0 : Pv 0 σ H1) (hl : ∀ i σ H, i ≤ xs.length → Pv i σ H → SqT K H a xs)
    (hs : ∀ i x σ H, xs[i]? = some x → Pv i σ H → g x σ H fun σ2 H2 => tb { D with nx := Pv (i + 1), ct := Pv (i + 1), bk := D.nx } σ2 H2) (hd : ∀ σ H, Pv xs.length σ H → D.nx σ H) :
    ∃ b, V.ref a = .ref b ∧ (∃ xs, SqT K H1 b xs) ∧ ∃ W : Nat → Nat → L2.St → Hp → Prop, (∃ m, W 0 m σ H1) ∧ ∀ i m σ H, W i m σ H →
      ((Itt K b).stop i H ∧ D.nx σ H) ∨ ((Itt K b).go i H ∧ ∃ N : L2.St → Hp → Prop, (∀ σ' H', N σ' H' → ∃ m', m' < m ∧ W (i + 1) m' σ' H') ∧ ∀ x H', (Itt K b).yld i H x H' → g x σ H' fun σ2 H2 => tb { D with nx := N, ct := N, bk := D.nx } σ2 H2) :=
  ⟨a, rfl, ⟨xs, hl 0 σ H1 (Nat.zero_le _) h0⟩, for_tup Pv h0 hl hs hd⟩
theorem go_tupOf {a : Addr} {xs : List V} (hs : SqL K H a xs) (h : ∀ l, H l = none → Q (.ref l) (upd H l (.tup xs))) : qTupOf K [.ref a] H Q := go_tupOfL hs h
end
theorem valV_put {kvs : List (Key × V)} {k : Key} {v : V} : valV (putK kvs k v) k = some v := by
  unfold putK
  split
  · rename_i h
    induction kvs with
    | nil => cases h
    | cons p r ih =>
      by_cases e : p.1 = k
      · rw [List.map_cons, if_pos e]
        exact valV_pos e
      · rw [List.map_cons, if_neg e, valV_neg e]
        refine ih ?_
        simpa [List.any_cons, e] using h
  · rename_i h
    induction kvs with
    | nil => exact valV_pos rfl
    | cons p r ih =>
      have e : ¬ p.1 = k := fun e => h (by simp [List.any_cons, e])
      rw [List.cons_append, valV_neg e]
      refine ih ?_
      simpa [List.any_cons, e] using h
theorem valV_put_ne {kvs : List (Key × V)} {k j : Key} {v : V} (n : j ≠ k) : valV (putK kvs k v) j = valV kvs j := by
  unfold putK
  split
  · rename_i h
    clear h
    induction kvs with
    | nil => rfl
    | cons p r ih =>
      rw [List.map_cons]
      by_cases e : p.1 = k
      · rw [if_pos e]
        have e2 : ¬ p.1 = j := fun z => n (z.symm.trans e)
        rw [valV_neg (p := (p.1, v)) e2, valV_neg e2]
        exact ih
      · rw [if_neg e]
        by_cases e2 : p.1 = j
        · rw [valV_pos e2, valV_pos e2]
        · rw [valV_neg e2, valV_neg e2]
          exact ih
  · rename_i h
    clear h
    induction kvs with
    | nil => exact valV_neg (Ne.symm n)
    | cons p r ih =>
      rw [List.cons_append]
      by_cases e2 : p.1 = j
      · rw [valV_pos e2, valV_pos e2]
      · rw [valV_neg e2, valV_neg e2]
        exact ih
def keyPut (ks : List Key) (k : Key) : List Key := if (ks.any fun j => decide (j = k)) = true then ks else ks ++ [k]
theorem putK_keys {kvs : List (Key × V)} {k : Key} {v : V} : (putK kvs k v).map (·.1) = keyPut (kvs.map (·.1)) k := by
  unfold putK keyPut
  have e : ((kvs.map (·.1)).any fun j => decide (j = k)) = (kvs.any fun kv => decide (kv.1 = k)) := by rw [List.any_map]; rfl
  rw [e]
  split
  · rw [List.map_map]
    refine List.map_congr_left fun p _ => ?_
    show (if p.1 = k then (p.1, v) else p).1 = p.1
    split <;> rfl
  · rw [List.map_append]
    rfl
theorem putK_len {kvs : List (Key × V)} {k : Key} {v : V} : (putK kvs k v).length ≤ kvs.length + 1 := by
  unfold putK
  split <;> simp
theorem putK_mem {kvs : List (Key × V)} {k : Key} {v : V} {p : Key × V} (h : p ∈ putK kvs k v) : p = (k, v) ∨ p ∈ kvs := by
  unfold putK at h
  split at h
  · obtain ⟨q, hq, e⟩ := List.mem_map.mp h
    split at e
    · rename_i hk
      exact .inl (by rw [← e, hk])
    · exact .inr (e ▸ hq)
  · rcases List.mem_append.mp h with h | h
    · exact .inr h
    · exact .inl (List.mem_singleton.mp h)
theorem valV_mem {kvs : List (Key × V)} {k : Key} {v : V} (h : valV kvs k = some v) : (k, v) ∈ kvs := by
  induction kvs with
  | nil => cases h
  | cons p r ih =>
    by_cases e : p.1 = k
    · rw [valV_pos e] at h
      cases h
      rw [← e]
      exact List.mem_cons_self
    · rw [valV_neg e] at h
      exact List.mem_cons_of_mem _ (ih h)
/-! ### truth -/
section
variable {X : Cx} {K : PySem.W.Frag} {a : Expr} {ta : TE} {σ : L2.St} {H : Hp} {QB : Bool → Hp → Prop}
def qTru (K : PySem.W.Frag) (QB : Bool → Hp → Prop) (x : V) (H : Hp) : Prop := ∃ k, TruV K x H k ∧ QB k H
def tTr (K : PySem.W.Frag) (ta : TE) : TT := fun σ H QB => ta σ H (qTru K QB)
theorem p_truthK (hK : X.K = K) (ha : PE X a ta) (he : ∀ whole, isTrue a X.env whole = (do let v ← whole; standAt a.pos; holding [v] (truthy v))) : PT X a (tTr K ta) := by
  subst hK
  exact pt_truth ha he
theorem go_tTr (h : ta σ H (qTru K QB)) : tTr K ta σ H QB := h
theorem go_truL {l : Addr} {xs : List V} (h : SqL K H l xs) (q : QB (!xs.isEmpty) H) : qTru K QB (.ref l) H := ⟨_, .inl ⟨xs, h, rfl⟩, q⟩
theorem go_truT {l : Addr} {xs : List V} (h : SqT K H l xs) (q : QB (!xs.isEmpty) H) : qTru K QB (.ref l) H := ⟨_, .inr (.inl ⟨xs, h, rfl⟩), q⟩
theorem go_truI {i : Int} (q : QB (i != 0) H) : qTru K QB (.int i) H := ⟨_, rfl, q⟩
theorem go_truB {b : Bool} (q : QB b H) : qTru K QB (.bl b) H := ⟨_, rfl, q⟩
theorem go_truN (q : QB false H) : qTru K QB .non H := ⟨_, rfl, q⟩
end
/-- {x} * k, of one item -/
def rRep1 (K : PySem.W.Frag) : R2 := fun x y H Q => ∃ l k z, x = .ref l ∧ y = .int k ∧ SqT K H l [z] ∧ 2 ≤ k ∧ k ≤ 1000000 ∧ ∀ p, H p = none → Q (.ref p) (upd H p (.tup (List.replicate k.toNat z)))
theorem flat_one {α : Type} (z : α) : ∀ n : Nat, (List.replicate n [z]).flatten = List.replicate n z
  | 0 => rfl
  | n + 1 => by
    rw [List.replicate_succ, List.flatten_cons, flat_one z n]
    rfl
theorem op_rep1 {X : Cx} : OpR X (binaryOp .Mult) (rRep1 X.K) := by
  intro pins s σ H x y v u Q I rx ry h
  obtain ⟨l, k, z, rfl, rfl, hT, h2, h6, q⟩ := h
  obtain ⟨t, rfl⟩ := ry
  cases rx
  obtain ⟨its, r, ⟨⟨oc, od, oda, osl⟩, ho, hcl, m, hda⟩, hsz⟩ := I.tuple hT
  dsimp only at hcl hda
  subst hcl hda
  obtain ⟨zu, rfl⟩ : ∃ zu, its = [zu] := by
    cases r with
    | cons _ rt => cases rt; exact ⟨_, rfl⟩
  have one : ∀ w : Int, (((([zu] : List Value).toArray).size : Nat) : Int) * w = w := fun w => by
    show ((1 : Nat) : Int) * w = w
    omega
  have line : (List.replicate k.toNat [zu]).flatten.length ≤ sizeLine := by
    rw [flat_one, List.length_replicate, sizeLine_eq]
    omega
  have d0 : (decide (k < -(2 ^ 63)) || decide (k ≥ 2 ^ 63)) = false := by simp; omega
  have d1 : ((([zu] : List Value).toArray).isEmpty || k == 1) = false := by
    show (false || k == 1) = false
    simp
    omega
  have d2 : (decide (k ≤ 0) || (([zu] : List Value).toArray).isEmpty) = false := by
    show (decide (k ≤ 0) || false) = false
    simp
    omega
  have d4 : Builtin.Tuple.tupleTooMany (((([zu] : List Value).toArray).size : Nat) * k) = false := by
    rw [one]
    unfold Builtin.Tuple.tupleTooMany
    rw [sizeLine_eq]
    simp
    omega
  have run := tuple_mulW l [zu].toArray m od osl k t d0 d1 d2 (by rw [one]; omega) d4 (by rw [size_rep, List.size_toArray]; exact line)
  refine wpAny_binaryOp_repeat_ref (T := "tuple") (U := "int") (by decide) ⟨_, ho, rfl⟩ (fun z => typeIs_int z k t) noFill_tuple_mul F.fills_int_mul F.slot_int_rmul repeat_tuple F.slot_int_index.lookup ?_
  refine call_meets F.slot_int_rmul (typeIs_int s k t) F.entry_int_rmul (F.args_int_rmul_2 _ _) (int_rmul_tuple k t l [zu].toArray m od osl) ⟨ho, rfl, ⟨_, ho, rfl⟩, ?_⟩
  refine call_meets F.slot_tuple_mul ⟨_, ho, rfl⟩ F.entry_tuple_mul (F.args_tuple_mul_2 _ _) run ⟨ho, ?_⟩
  rw [size_rep]
  have hv : Vals (List.replicate k.toNat z) (List.replicate k.toNat zu) := by
    have rz : RelV z zu := by cases r with | cons a _ => exact a
    generalize k.toNat = j
    induction j with
    | zero => exact .nil
    | succ j ih => exact .cons rz ih
  have fresh := I.hok.fresh (Nat.le_refl _)
  refine ⟨.ref s.heap.objs.size, _, I.laid (t' := s.toks) (o := .tup (List.replicate k.toNat z)) (fun b ob e => Heap.get?_push_of_some _ e) (Nat.le_refl _) ⟨?_, List.replicate k.toNat zu, hv, ?_⟩, rfl, q _ fresh⟩
  · rw [List.length_replicate, sizeLine_eq]
    omega
  · rw [flat_one]
    exact IsTup.new _ _
/-! ### expressions -/
inductive Ex where
  | num (n : Int)
  | var (x : Str)
  | long
  | view (e : Ex)
  | pick (x : Str) (a b : Ex)
  | op (s : Nat) (a b : Ex)
def signsS : List Str := ["+", "-", "*", "/", "mod", "<", "="]
def signS (s : Nat) : Str := signsS.getD s "+"
def exD : Ex → PyData
  | .num n => .tuple [.str "number", .int n]
  | .var x => .tuple [.str "variable", .str x]
  | .long => .tuple [.str "long"]
  | .view e => .tuple [.str "view", exD e]
  | .pick x a b => .tuple [.str "pick", .str x, exD a, exD b]
  | .op s a b => .tuple [.str (signS s), exD a, exD b]
def ExIn (ns ps : List Str) : Nat → Ex → Prop
  | 0, _ => False
  | _ + 1, .num n => 0 ≤ n ∧ n < 65536
  | _ + 1, .var x => x ∈ ns
  | _ + 1, .long => True
  | d + 1, .view e => ExIn ns ps d e
  | d + 1, .pick x a b => x ∈ ps ∧ ExIn ns ps d a ∧ ExIn ns ps d b
  | d + 1, .op s a b => s < 7 ∧ ExIn ns ps d a ∧ ExIn ns ps d b
theorem ExIn.up {ns ps : List Str} : ∀ {d : Nat} {e : Ex}, ExIn ns ps d e → ExIn ns ps (d + 1) e
  | 0, _, h => h.elim
  | _ + 1, .num n, h => h
  | _ + 1, .var x, h => h
  | _ + 1, .long, h => h
  | d + 1, .view e, h => ExIn.up (d := d) h
  | d + 1, .pick x a b, h => ⟨h.1, ExIn.up (d := d) h.2.1, ExIn.up (d := d) h.2.2⟩
  | d + 1, .op s a b, h => ⟨h.1, ExIn.up (d := d) h.2.1, ExIn.up (d := d) h.2.2⟩
theorem ExIn.le {ns ps : List Str} {d m : Nat} {e : Ex} (h : ExIn ns ps d e) (hm : d ≤ m) : ExIn ns ps m e := by
  induction hm with
  | refl => exact h
  | step _ ih => exact ih.up
theorem exD_noL : ∀ e : Ex, noL (exD e) = true
  | .num n => rfl
  | .var x => rfl
  | .long => rfl
  | .view e => by
    show (true && (noL (exD e) && true)) = true
    rw [exD_noL e]
    rfl
  | .pick x a b => by
    show (true && (true && (noL (exD a) && (noL (exD b) && true)))) = true
    rw [exD_noL a, exD_noL b]
    rfl
  | .op s a b => by
    show (true && (noL (exD a) && (noL (exD b) && true))) = true
    rw [exD_noL a, exD_noL b]
    rfl
def comb (s : Nat) (l r : Int) : Int := match s with
  | 0 => (l + r) % 65536
  | 1 => if l - r > 0 then l - r else 0
  | 2 => l * r % 65536
  | 3 => if r > 0 then l / r else 0
  | 4 => if r > 0 then l % r else 0
  | 5 => if l < r then 1 else 0
  | _ => if l = r then 1 else 0
theorem comb_in {s : Nat} {l r : Int} (h1 : 0 ≤ l ∧ l < 65536) (h2 : 0 ≤ r ∧ r < 65536) : 0 ≤ comb s l r ∧ comb s l r < 65536 := by
  unfold comb
  split
  · omega
  · split <;> omega
  · exact ⟨Int.emod_nonneg _ (by decide), Int.emod_lt_of_pos _ (by decide)⟩
  · split
    · rename_i h
      exact ⟨Int.ediv_nonneg h1.1 h2.1, Int.lt_of_le_of_lt (Int.ediv_le_self _ h1.1) h1.2⟩
    · omega
  · split
    · rename_i h
      exact ⟨Int.emod_nonneg _ (by omega), Int.lt_trans (Int.emod_lt_of_pos _ h) h2.2⟩
    · omega
  · split <;> omega
  · split <;> omega
def evalE (tab : Str → Int) (on : Str → Bool) (seen : List Int) : Ex → Int
  | .num n => n
  | .var x => tab x
  | .long => min (seen.length : Int) 65535
  | .view e => if evalE tab on seen e < seen.length then seen.getD (evalE tab on seen e).toNat 0 else 0
  | .pick x a b => if on x = true then evalE tab on seen a else evalE tab on seen b
  | .op s a b => comb s (evalE tab on seen a) (evalE tab on seen b)
theorem evalE_in {tab : Str → Int} {on : Str → Bool} {seen : List Int} {ns ps : List Str} (ht : ∀ x ∈ ns, 0 ≤ tab x ∧ tab x < 65536) (hs : ∀ n ∈ seen, 0 ≤ n ∧ n < 65536) :
    ∀ (d : Nat) (e : Ex), ExIn ns ps d e → 0 ≤ evalE tab on seen e ∧ evalE tab on seen e < 65536
  | 0, _, h => h.elim
  | d + 1, .num n, h => h
  | d + 1, .var x, h => ht x h
  | d + 1, .long, _ => by show 0 ≤ min (seen.length : Int) 65535 ∧ _; unfold evalE; omega
  | d + 1, .view e, h => by
    obtain ⟨h0, h1⟩ := evalE_in (on := on) ht hs d e h
    show 0 ≤ (if evalE tab on seen e < seen.length then seen.getD (evalE tab on seen e).toNat 0 else 0) ∧ (if evalE tab on seen e < seen.length then seen.getD (evalE tab on seen e).toNat 0 else 0) < 65536
    split
    · rename_i hl
      have hlt : (evalE tab on seen e).toNat < seen.length := by omega
      rw [List.getD_eq_getElem?_getD, List.getElem?_eq_getElem hlt]
      exact hs _ (List.getElem_mem hlt)
    · omega
  | d + 1, .pick x a b, h => by
    show 0 ≤ (if on x = true then evalE tab on seen a else evalE tab on seen b) ∧ (if on x = true then evalE tab on seen a else evalE tab on seen b) < 65536
    split
    · exact evalE_in ht hs d a h.2.1
    · exact evalE_in ht hs d b h.2.2
  | d + 1, .op s a b, h => comb_in (evalE_in ht hs d a h.2.1) (evalE_in ht hs d b h.2.2)
/-- names with ints, names with truth values -/
def TabOk (H : Hp) (t : Addr) (ns : List Str) (tab : Str → Int) : Prop := ∃ kvs, H t = some (.dK kvs) ∧ kvs.length ≤ 1000 ∧ ∀ x ∈ ns, valV kvs (.inr x) = some (.int (tab x)) ∧ 0 ≤ tab x ∧ tab x < 65536
def OnOk (H : Hp) (t : Addr) (ps : List Str) (on : Str → Bool) : Prop := ∃ kvs, H t = some (.dK kvs) ∧ kvs.length ≤ 1000 ∧ ∀ x ∈ ps, valV kvs (.inr x) = some (.bl (on x))
theorem TabOk.same {H H' : Hp} {t : Addr} {ns : List Str} {tab : Str → Int} (h : TabOk H t ns tab) (s : Same H H') : TabOk H' t ns tab := let ⟨kvs, e, r⟩ := h; ⟨kvs, s _ _ e, r⟩
theorem OnOk.same {H H' : Hp} {t : Addr} {ns : List Str} {on : Str → Bool} (h : OnOk H t ns on) (s : Same H H') : OnOk H' t ns on := let ⟨kvs, e, r⟩ := h; ⟨kvs, s _ _ e, r⟩
theorem TabOk.turn {H H' : Hp} {t : Addr} {ns : List Str} {tab : Str → Int} {p : Pl} {b b0 : Int} (h : TabOk H t ns tab) (hp : Pool H p b0) (s : Turn p b H H') : TabOk H' t ns tab := by
  obtain ⟨kvs, e, r⟩ := h
  obtain ⟨zs, ez⟩ := hp.there
  exact ⟨kvs, s.but _ _ (ne_of e ez (by intro z; cases z)) e, r⟩
theorem OnOk.turn {H H' : Hp} {t : Addr} {ns : List Str} {on : Str → Bool} {p : Pl} {b b0 : Int} (h : OnOk H t ns on) (hp : Pool H p b0) (s : Turn p b H H') : OnOk H' t ns on := by
  obtain ⟨kvs, e, r⟩ := h
  obtain ⟨zs, ez⟩ := hp.there
  exact ⟨kvs, s.but _ _ (ne_of e ez (by intro z; cases z)) e, r⟩
/-- a dict that was filled over the names xs, its values so -/
structure DB (kvs : List (Key × V)) (xs : List Str) (P : V → Prop) : Prop where
  keys : kvs.map (·.1) = xs.foldl (fun ks x => keyPut ks (.inr x)) []
  len : kvs.length ≤ xs.length
  has : ∀ x ∈ xs, ∃ v, valV kvs (.inr x) = some v ∧ P v
  all : ∀ p ∈ kvs, P p.2
theorem DB.nil {P : V → Prop} : DB [] [] P := ⟨rfl, Nat.le_refl _, (fun _ h => nomatch h), fun _ h => nomatch h⟩
theorem DB.put {kvs : List (Key × V)} {xs : List Str} {P : V → Prop} {x : Str} {v : V} (h : DB kvs xs P) (hv : P v) : DB (putK kvs (.inr x) v) (xs ++ [x]) P := by
  refine ⟨by rw [putK_keys, h.keys, List.foldl_append]; rfl, ?_, fun y hy => ?_, fun p hp => ?_⟩
  · have := h.len
    have := putK_len (kvs := kvs) (k := .inr x) (v := v)
    rw [List.length_append, List.length_singleton]
    omega
  · by_cases e : y = x
    · exact ⟨v, by rw [e]; exact valV_put, hv⟩
    · have hm : y ∈ xs := by
        rcases List.mem_append.mp hy with hy | hy
        · exact hy
        · exact absurd (List.mem_singleton.mp hy) e
      obtain ⟨u, h1, h2⟩ := h.has y hm
      exact ⟨u, by rw [valV_put_ne (fun z => e (Sum.inr.inj z))]; exact h1, h2⟩
  · rcases putK_mem hp with rfl | hp
    · exact hv
    · exact h.all p hp
/-- a dict that was filled over the same names, each with its value in kvs -/
structure DC (k0 : List (Key × V)) (xs : List Str) (kvs : List (Key × V)) : Prop where
  keys : k0.map (·.1) = xs.foldl (fun ks x => keyPut ks (.inr x)) []
  len : k0.length ≤ xs.length
  same : ∀ p ∈ k0, valV kvs p.1 = some p.2
  has : ∀ x ∈ xs, valV k0 (.inr x) = valV kvs (.inr x)
theorem DC.nil {kvs : List (Key × V)} : DC [] [] kvs := ⟨rfl, Nat.le_refl _, (fun _ h => nomatch h), fun _ h => nomatch h⟩
theorem DC.put {k0 kvs : List (Key × V)} {xs : List Str} {x : Str} {v : V} (h : DC k0 xs kvs) (hv : valV kvs (.inr x) = some v) : DC (putK k0 (.inr x) v) (xs ++ [x]) kvs := by
  refine ⟨by rw [putK_keys, h.keys, List.foldl_append]; rfl, ?_, fun p hp => ?_, fun y hy => ?_⟩
  · have := h.len
    have := putK_len (kvs := k0) (k := .inr x) (v := v)
    rw [List.length_append, List.length_singleton]
    omega
  · rcases putK_mem hp with rfl | hp
    · exact hv
    · exact h.same p hp
  · by_cases e : y = x
    · rw [e, hv]
      exact valV_put
    · have hm : y ∈ xs := by
        rcases List.mem_append.mp hy with hy | hy
        · exact hy
        · exact absurd (List.mem_singleton.mp hy) e
      rw [valV_put_ne (fun z => e (Sum.inr.inj z))]
      exact h.has y hm
theorem DC.eqV {K : PySem.W.Frag} {H : Hp} {k0 kvs : List (Key × V)} {xs : List Str} {P : V → Prop} (h : DC k0 xs kvs) (g : DB kvs xs P) (hP : ∀ v, P v → flatB v = true) {a b : Addr} (ha : H a = some (.dK k0)) (hb : H b = some (.dK kvs)) : EqV K H 2 (.ref a) (.ref b) := by
  refine .inr (.inr (.inr ⟨a, b, k0, kvs, rfl, rfl, ha, hb, ?_, fun p hp => ⟨p.2, h.same p hp, .inl ⟨rfl, hP _ (g.all (p.1, p.2) (valV_mem (h.same p hp)))⟩⟩⟩))
  have e := congrArg List.length (h.keys.trans g.keys.symm)
  rw [List.length_map, List.length_map] at e
  exact e
/-- the table's values, as functions -/
def tabOf (kvs : List (Key × V)) (x : Str) : Int := match valV kvs (.inr x) with | some (.int n) => n | _ => 0
def onOf (kvs : List (Key × V)) (x : Str) : Bool := match valV kvs (.inr x) with | some (.bl b) => b | _ => false
def IsNum (v : V) : Prop := ∃ n : Int, v = .int n ∧ 0 ≤ n ∧ n < 65536
def IsBl (v : V) : Prop := ∃ b : Bool, v = .bl b
theorem DB.tab {H : Hp} {t : Addr} {kvs : List (Key × V)} {xs : List Str} (h : DB kvs xs IsNum) (hx : xs.length ≤ 1000) (e : H t = some (.dK kvs)) : TabOk H t xs (tabOf kvs) := by
  have := h.len
  refine ⟨kvs, e, by omega, fun x hm => ?_⟩
  obtain ⟨v, h1, n, rfl, h2⟩ := h.has x hm
  have et : tabOf kvs x = n := by unfold tabOf; rw [h1]
  rw [et]
  exact ⟨h1, h2⟩
theorem DB.on {H : Hp} {t : Addr} {kvs : List (Key × V)} {xs : List Str} (h : DB kvs xs IsBl) (hx : xs.length ≤ 1000) (e : H t = some (.dK kvs)) : OnOk H t xs (onOf kvs) := by
  have := h.len
  refine ⟨kvs, e, by omega, fun x hm => ?_⟩
  obtain ⟨v, h1, b, rfl⟩ := h.has x hm
  have et : onOf kvs x = b := by unfold onOf; rw [h1]
  rw [et]
  exact h1
theorem DC.tab {H : Hp} {t : Addr} {k0 kvs : List (Key × V)} {xs : List Str} (h : DC k0 xs kvs) (g : DB kvs xs IsNum) (hx : xs.length ≤ 1000) (e : H t = some (.dK k0)) : TabOk H t xs (tabOf kvs) := by
  have := h.len
  refine ⟨k0, e, by omega, fun x hm => ?_⟩
  obtain ⟨v, h1, n, rfl, h2⟩ := g.has x hm
  have et : tabOf kvs x = n := by unfold tabOf; rw [h1]
  rw [et, h.has x hm]
  exact ⟨h1, h2⟩
theorem DC.on {H : Hp} {t : Addr} {k0 kvs : List (Key × V)} {xs : List Str} (h : DC k0 xs kvs) (g : DB kvs xs IsBl) (hx : xs.length ≤ 1000) (e : H t = some (.dK k0)) : OnOk H t xs (onOf kvs) := by
  have := h.len
  refine ⟨k0, e, by omega, fun x hm => ?_⟩
  obtain ⟨v, h1, b, rfl⟩ := g.has x hm
  have et : onOf kvs x = b := by unfold onOf; rw [h1]
  rw [et, h.has x hm]
  exact h1
theorem take_snoc {α : Type} {xs : List α} {i : Nat} {x : α} (h : xs[i]? = some x) : xs.take (i + 1) = xs.take i ++ [x] := by
  rw [List.take_add_one, h]
  rfl
theorem strs_at {xs : List Str} {i : Nat} {v : V} (h : (xs.map V.str)[i]? = some v) : ∃ x, v = .str x ∧ xs[i]? = some x := by
  rw [List.getElem?_map] at h
  cases e : xs[i]? with
  | none => rw [e] at h; cases h
  | some x => rw [e] at h; cases h; exact ⟨x, rfl, rfl⟩
theorem strs_pick {xs : List Str} {k : Int} (h0 : 0 ≤ k) (h : k < xs.length) : ∃ x, x ∈ xs ∧ atI (xs.map V.str) k = some (.str x) := by
  obtain ⟨v, hv, e⟩ := at_pick (xs := xs.map V.str) h0 (by rw [List.length_map]; exact h)
  obtain ⟨x, hx, rfl⟩ := List.mem_map.mp hv
  exact ⟨x, hx, e⟩
/-- a text for a sign -/
theorem sign_cases {s : Nat} (h : s < 7) : s = 0 ∨ s = 1 ∨ s = 2 ∨ s = 3 ∨ s = 4 ∨ s = 5 ∨ s = 6 := by omega
end Gx

set_option Elab.async false
set_option linter.all false
set_option maxRecDepth 100000
set_option maxHeartbeats 4000000
/-! Own lemmas: equal expressions, folded expressions. -/
namespace Gx
open PySem PySem.Spec PyProof.Rows L2
def eqX (a b : Ex) : Bool := PyData.eqv (exD a) (exD b)
def headS : Ex → Str
  | .num _ => "number"
  | .var _ => "variable"
  | .long => "long"
  | .view _ => "view"
  | .pick _ _ _ => "pick"
  | .op s _ _ => signS s
def restD : Ex → List PyData
  | .num n => [.int n]
  | .var x => [.str x]
  | .long => []
  | .view e => [exD e]
  | .pick x a b => [.str x, exD a, exD b]
  | .op _ a b => [exD a, exD b]
theorem exD_form : ∀ e : Ex, exD e = .tuple (.str (headS e) :: restD e)
  | .num _ => rfl
  | .var _ => rfl
  | .long => rfl
  | .view _ => rfl
  | .pick _ _ _ => rfl
  | .op _ _ _ => rfl
theorem eqX_form (a b : Ex) : eqX a b = ((headS a == headS b) && PyData.eqvAll (restD a) (restD b)) := by
  unfold eqX
  rw [exD_form a, exD_form b]
  simp only [PyData.eqv, PyData.eqvAll]
theorem eqX_head {a b : Ex} (h : eqX a b = true) : headS a = headS b ∧ PyData.eqvAll (restD a) (restD b) = true := by
  rw [eqX_form, Bool.and_eq_true] at h
  exact ⟨by simpa using h.1, h.2⟩
theorem signS_inj {s t : Nat} (hs : s < 7) (ht : t < 7) (h : signS s = signS t) : s = t := by
  rcases sign_cases hs with rfl | rfl | rfl | rfl | rfl | rfl | rfl <;> rcases sign_cases ht with rfl | rfl | rfl | rfl | rfl | rfl | rfl <;> first | rfl | exact absurd h (by decide +kernel)
theorem signS_not {s : Nat} (hs : s < 7) : ¬ signS s = "number" ∧ ¬ signS s = "variable" ∧ ¬ signS s = "long" ∧ ¬ signS s = "view" ∧ ¬ signS s = "pick" := by
  rcases sign_cases hs with rfl | rfl | rfl | rfl | rfl | rfl | rfl <;> decide +kernel
theorem eqX_true {ns ps : List Str} : ∀ (d : Nat) (a b : Ex), ExIn ns ps d a → ExIn ns ps d b → eqX a b = true → a = b
  | 0, _, _, h, _, _ => h.elim
  | d + 1, a, b, ha, hb, h => by
    obtain ⟨h1, h2⟩ := eqX_head h
    have two : ∀ {x y x' y' : Ex}, PyData.eqvAll [exD x, exD y] [exD x', exD y'] = true → eqX x x' = true ∧ eqX y y' = true := fun {x y x' y'} z => by
      simp only [PyData.eqvAll, Bool.and_true, Bool.and_eq_true] at z
      exact z
    cases a with
    | num n =>
      cases b with
      | num m =>
        have : n = m := by simpa [restD, PyData.eqvAll, PyData.eqv] using h2
        rw [this]
      | var x => exact absurd h1 (by simp only [headS]; decide +kernel)
      | long => exact absurd h1 (by simp only [headS]; decide +kernel)
      | view e => exact absurd h1 (by simp only [headS]; decide +kernel)
      | pick x e f => exact absurd h1 (by simp only [headS]; decide +kernel)
      | op s e f => exact absurd h1.symm (signS_not hb.1).1
    | var x =>
      cases b with
      | num m => exact absurd h1 (by simp only [headS]; decide +kernel)
      | var y =>
        have : x = y := by simpa [restD, PyData.eqvAll, PyData.eqv] using h2
        rw [this]
      | long => exact absurd h1 (by simp only [headS]; decide +kernel)
      | view e => exact absurd h1 (by simp only [headS]; decide +kernel)
      | pick x e f => exact absurd h1 (by simp only [headS]; decide +kernel)
      | op s e f => exact absurd h1.symm (signS_not hb.1).2.1
    | long =>
      cases b with
      | num m => exact absurd h1 (by simp only [headS]; decide +kernel)
      | var y => exact absurd h1 (by simp only [headS]; decide +kernel)
      | long => rfl
      | view e => exact absurd h1 (by simp only [headS]; decide +kernel)
      | pick x e f => exact absurd h1 (by simp only [headS]; decide +kernel)
      | op s e f => exact absurd h1.symm (signS_not hb.1).2.2.1
    | view e =>
      cases b with
      | num m => exact absurd h1 (by simp only [headS]; decide +kernel)
      | var y => exact absurd h1 (by simp only [headS]; decide +kernel)
      | long => exact absurd h1 (by simp only [headS]; decide +kernel)
      | view f =>
        have : eqX e f = true := by
          have z := h2
          simp only [restD, PyData.eqvAll, Bool.and_true] at z
          exact z
        rw [eqX_true d e f ha hb this]
      | pick x e f => exact absurd h1 (by simp only [headS]; decide +kernel)
      | op s e f => exact absurd h1.symm (signS_not hb.1).2.2.2.1
    | pick x e f =>
      cases b with
      | num m => exact absurd h1 (by simp only [headS]; decide +kernel)
      | var y => exact absurd h1 (by simp only [headS]; decide +kernel)
      | long => exact absurd h1 (by simp only [headS]; decide +kernel)
      | view f => exact absurd h1 (by simp only [headS]; decide +kernel)
      | pick y e' f' =>
        have z := h2
        simp only [restD, PyData.eqvAll, Bool.and_true, Bool.and_eq_true] at z
        have hx : x = y := by simpa [PyData.eqv] using z.1
        rw [hx, eqX_true d e e' ha.2.1 hb.2.1 z.2.1, eqX_true d f f' ha.2.2 hb.2.2 z.2.2]
      | op s e f => exact absurd h1.symm (signS_not hb.1).2.2.2.2
    | op s e f =>
      cases b with
      | num m => exact absurd h1 (signS_not ha.1).1
      | var y => exact absurd h1 (signS_not ha.1).2.1
      | long => exact absurd h1 (signS_not ha.1).2.2.1
      | view f => exact absurd h1 (signS_not ha.1).2.2.2.1
      | pick y e' f' => exact absurd h1 (signS_not ha.1).2.2.2.2
      | op t e' f' =>
        obtain ⟨z1, z2⟩ := two h2
        rw [signS_inj ha.1 hb.1 h1, eqX_true d e e' ha.2.1 hb.2.1 z1, eqX_true d f f' ha.2.2 hb.2.2 z2]
/-! shaped -/
theorem sign_strOk {s : Nat} : PyData.strOk (signS s) = true := by
  by_cases h : s < 7
  · rcases sign_cases h with rfl | rfl | rfl | rfl | rfl | rfl | rfl <;> decide +kernel
  · have : signS s = "+" := by
      unfold signS
      rw [List.getD_eq_getElem?_getD, List.getElem?_eq_none (by show 7 ≤ s; omega)]
      rfl
    rw [this]
    decide +kernel
theorem exD_lay {ns ps : List Str} (hn : ∀ x ∈ ns, PyData.strOk x = true) (hp : ∀ x ∈ ps, PyData.strOk x = true) : ∀ (d : Nat) (e : Ex), ExIn ns ps d e → PyData.canLay0 (exD e) = true ∧ PyData.depth (exD e) ≤ d
  | 0, _, h => h.elim
  | d + 1, .num n, _ => by
    refine ⟨?_, ?_⟩
    · show PyData.canLay0 (.tuple [.str "number", .int n]) = true
      simp only [PyData.canLay0, PyData.canLayAll0, Bool.and_true]
      decide +kernel
    · show PyData.depth (.tuple [.str "number", .int n]) ≤ d + 1
      simp [PyData.depth, PyData.depthAll]
  | d + 1, .var x, h => by
    refine ⟨?_, ?_⟩
    · show PyData.canLay0 (.tuple [.str "variable", .str x]) = true
      simp only [PyData.canLay0, PyData.canLayAll0, Bool.and_true, hn x h]
      decide +kernel
    · show PyData.depth (.tuple [.str "variable", .str x]) ≤ d + 1
      simp [PyData.depth, PyData.depthAll]
  | d + 1, .long, _ => by
    refine ⟨by decide +kernel, ?_⟩
    show PyData.depth (.tuple [.str "long"]) ≤ d + 1
    simp [PyData.depth, PyData.depthAll]
  | d + 1, .view e, h => by
    obtain ⟨h1, h2⟩ := exD_lay hn hp d e h
    refine ⟨?_, ?_⟩
    · show PyData.canLay0 (.tuple [.str "view", exD e]) = true
      simp only [PyData.canLay0, PyData.canLayAll0, Bool.and_true, h1]
      decide +kernel
    · show PyData.depth (.tuple [.str "view", exD e]) ≤ d + 1
      simp [PyData.depth, PyData.depthAll]
      omega
  | d + 1, .pick x a b, h => by
    obtain ⟨h1, h2⟩ := exD_lay hn hp d a h.2.1
    obtain ⟨h3, h4⟩ := exD_lay hn hp d b h.2.2
    refine ⟨?_, ?_⟩
    · show PyData.canLay0 (.tuple [.str "pick", .str x, exD a, exD b]) = true
      simp only [PyData.canLay0, PyData.canLayAll0, Bool.and_true, h1, h3, hp x h.1]
      decide +kernel
    · show PyData.depth (.tuple [.str "pick", .str x, exD a, exD b]) ≤ d + 1
      simp [PyData.depth, PyData.depthAll]
      omega
  | d + 1, .op s a b, h => by
    obtain ⟨h1, h2⟩ := exD_lay hn hp d a h.2.1
    obtain ⟨h3, h4⟩ := exD_lay hn hp d b h.2.2
    refine ⟨?_, ?_⟩
    · show PyData.canLay0 (.tuple [.str (signS s), exD a, exD b]) = true
      simp only [PyData.canLay0, PyData.canLayAll0, Bool.and_true, h1, h3, sign_strOk]
    · show PyData.depth (.tuple [.str (signS s), exD a, exD b]) ≤ d + 1
      simp [PyData.depth, PyData.depthAll]
      omega
theorem exD_shaped {ns ps : List Str} (hn : ∀ x ∈ ns, PyData.strOk x = true) (hp : ∀ x ∈ ps, PyData.strOk x = true) {d : Nat} {e : Ex} (h : ExIn ns ps d e) (hd : d ≤ 60) : SeqAt.shaped (exD e) = true := by
  obtain ⟨h1, h2⟩ := exD_lay hn hp d e h
  unfold SeqAt.shaped
  rw [h1, decide_eq_true (by omega)]
  rfl
theorem exD_small : ∀ e : Ex, small (exD e) = true
  | .num n => rfl
  | .var x => rfl
  | .long => rfl
  | .view e => by
    show (true && (true && (small (exD e) && true))) = true
    rw [exD_small e]
    rfl
  | .pick x a b => by
    show (true && (true && (true && (small (exD a) && (small (exD b) && true))))) = true
    rw [exD_small a, exD_small b]
    rfl
  | .op s a b => by
    show (true && (true && (small (exD a) && (small (exD b) && true)))) = true
    rw [exD_small a, exD_small b]
    rfl
theorem exD_deep {ns ps : List Str} : ∀ (d : Nat) (e : Ex), ExIn ns ps d e → dDeep (exD e) ≤ d
  | 0, _, h => h.elim
  | d + 1, .num n, _ => by
    show dDeepAll [.str "number", .int n] + 1 ≤ d + 1
    simp [dDeepAll, dDeep]
  | d + 1, .var x, _ => by
    show dDeepAll [.str "variable", .str x] + 1 ≤ d + 1
    simp [dDeepAll, dDeep]
  | d + 1, .long, _ => by
    show dDeepAll [.str "long"] + 1 ≤ d + 1
    simp [dDeepAll, dDeep]
  | d + 1, .view e, h => by
    have := exD_deep d e h
    show dDeepAll [.str "view", exD e] + 1 ≤ d + 1
    simp [dDeepAll, dDeep]
    exact this
  | d + 1, .pick x a b, h => by
    have := exD_deep d a h.2.1
    have := exD_deep d b h.2.2
    show dDeepAll [.str "pick", .str x, exD a, exD b] + 1 ≤ d + 1
    simp [dDeepAll, dDeep]
    omega
  | d + 1, .op s a b, h => by
    have := exD_deep d a h.2.1
    have := exD_deep d b h.2.2
    show dDeepAll [.str (signS s), exD a, exD b] + 1 ≤ d + 1
    simp [dDeepAll, dDeep]
    omega
theorem go_eqX {K : PySem.W.Frag} {H : Hp} {Q : VK} {x y : V} {a b : Ex} (h1 : Dp K H x (exD a)) (h2 : Dp K H y (exD b)) (s1 : SeqAt.shaped (exD a) = true) (s2 : SeqAt.shaped (exD b) = true) (q : Q (.bl (eqX a b)) H) : rEqD K x y H Q :=
  ⟨_, _, h1, h2, s1, s2, q⟩
/-! folding -/
def isNum : Ex → Bool
  | .num _ => true
  | _ => false
def numVal : Ex → Int
  | .num n => n
  | _ => 0
def foldP (s : Nat) (a b : Ex) : Ex :=
  if (isNum a && isNum b) = true then .num (comb s (numVal a) (numVal b))
  else if (eqX a b && decide (s = 1 ∨ s = 4 ∨ s = 5)) = true then .num 0
  else if (eqX a b && decide (s = 6)) = true then .num 1
  else if (eqX a (.num 0) && decide (s = 1 ∨ s = 2 ∨ s = 3 ∨ s = 4)) = true then .num 0
  else if (eqX b (.num 0) && decide (s = 2 ∨ s = 3 ∨ s = 4 ∨ s = 5)) = true then .num 0
  else if (eqX b (.num 1) && decide (s = 4)) = true then .num 0
  else if ((eqX a (.num 0) && decide (s = 0)) || (eqX a (.num 1) && decide (s = 2))) = true then b
  else if ((eqX b (.num 0) && decide (s = 0 ∨ s = 1)) || (eqX b (.num 1) && decide (s = 2 ∨ s = 3))) = true then a
  else .op s a b
def foldE (on : Str → Bool) : Ex → Ex
  | .pick x a b => if on x = true then foldE on a else foldE on b
  | .view e => .view (foldE on e)
  | .op s a b => foldP s (foldE on a) (foldE on b)
  | e => e
/-- what foldP may be -/
theorem foldP_is (s : Nat) (a b : Ex) : (∃ n, foldP s a b = .num n ∧ (n = 0 ∨ n = 1 ∨ (isNum a = true ∧ isNum b = true ∧ n = comb s (numVal a) (numVal b)))) ∨ foldP s a b = a ∨ foldP s a b = b ∨ foldP s a b = .op s a b := by
  unfold foldP
  repeat' split
  · rename_i h
    rw [Bool.and_eq_true] at h
    exact .inl ⟨_, rfl, .inr (.inr ⟨h.1, h.2, rfl⟩)⟩
  · exact .inl ⟨_, rfl, .inl rfl⟩
  · exact .inl ⟨_, rfl, .inr (.inl rfl)⟩
  · exact .inl ⟨_, rfl, .inl rfl⟩
  · exact .inl ⟨_, rfl, .inl rfl⟩
  · exact .inl ⟨_, rfl, .inl rfl⟩
  · exact .inr (.inr (.inl rfl))
  · exact .inr (.inl rfl)
  · exact .inr (.inr (.inr rfl))
theorem numVal_in {ns ps : List Str} {d : Nat} {a : Ex} (h : ExIn ns ps d a) : 0 ≤ numVal a ∧ numVal a < 65536 := by
  cases d with
  | zero => exact h.elim
  | succ d =>
    cases a with
    | num n => exact h
    | _ => exact ⟨Int.le_refl 0, by show (0 : Int) < 65536; decide⟩
theorem foldP_in {ns ps : List Str} {d s : Nat} {a b : Ex} (hs : s < 7) (ha : ExIn ns ps d a) (hb : ExIn ns ps d b) : ExIn ns ps (d + 1) (foldP s a b) := by
  rcases foldP_is s a b with ⟨n, e, h⟩ | e | e | e
  · rw [e]
    show 0 ≤ n ∧ n < 65536
    rcases h with rfl | rfl | ⟨_, _, rfl⟩
    · decide
    · decide
    · exact comb_in (numVal_in ha) (numVal_in hb)
  · rw [e]; exact ha.up
  · rw [e]; exact hb.up
  · rw [e]; exact ⟨hs, ha, hb⟩
theorem foldE_in {ns ps : List Str} {on : Str → Bool} : ∀ (d : Nat) (e : Ex), ExIn ns ps d e → ExIn ns ps d (foldE on e)
  | 0, _, h => h.elim
  | d + 1, .num n, h => h
  | d + 1, .var x, h => h
  | d + 1, .long, h => h
  | d + 1, .view e, h => foldE_in d e h
  | d + 1, .pick x a b, h => by
    show ExIn ns ps (d + 1) (if on x = true then foldE on a else foldE on b)
    split
    · exact (foldE_in d a h.2.1).up
    · exact (foldE_in d b h.2.2).up
  | d + 1, .op s a b, h => foldP_in h.1 (foldE_in d a h.2.1) (foldE_in d b h.2.2)
theorem comb_same (s : Nat) (x : Int) (h0 : 0 ≤ x) : ((s = 1 ∨ s = 4 ∨ s = 5) → comb s x x = 0) ∧ (s = 6 → comb s x x = 1) := by
  refine ⟨?_, ?_⟩
  · rintro (rfl | rfl | rfl)
    · show (if x - x > 0 then x - x else 0) = 0
      rw [if_neg (by omega)]
    · show (if x > 0 then x % x else 0) = 0
      split
      · exact Int.emod_self
      · rfl
    · show (if x < x then (1 : Int) else 0) = 0
      rw [if_neg (by omega)]
  · rintro rfl
    show (if x = x then (1 : Int) else 0) = 1
    rw [if_pos rfl]
theorem foldP_eval {tab : Str → Int} {on : Str → Bool} {seen : List Int} {ns ps : List Str} (ht : ∀ x ∈ ns, 0 ≤ tab x ∧ tab x < 65536) (hsn : ∀ n ∈ seen, 0 ≤ n ∧ n < 65536) {d s : Nat} {a b : Ex} (hs : s < 7) (ha : ExIn ns ps d a) (hb : ExIn ns ps d b) :
    evalE tab on seen (foldP s a b) = comb s (evalE tab on seen a) (evalE tab on seen b) := by
  have ba := evalE_in (on := on) ht hsn d a ha
  have bb := evalE_in (on := on) ht hsn d b hb
  have d0 : 0 < d := by
    cases d with
    | zero => exact ha.elim
    | succ d => omega
  have z : ∀ n : Int, 0 ≤ n → n < 65536 → ExIn ns ps d (.num n) := fun n h0 h1 => by
    cases d with
    | zero => omega
    | succ d => exact ⟨h0, h1⟩
  have k0 := fun (e : Ex) (he : ExIn ns ps d e) (h : eqX e (.num 0) = true) => eqX_true d e _ he (z 0 (by decide) (by decide)) h
  have k1 := fun (e : Ex) (he : ExIn ns ps d e) (h : eqX e (.num 1) = true) => eqX_true d e _ he (z 1 (by decide) (by decide)) h
  unfold foldP
  repeat' split
  · rename_i h
    rw [Bool.and_eq_true] at h
    cases a with
    | num n =>
      cases b with
      | num m => rfl
      | _ => exact absurd h.2 Bool.false_ne_true
    | _ => exact absurd h.1 Bool.false_ne_true
  · rename_i h
    rw [Bool.and_eq_true, decide_eq_true_eq] at h
    rw [eqX_true d a b ha hb h.1, (comb_same s _ bb.1).1 h.2]
    rfl
  · rename_i h
    rw [Bool.and_eq_true, decide_eq_true_eq] at h
    rw [eqX_true d a b ha hb h.1, (comb_same s _ bb.1).2 h.2]
    rfl
  · rename_i h
    rw [Bool.and_eq_true, decide_eq_true_eq] at h
    rw [k0 a ha h.1]
    generalize evalE tab on seen b = y at *
    show 0 = comb s 0 y
    rcases h.2 with rfl | rfl | rfl | rfl
    · show 0 = if 0 - y > 0 then 0 - y else 0
      rw [if_neg (by omega)]
    · show 0 = 0 * y % 65536
      rw [Int.zero_mul]
      rfl
    · show 0 = if y > 0 then 0 / y else 0
      rw [Int.zero_ediv]
      split <;> rfl
    · show 0 = if y > 0 then 0 % y else 0
      rw [Int.zero_emod]
      split <;> rfl
  · rename_i h
    rw [Bool.and_eq_true, decide_eq_true_eq] at h
    rw [k0 b hb h.1]
    generalize evalE tab on seen a = y at *
    show 0 = comb s y 0
    rcases h.2 with rfl | rfl | rfl | rfl
    · show 0 = y * 0 % 65536
      rw [Int.mul_zero]
      rfl
    · rfl
    · rfl
    · show 0 = if y < 0 then (1 : Int) else 0
      rw [if_neg (by omega)]
  · rename_i h
    rw [Bool.and_eq_true, decide_eq_true_eq] at h
    rw [k1 b hb h.1, h.2]
    generalize evalE tab on seen a = y at *
    show 0 = if (1 : Int) > 0 then y % 1 else 0
    rw [if_pos (by decide), Int.emod_one]
  · rename_i h
    rw [Bool.or_eq_true, Bool.and_eq_true, Bool.and_eq_true, decide_eq_true_eq, decide_eq_true_eq] at h
    rcases h with ⟨h, rfl⟩ | ⟨h, rfl⟩
    · rw [k0 a ha h]
      show _ = (0 + _) % 65536
      omega
    · rw [k1 a ha h]
      show _ = 1 * _ % 65536
      omega
  · rename_i h
    rw [Bool.or_eq_true, Bool.and_eq_true, Bool.and_eq_true, decide_eq_true_eq, decide_eq_true_eq] at h
    rcases h with ⟨h, rfl | rfl⟩ | ⟨h, rfl | rfl⟩
    · rw [k0 b hb h]
      show _ = (_ + 0) % 65536
      omega
    · rw [k0 b hb h]
      show _ = if evalE tab on seen a - 0 > 0 then evalE tab on seen a - 0 else 0
      split <;> omega
    · rw [k1 b hb h]
      show _ = _ * 1 % 65536
      omega
    · rw [k1 b hb h]
      show _ = if (1 : Int) > 0 then evalE tab on seen a / 1 else 0
      rw [if_pos (by decide), Int.ediv_one]
  · rfl
theorem foldE_eval {tab : Str → Int} {on : Str → Bool} {seen : List Int} {ns ps : List Str} (ht : ∀ x ∈ ns, 0 ≤ tab x ∧ tab x < 65536) (hsn : ∀ n ∈ seen, 0 ≤ n ∧ n < 65536) : ∀ (d : Nat) (e : Ex), ExIn ns ps d e → evalE tab on seen (foldE on e) = evalE tab on seen e
  | 0, _, h => h.elim
  | d + 1, .num n, h => rfl
  | d + 1, .var x, h => rfl
  | d + 1, .long, h => rfl
  | d + 1, .view e, h => by
    have := foldE_eval (on := on) ht hsn d e h
    show evalE tab on seen (.view (foldE on e)) = _
    unfold evalE
    rw [this]
  | d + 1, .pick x a b, h => by
    have h1 := foldE_eval (on := on) ht hsn d a h.2.1
    have h2 := foldE_eval (on := on) ht hsn d b h.2.2
    show evalE tab on seen (if on x = true then foldE on a else foldE on b) = if on x = true then evalE tab on seen a else evalE tab on seen b
    split
    · exact h1
    · exact h2
  | d + 1, .op s a b, h => by
    have h1 := foldE_eval (on := on) ht hsn d a h.2.1
    have h2 := foldE_eval (on := on) ht hsn d b h.2.2
    show evalE tab on seen (foldP s (foldE on a) (foldE on b)) = comb s (evalE tab on seen a) (evalE tab on seen b)
    rw [foldP_eval ht hsn h.1 (foldE_in d a h.2.1) (foldE_in d b h.2.2), h1, h2]
/-- folded already -/
def Nf : Ex → Prop
  | .pick _ _ _ => False
  | .view e => Nf e
  | .op s a b => Nf a ∧ Nf b ∧ foldP s a b = .op s a b
  | _ => True
theorem foldP_nf {s : Nat} {a b : Ex} (ha : Nf a) (hb : Nf b) : Nf (foldP s a b) := by
  rcases foldP_is s a b with ⟨n, e, h⟩ | e | e | e
  · rw [e]; trivial
  · rw [e]; exact ha
  · rw [e]; exact hb
  · have e2 := e
    rw [e]
    exact ⟨ha, hb, e2⟩
theorem foldE_nf {on : Str → Bool} : ∀ e : Ex, Nf (foldE on e)
  | .num n => trivial
  | .var x => trivial
  | .long => trivial
  | .view e => foldE_nf e
  | .pick x a b => by
    show Nf (if on x = true then foldE on a else foldE on b)
    split
    · exact foldE_nf a
    · exact foldE_nf b
  | .op s a b => foldP_nf (foldE_nf a) (foldE_nf b)
theorem nf_fold {on : Str → Bool} : ∀ e : Ex, Nf e → foldE on e = e
  | .num n, _ => rfl
  | .var x, _ => rfl
  | .long, _ => rfl
  | .view e, h => by
    show Ex.view (foldE on e) = .view e
    rw [nf_fold e h]
  | .pick x a b, h => h.elim
  | .op s a b, h => by
    show foldP s (foldE on a) (foldE on b) = _
    rw [nf_fold a h.1, nf_fold b h.2.1]
    exact h.2.2
theorem fold_twice {on : Str → Bool} (e : Ex) : foldE on (foldE on e) = foldE on e := nf_fold _ (foldE_nf e)
end Gx

set_option Elab.async false
set_option linter.all false
set_option maxRecDepth 100000
set_option maxHeartbeats 4000000
/-! Own lemmas: statements and blocks of statements, folded; list.extend of a tuple; tuple + tuple. -/
namespace Gx
open PySem PySem.Spec PyProof.Rows L2
theorem extend_tup (l : Addr) (items : Array Value) (n : Nat) (b : Addr) (items2 : Array Value) (n2 : Nat) (dd : Option Addr) (sl : Array (Option Value)) (hlong : ¬ (!items.isEmpty && Builtin.List.listTooLong (items.size + items2.size)) = true)
    (hs1 : items.size ≤ sizeLine) (hs2 : items.size + items2.size ≤ sizeLine + 1) :
    Meets (Builtin.«list.extend» ⟨[.ref l, .ref b], []⟩) (fun _ R s => s.heap.get? l = some { cls := .type "list", dict := none, data := .seq items n, slots := #[] } ∧ s.heap.get? b = some { cls := .type "tuple", dict := dd, data := .seq items2 n2, slots := sl } ∧
      R (.ok (.ret Value.none)) { s with heap := s.heap.update l (Obj.mapSeq fun x => x ++ items2), toks := s.toks }) :=
  .of_wp fun prog w A R s h => by
    obtain ⟨hp, g, d, tk, os⟩ := s
    obtain ⟨hl, hb, h⟩ := h
    have f1 := AutoSeq1.idx_int
    have f2 := AutoSeq1.sub_tuple_tuple
    have f3 := AutoSeq1.sub_list_list
    have f4 := AutoSeq1.sub_tuple_list
    have f5 := AutoSeq1.sub_list_tuple
    have hz' : (items ++ items2).size ≤ sizeLine + 1 := by rw [Array.size_append]; exact hs2
    wp_walk using (wpAny_updateSeq hl rfl (hz := hs1) (_hz' := hz')), AutoSeq1.wpAny_loadPart' hl, AutoSeq1.wpAny_loadPart' hb
    exact ⟨_, rfl, h⟩
section
variable {X : Cx}
def rExtendT (K : PySem.W.Frag) : V → List V → Hp → VK → Prop := fun x vs H Q => ∃ l b xs zs, x = .ref l ∧ vs = [.ref b] ∧ H l = some (.lst xs) ∧ SqT K H b zs ∧ xs.length + zs.length ≤ 100000 ∧ Q .non (upd H l (.lst (xs ++ zs)))
theorem mt_extendT : MtM X "list.extend" (rExtendT X.K) := by
  intro pins s σ H x vs v us Q I rx rv h
  obtain ⟨l, b, xs, zs, rfl, rfl, hH, hB, hz, q⟩ := h
  cases rx
  obtain ⟨u, rfl, ru⟩ := rv.one
  cases ru
  obtain ⟨z, its, n, r, hl, e⟩ := I.lstM hH
  obtain ⟨its2, r2, p2, z2⟩ := I.tuple hB
  obtain ⟨⟨cls, dd, data, sl⟩, ho, hc, n2, hd⟩ := id p2
  simp only at hc hd
  subst hc hd
  have hl2 := r2.length
  have line : (100000 : Nat) ≤ sizeLine := by rw [sizeLine_eq]; decide
  have hsz : its.toArray.size + its2.toArray.size ≤ sizeLine := by rw [List.size_toArray, List.size_toArray]; omega
  have hlong : ¬ (!its.toArray.isEmpty && Builtin.List.listTooLong (its.toArray.size + its2.toArray.size)) = true := by
    rw [notLongL hsz, Bool.and_false]
    exact Bool.false_ne_true
  refine call_meets F.slot_list_extend ⟨_, e, rfl⟩ F.entry_list_extend (F.args_list_extend_2 _ _)
    (extend_tup l its.toArray n b its2.toArray n2 dd sl hlong (by rw [List.size_toArray]; omega) (by omega)) ⟨e, ho, ?_⟩
  refine ⟨.non, _, I.lset (its' := its ++ its2) hH e (by simp) (r.append r2) ?_, rfl, q⟩
  rw [List.length_append]
  omega
theorem mt_extendTK {K : PySem.W.Frag} (hK : X.K = K) : MtM X "list.extend" (rExtendT K) := by subst hK; exact mt_extendT
end
section
variable {K : PySem.W.Frag} {H : Hp} {Q : VK}
theorem go_extendT {l b : Addr} {xs zs : List V} (e : H l = some (.lst xs)) (hb : SqT K H b zs) (hz : xs.length + zs.length ≤ 100000) (h : Q .non (upd H l (.lst (xs ++ zs)))) : rExtendT K (.ref l) [.ref b] H Q := ⟨l, b, xs, zs, rfl, rfl, e, hb, hz, h⟩
theorem go_catAny {a b : Addr} {xs ys : List V} (h1 : SqT K H a xs) (h2 : SqT K H b ys) (hz : xs.length + ys.length ≤ 100000)
    (q : ∀ p H', Same H H' → SqT K H' p (xs ++ ys) → Q (.ref p) H') : rCatA K (.ref a) (.ref b) H Q := by
  refine ⟨a, b, xs, ys, rfl, rfl, h1, h2, Nat.le_trans hz (by rw [sizeLine_eq]; decide), fun e => ?_, fun _ e => ?_, fun _ _ p hp => ?_⟩
  · subst e
    exact q b H (Same.refl _) h2
  · subst e
    rw [List.append_nil] at q
    exact q a H (Same.refl _) h1
  · exact q p _ (fun c o hc => by rw [upd_ne (ne_of_none hc hp)]; exact hc) (.inl (.inl upd_same))
end
theorem dpAll_cat {K : PySem.W.Frag} {H : Hp} : ∀ {xs ys : List V} {ds es : List PyData}, DpAll K H xs ds → DpAll K H ys es → DpAll K H (xs ++ ys) (ds ++ es)
  | _, _, _, _, .nil, h => h
  | _, _, _, _, .cons h1 h2, h => .cons h1 (dpAll_cat h2 h)
/-! statements -/
inductive Stm where
  | set (x : Str) (e : Ex)
  | shw (i : Int) (e : Ex)
  | pay (k : Bool) (e : Ex)
  | drw (x : Str) (i : Int)
  | mov (a : Int) (x : Str) (b c : Int)
  | whn (x : Str) (a b : List Stm)
  | iff (t : Ex) (a b : List Stm)
def payS (k : Bool) : Str := if k = true then "take" else "pay"
mutual
def stD : Stm → PyData
  | .set x e => .tuple [.str "set", .str x, exD e]
  | .shw i e => .tuple [.str "show", .int i, exD e]
  | .pay k e => .tuple [.str (payS k), exD e]
  | .drw x i => .tuple [.str "draw", .str x, .int i]
  | .mov a x b c => .tuple [.str "move", .int a, .str x, .int b, .int c]
  | .whn x a b => .tuple [.str "when", .str x, .tuple (stDs a), .tuple (stDs b)]
  | .iff t a b => .tuple [.str "if", exD t, .tuple (stDs a), .tuple (stDs b)]
def stDs : List Stm → List PyData
  | [] => []
  | s :: r => stD s :: stDs r
end
theorem stDs_len : ∀ l : List Stm, (stDs l).length = l.length
  | [] => rfl
  | s :: r => by
    show (stDs r).length + 1 = _
    rw [stDs_len r]
    rfl
theorem stDs_cat : ∀ a b : List Stm, stDs (a ++ b) = stDs a ++ stDs b
  | [], b => rfl
  | s :: r, b => by
    show stD s :: stDs (r ++ b) = _
    rw [stDs_cat r b]
    rfl
theorem stDs_at : ∀ {l : List Stm} {i : Nat} {s : Stm}, l[i]? = some s → (stDs l)[i]? = some (stD s)
  | [], _, _, h => nomatch h
  | t :: r, 0, s, h => by cases h; rfl
  | t :: r, i + 1, s, h => stDs_at (l := r) (i := i) h
mutual
def cnt : Stm → Nat
  | .whn _ a b => max 1 (max (cnts a) (cnts b))
  | .iff _ a b => max 1 (max (cnts a) (cnts b))
  | .set _ _ => 1
  | .shw _ _ => 1
  | .pay _ _ => 1
  | .drw _ _ => 1
  | .mov _ _ _ _ => 1
def cnts : List Stm → Nat
  | [] => 0
  | s :: r => cnt s + cnts r
end
theorem cnt_pos : ∀ s : Stm, 1 ≤ cnt s
  | .whn _ a b => Nat.le_max_left _ _
  | .iff _ a b => Nat.le_max_left _ _
  | .set _ _ => Nat.le_refl _
  | .shw _ _ => Nat.le_refl _
  | .pay _ _ => Nat.le_refl _
  | .drw _ _ => Nat.le_refl _
  | .mov _ _ _ _ => Nat.le_refl _
theorem len_cnts : ∀ l : List Stm, l.length ≤ cnts l
  | [] => Nat.le_refl _
  | s :: r => by
    have := cnt_pos s
    have := len_cnts r
    show r.length + 1 ≤ cnt s + cnts r
    omega
theorem cnts_cat : ∀ a b : List Stm, cnts (a ++ b) = cnts a + cnts b
  | [], b => (Nat.zero_add _).symm
  | s :: r, b => by
    show cnt s + cnts (r ++ b) = cnt s + cnts r + cnts b
    rw [cnts_cat r b, Nat.add_assoc]
theorem cnt_mem : ∀ {l : List Stm} {s : Stm}, s ∈ l → cnt s ≤ cnts l
  | [], _, h => nomatch h
  | t :: r, s, h => by
    show cnt s ≤ cnt t + cnts r
    rcases List.mem_cons.mp h with rfl | h
    · omega
    · have := cnt_mem h
      omega
def StIn (ns ps : List Str) : Nat → Stm → Prop
  | 0, _ => False
  | _ + 1, .set x e => x ∈ ns ∧ ExIn ns ps 4 e
  | _ + 1, .shw _ e => ExIn ns ps 4 e
  | _ + 1, .pay _ e => ExIn ns ps 4 e
  | _ + 1, .drw x _ => x ∈ ns
  | _ + 1, .mov _ x _ _ => x ∈ ns
  | d + 1, .whn x a b => 0 < d ∧ x ∈ ps ∧ (∀ s ∈ a, StIn ns ps d s) ∧ ∀ s ∈ b, StIn ns ps d s
  | d + 1, .iff t a b => 0 < d ∧ ExIn ns ps 4 t ∧ (∀ s ∈ a, StIn ns ps d s) ∧ ∀ s ∈ b, StIn ns ps d s
theorem StIn.up {ns ps : List Str} : ∀ {d : Nat} {s : Stm}, StIn ns ps d s → StIn ns ps (d + 1) s
  | 0, _, h => h.elim
  | _ + 1, .set _ _, h => h
  | _ + 1, .shw _ _, h => h
  | _ + 1, .pay _ _, h => h
  | _ + 1, .drw _ _, h => h
  | _ + 1, .mov _ _ _ _, h => h
  | d + 1, .whn x a b, h => ⟨Nat.succ_pos d, h.2.1, fun s hs => StIn.up (d := d) (h.2.2.1 s hs), fun s hs => StIn.up (d := d) (h.2.2.2 s hs)⟩
  | d + 1, .iff t a b, h => ⟨Nat.succ_pos d, h.2.1, fun s hs => StIn.up (d := d) (h.2.2.1 s hs), fun s hs => StIn.up (d := d) (h.2.2.2 s hs)⟩
/-! plain data: equal means the same -/
mutual
def plainD : PyData → Bool
  | .int _ => true
  | .str _ => true
  | .tuple ds => plainDs ds
  | _ => false
def plainDs : List PyData → Bool
  | [] => true
  | d :: r => plainD d && plainDs r
end
mutual
theorem eqv_same : ∀ a b : PyData, plainD a = true → plainD b = true → PyData.eqv a b = true → a = b
  | .int i, .int j, _, _, h => by
    have : i = j := by simpa [PyData.eqv] using h
    rw [this]
  | .str i, .str j, _, _, h => by
    have : i = j := by simpa [PyData.eqv] using h
    rw [this]
  | .tuple ds, .tuple es, h1, h2, h => by
    rw [eqvs_same ds es (by simpa [plainD] using h1) (by simpa [plainD] using h2) (by simpa [PyData.eqv] using h)]
  | .int _, .str _, _, _, h => by simp [PyData.eqv] at h
  | .int _, .tuple _, _, _, h => by simp [PyData.eqv] at h
  | .str _, .int _, _, _, h => by simp [PyData.eqv] at h
  | .str _, .tuple _, _, _, h => by simp [PyData.eqv] at h
  | .tuple _, .int _, _, _, h => by simp [PyData.eqv] at h
  | .tuple _, .str _, _, _, h => by simp [PyData.eqv] at h
  | .none, _, h, _, _ => by simp [plainD] at h
  | .bool _, _, h, _, _ => by simp [plainD] at h
  | .list _, _, h, _, _ => by simp [plainD] at h
  | .dict _, _, h, _, _ => by simp [plainD] at h
  | _, .none, _, h, _ => by simp [plainD] at h
  | _, .bool _, _, h, _ => by simp [plainD] at h
  | _, .list _, _, h, _ => by simp [plainD] at h
  | _, .dict _, _, h, _ => by simp [plainD] at h
theorem eqvs_same : ∀ a b : List PyData, plainDs a = true → plainDs b = true → PyData.eqvAll a b = true → a = b
  | [], [], _, _, _ => rfl
  | [], _ :: _, _, _, h => by simp [PyData.eqvAll] at h
  | _ :: _, [], _, _, h => by simp [PyData.eqvAll] at h
  | d :: r, e :: t, h1, h2, h => by
    have k1 : plainD d = true ∧ plainDs r = true := by simpa [plainDs] using h1
    have k2 : plainD e = true ∧ plainDs t = true := by simpa [plainDs] using h2
    have k : PyData.eqv d e = true ∧ PyData.eqvAll r t = true := by simpa [PyData.eqvAll] using h
    rw [eqv_same d e k1.1 k2.1 k.1, eqvs_same r t k1.2 k2.2 k.2]
end
theorem exD_plain : ∀ e : Ex, plainD (exD e) = true
  | .num n => rfl
  | .var x => rfl
  | .long => rfl
  | .view e => by
    have := exD_plain e
    simp [exD, plainD, plainDs, this]
  | .pick x a b => by
    have h1 := exD_plain a
    have h2 := exD_plain b
    simp [exD, plainD, plainDs, h1, h2]
  | .op s a b => by
    have h1 := exD_plain a
    have h2 := exD_plain b
    simp [exD, plainD, plainDs, h1, h2]
mutual
theorem stD_plain : ∀ s : Stm, plainD (stD s) = true
  | .set x e => by simp [stD, plainD, plainDs, exD_plain e]
  | .shw i e => by simp [stD, plainD, plainDs, exD_plain e]
  | .pay k e => by simp [stD, plainD, plainDs, exD_plain e]
  | .drw x i => by simp [stD, plainD, plainDs]
  | .mov a x b c => by simp [stD, plainD, plainDs]
  | .whn x a b => by
    have h1 := stDs_plain a
    have h2 := stDs_plain b
    simp [stD, plainD, plainDs, h1, h2]
  | .iff t a b => by
    have h1 := stDs_plain a
    have h2 := stDs_plain b
    simp [stD, plainD, plainDs, h1, h2, exD_plain t]
theorem stDs_plain : ∀ l : List Stm, plainDs (stDs l) = true
  | [] => rfl
  | s :: r => by
    have h1 := stD_plain s
    have h2 := stDs_plain r
    simp [stDs, plainDs, h1, h2]
end
mutual
theorem plain_noL : ∀ d : PyData, plainD d = true → noL d = true
  | .int _, _ => rfl
  | .str _, _ => rfl
  | .tuple ds, h => by
    have := plains_noL ds (by simpa [plainD] using h)
    simp [noL, this]
  | .none, h => by simp [plainD] at h
  | .bool _, h => by simp [plainD] at h
  | .list _, h => by simp [plainD] at h
  | .dict _, h => by simp [plainD] at h
theorem plains_noL : ∀ ds : List PyData, plainDs ds = true → noLAll ds = true
  | [], _ => rfl
  | d :: r, h => by
    have k : plainD d = true ∧ plainDs r = true := by simpa [plainDs] using h
    simp [noLAll, plain_noL d k.1, plains_noL r k.2]
end
def blD (l : List Stm) : PyData := .tuple (stDs l)
theorem blD_noL (l : List Stm) : noL (blD l) = true := plain_noL _ (by show plainDs (stDs l) = true; exact stDs_plain l)
def eqB (a b : List Stm) : Bool := PyData.eqv (blD a) (blD b)
theorem eqB_same {a b : List Stm} (h : eqB a b = true) : blD a = blD b := eqv_same _ _ (stDs_plain a) (stDs_plain b) h
/-! folding -/
def branchS (t : Ex) (A B : List Stm) : List Stm := if isNum t = true then (if eqX t (.num 0) = true then B else A) else if eqB A B = true then A else [.iff t A B]
mutual
def foldS (on : Str → Bool) : Stm → List Stm
  | .set x e => if eqX (foldE on e) (.var x) = true then [] else [.set x (foldE on e)]
  | .shw i e => [.shw i (foldE on e)]
  | .pay k e => if eqX (foldE on e) (.num 0) = true then [] else [.pay k (foldE on e)]
  | .whn x a b => if on x = true then foldB on a else foldB on b
  | .iff t a b => branchS (foldE on t) (foldB on a) (foldB on b)
  | .drw x i => [.drw x i]
  | .mov a x b c => [.mov a x b c]
def foldB (on : Str → Bool) : List Stm → List Stm
  | [] => []
  | s :: r => foldS on s ++ foldB on r
end
theorem foldB_cat {on : Str → Bool} : ∀ a b : List Stm, foldB on (a ++ b) = foldB on a ++ foldB on b
  | [], b => rfl
  | s :: r, b => by
    show foldS on s ++ foldB on (r ++ b) = foldS on s ++ foldB on r ++ foldB on b
    rw [foldB_cat r b, List.append_assoc]
theorem foldB_one {on : Str → Bool} (s : Stm) : foldB on [s] = foldS on s := List.append_nil _
theorem branchS_cnt (t : Ex) (A B : List Stm) : cnts (branchS t A B) ≤ max 1 (max (cnts A) (cnts B)) := by
  unfold branchS
  repeat' split
  · omega
  · omega
  · omega
  · show cnt (.iff t A B) + 0 ≤ _
    exact Nat.le_refl _
mutual
theorem foldS_cnt {on : Str → Bool} : ∀ s : Stm, cnts (foldS on s) ≤ cnt s
  | .set x e => by
    unfold foldS
    split
    · exact Nat.zero_le _
    · exact Nat.le_refl _
  | .shw i e => Nat.le_refl _
  | .pay k e => by
    unfold foldS
    split
    · exact Nat.zero_le _
    · exact Nat.le_refl _
  | .drw x i => Nat.le_refl _
  | .mov a x b c => Nat.le_refl _
  | .whn x a b => by
    have h1 := foldB_cnt (on := on) a
    have h2 := foldB_cnt (on := on) b
    show cnts (if on x = true then foldB on a else foldB on b) ≤ max 1 (max (cnts a) (cnts b))
    split <;> omega
  | .iff t a b => by
    have h1 := foldB_cnt (on := on) a
    have h2 := foldB_cnt (on := on) b
    have h3 := branchS_cnt (foldE on t) (foldB on a) (foldB on b)
    show cnts (branchS (foldE on t) (foldB on a) (foldB on b)) ≤ max 1 (max (cnts a) (cnts b))
    omega
theorem foldB_cnt {on : Str → Bool} : ∀ l : List Stm, cnts (foldB on l) ≤ cnts l
  | [] => Nat.le_refl _
  | s :: r => by
    have h1 := foldS_cnt (on := on) s
    have h2 := foldB_cnt (on := on) r
    show cnts (foldS on s ++ foldB on r) ≤ cnt s + cnts r
    rw [cnts_cat]
    omega
end
theorem foldB_mem {on : Str → Bool} : ∀ {l : List Stm} {r : Stm}, r ∈ foldB on l → ∃ s ∈ l, r ∈ foldS on s
  | [], _, h => nomatch h
  | s :: t, r, h => by
    rcases List.mem_append.mp h with h | h
    · exact ⟨s, List.mem_cons_self, h⟩
    · obtain ⟨u, h1, h2⟩ := foldB_mem h
      exact ⟨u, List.mem_cons_of_mem _ h1, h2⟩
theorem foldS_in {ns ps : List Str} {on : Str → Bool} : ∀ (d : Nat) (s : Stm), StIn ns ps d s → ∀ r ∈ foldS on s, StIn ns ps d r
  | 0, _, h, _, _ => h.elim
  | d + 1, .set x e, h, r, hr => by
    have hr2 : r ∈ (if eqX (foldE on e) (.var x) = true then [] else [Stm.set x (foldE on e)]) := hr
    split at hr2
    · exact nomatch hr2
    · rw [List.mem_singleton.mp hr2]
      exact ⟨h.1, foldE_in 4 e h.2⟩
  | d + 1, .shw i e, h, r, hr => by
    rw [List.mem_singleton.mp hr]
    exact foldE_in 4 e h
  | d + 1, .pay k e, h, r, hr => by
    have hr2 : r ∈ (if eqX (foldE on e) (.num 0) = true then [] else [Stm.pay k (foldE on e)]) := hr
    split at hr2
    · exact nomatch hr2
    · rw [List.mem_singleton.mp hr2]
      exact foldE_in 4 e h
  | d + 1, .drw x i, h, r, hr => by
    rw [List.mem_singleton.mp hr]
    exact h
  | d + 1, .mov a x b c, h, r, hr => by
    rw [List.mem_singleton.mp hr]
    exact h
  | d + 1, .whn x a b, h, r, hr => by
    have hr2 : r ∈ (if on x = true then foldB on a else foldB on b) := hr
    split at hr2
    · obtain ⟨s, h1, h2⟩ := foldB_mem hr2
      exact (foldS_in d s (h.2.2.1 s h1) r h2).up
    · obtain ⟨s, h1, h2⟩ := foldB_mem hr2
      exact (foldS_in d s (h.2.2.2 s h1) r h2).up
  | d + 1, .iff t a b, h, r, hr => by
    have ha : ∀ r ∈ foldB on a, StIn ns ps d r := fun r hr => by
      obtain ⟨s, h1, h2⟩ := foldB_mem hr
      exact foldS_in d s (h.2.2.1 s h1) r h2
    have hb : ∀ r ∈ foldB on b, StIn ns ps d r := fun r hr => by
      obtain ⟨s, h1, h2⟩ := foldB_mem hr
      exact foldS_in d s (h.2.2.2 s h1) r h2
    have hr2 : r ∈ branchS (foldE on t) (foldB on a) (foldB on b) := hr
    unfold branchS at hr2
    split at hr2
    · split at hr2
      · exact (hb r hr2).up
      · exact (ha r hr2).up
    · split at hr2
      · exact (ha r hr2).up
      · rw [List.mem_singleton.mp hr2]
        exact ⟨h.1, foldE_in 4 t h.2.1, ha, hb⟩
theorem foldB_in {ns ps : List Str} {on : Str → Bool} {d : Nat} {l : List Stm} (h : ∀ s ∈ l, StIn ns ps d s) : ∀ r ∈ foldB on l, StIn ns ps d r := fun r hr => by
  obtain ⟨s, h1, h2⟩ := foldB_mem hr
  exact foldS_in d s (h s h1) r h2
/-! folded already -/
mutual
def NfS : Stm → Prop
  | .set x e => Nf e ∧ eqX e (.var x) = false
  | .shw _ e => Nf e
  | .pay _ e => Nf e ∧ eqX e (.num 0) = false
  | .whn _ _ _ => False
  | .iff t a b => Nf t ∧ isNum t = false ∧ eqB a b = false ∧ NfB a ∧ NfB b
  | .drw _ _ => True
  | .mov _ _ _ _ => True
def NfB : List Stm → Prop
  | [] => True
  | s :: r => NfS s ∧ NfB r
end
theorem NfB_cat : ∀ {a b : List Stm}, NfB a → NfB b → NfB (a ++ b)
  | [], _, _, h => h
  | _ :: _, _, h1, h => ⟨h1.1, NfB_cat h1.2 h⟩
theorem bf {b : Bool} (h : ¬ b = true) : b = false := by simpa using h
theorem branchS_nf {t : Ex} {A B : List Stm} (ht : Nf t) (ha : NfB A) (hb : NfB B) : NfB (branchS t A B) := by
  unfold branchS
  split
  · split
    · exact hb
    · exact ha
  · rename_i h1
    split
    · exact ha
    · rename_i h2
      exact ⟨⟨ht, bf h1, bf h2, ha, hb⟩, trivial⟩
mutual
theorem foldS_nf {on : Str → Bool} : ∀ s : Stm, NfB (foldS on s)
  | .set x e => by
    unfold foldS
    split
    · trivial
    · rename_i h
      exact ⟨⟨foldE_nf e, bf h⟩, trivial⟩
  | .shw i e => ⟨foldE_nf e, trivial⟩
  | .pay k e => by
    unfold foldS
    split
    · trivial
    · rename_i h
      exact ⟨⟨foldE_nf e, bf h⟩, trivial⟩
  | .drw x i => ⟨trivial, trivial⟩
  | .mov a x b c => ⟨trivial, trivial⟩
  | .whn x a b => by
    have h1 := foldB_nf (on := on) a
    have h2 := foldB_nf (on := on) b
    show NfB (if on x = true then foldB on a else foldB on b)
    split
    · exact h1
    · exact h2
  | .iff t a b => branchS_nf (foldE_nf t) (foldB_nf a) (foldB_nf b)
theorem foldB_nf {on : Str → Bool} : ∀ l : List Stm, NfB (foldB on l)
  | [] => trivial
  | s :: r => NfB_cat (foldS_nf s) (foldB_nf r)
end
mutual
theorem nf_foldS {on : Str → Bool} : ∀ s : Stm, NfS s → foldS on s = [s]
  | .set x e, h => by
    show (if eqX (foldE on e) (.var x) = true then [] else [Stm.set x (foldE on e)]) = _
    rw [nf_fold e h.1, h.2]
    rfl
  | .shw i e, h => by
    show [Stm.shw i (foldE on e)] = _
    rw [nf_fold e h]
  | .pay k e, h => by
    show (if eqX (foldE on e) (.num 0) = true then [] else [Stm.pay k (foldE on e)]) = _
    rw [nf_fold e h.1, h.2]
    rfl
  | .drw x i, _ => rfl
  | .mov a x b c, _ => rfl
  | .whn x a b, h => h.elim
  | .iff t a b, h => by
    have h1 := nf_foldB (on := on) a h.2.2.2.1
    have h2 := nf_foldB (on := on) b h.2.2.2.2
    show branchS (foldE on t) (foldB on a) (foldB on b) = _
    rw [nf_fold t h.1, h1, h2]
    unfold branchS
    rw [h.2.1, h.2.2.1]
    rfl
theorem nf_foldB {on : Str → Bool} : ∀ l : List Stm, NfB l → foldB on l = l
  | [], _ => rfl
  | s :: r, h => by
    show foldS on s ++ foldB on r = _
    rw [nf_foldS s h.1, nf_foldB r h.2]
    rfl
end
theorem foldB_twice {on : Str → Bool} (l : List Stm) : foldB on (foldB on l) = foldB on l := nf_foldB _ (foldB_nf l)
/-! how large, how deep -/
theorem payS_ok (k : Bool) : PyData.strOk (payS k) = true := by cases k <;> decide +kernel
theorem st_lay {ns ps : List Str} (hn : ∀ x ∈ ns, PyData.strOk x = true) (hp : ∀ x ∈ ps, PyData.strOk x = true) : ∀ (d : Nat) (s : Stm), StIn ns ps d s → PyData.canLay0 (stD s) = true ∧ PyData.depth (stD s) ≤ 2 * d + 3
  | 0, _, h => h.elim
  | d + 1, s, h => by
    have all : ∀ l : List Stm, (∀ s ∈ l, StIn ns ps d s) → PyData.canLayAll0 (stDs l) = true ∧ PyData.depthAll (stDs l) ≤ 2 * d + 3 := fun l => by
      induction l with
      | nil => exact fun _ => ⟨rfl, Nat.zero_le _⟩
      | cons s r ih =>
        intro hl
        obtain ⟨h1, h2⟩ := st_lay hn hp d s (hl s List.mem_cons_self)
        obtain ⟨h3, h4⟩ := ih fun s hs => hl s (List.mem_cons_of_mem _ hs)
        refine ⟨?_, ?_⟩
        · simp only [stDs, PyData.canLayAll0, h1, h3, Bool.and_true]
        · simp only [stDs, PyData.depthAll]
          omega
    have s1 : ∀ z : String, z ∈ ["set", "show", "draw", "move", "when", "if"] → PyData.strOk z = true := by decide +kernel
    cases s with
    | set x e =>
      obtain ⟨h1, h2⟩ := exD_lay hn hp 4 e h.2
      refine ⟨?_, ?_⟩
      · simp only [stD, PyData.canLay0, PyData.canLayAll0, h1, hn x h.1, s1 "set" (by decide), Bool.and_true]
      · simp only [stD, PyData.depth, PyData.depthAll]
        omega
    | shw i e =>
      obtain ⟨h1, h2⟩ := exD_lay hn hp 4 e h
      refine ⟨?_, ?_⟩
      · simp only [stD, PyData.canLay0, PyData.canLayAll0, h1, s1 "show" (by decide), Bool.and_true]
      · simp only [stD, PyData.depth, PyData.depthAll]
        omega
    | pay k e =>
      obtain ⟨h1, h2⟩ := exD_lay hn hp 4 e h
      refine ⟨?_, ?_⟩
      · simp only [stD, PyData.canLay0, PyData.canLayAll0, h1, payS_ok k, Bool.and_true]
      · simp only [stD, PyData.depth, PyData.depthAll]
        omega
    | drw x i =>
      refine ⟨?_, ?_⟩
      · simp only [stD, PyData.canLay0, PyData.canLayAll0, hn x h, s1 "draw" (by decide), Bool.and_true]
      · simp only [stD, PyData.depth, PyData.depthAll]
        omega
    | mov a x b c =>
      refine ⟨?_, ?_⟩
      · simp only [stD, PyData.canLay0, PyData.canLayAll0, hn x h, s1 "move" (by decide), Bool.and_true]
      · simp only [stD, PyData.depth, PyData.depthAll]
        omega
    | whn x a b =>
      obtain ⟨h1, h2⟩ := all a h.2.2.1
      obtain ⟨h3, h4⟩ := all b h.2.2.2
      refine ⟨?_, ?_⟩
      · simp only [stD, PyData.canLay0, PyData.canLayAll0, hp x h.2.1, h1, h3, s1 "when" (by decide), Bool.and_true]
      · simp only [stD, PyData.depth, PyData.depthAll]
        omega
    | iff t a b =>
      obtain ⟨h1, h2⟩ := all a h.2.2.1
      obtain ⟨h3, h4⟩ := all b h.2.2.2
      obtain ⟨h5, h6⟩ := exD_lay hn hp 4 t h.2.1
      refine ⟨?_, ?_⟩
      · simp only [stD, PyData.canLay0, PyData.canLayAll0, h1, h3, h5, s1 "if" (by decide), Bool.and_true]
      · simp only [stD, PyData.depth, PyData.depthAll]
        omega
theorem bl_shaped {ns ps : List Str} (hn : ∀ x ∈ ns, PyData.strOk x = true) (hp : ∀ x ∈ ps, PyData.strOk x = true) {d : Nat} {l : List Stm} (h : ∀ s ∈ l, StIn ns ps d s) (hd : d ≤ 20) : SeqAt.shaped (blD l) = true := by
  have all : PyData.canLayAll0 (stDs l) = true ∧ PyData.depthAll (stDs l) ≤ 2 * d + 3 := by
    induction l with
    | nil => exact ⟨rfl, Nat.zero_le _⟩
    | cons s r ih =>
      obtain ⟨h1, h2⟩ := st_lay hn hp d s (h s List.mem_cons_self)
      obtain ⟨h3, h4⟩ := ih fun s hs => h s (List.mem_cons_of_mem _ hs)
      refine ⟨?_, ?_⟩
      · simp only [stDs, PyData.canLayAll0, h1, h3, Bool.and_true]
      · simp only [stDs, PyData.depthAll]
        omega
  unfold SeqAt.shaped
  have h1 : PyData.canLay0 (blD l) = true := by
    unfold blD
    simp only [PyData.canLay0, all.1]
  have h2 : PyData.depth (blD l) ≤ 64 := by
    unfold blD
    simp only [PyData.depth]
    omega
  rw [h1, decide_eq_true h2]
  rfl
theorem st_deep {ns ps : List Str} : ∀ (d : Nat) (s : Stm), StIn ns ps d s → dDeep (stD s) ≤ 2 * d + 3
  | 0, _, h => h.elim
  | d + 1, s, h => by
    have all : ∀ l : List Stm, (∀ s ∈ l, StIn ns ps d s) → dDeepAll (stDs l) ≤ 2 * d + 3 := fun l => by
      induction l with
      | nil => exact fun _ => Nat.zero_le _
      | cons s r ih =>
        intro hl
        have h1 := st_deep d s (hl s List.mem_cons_self)
        have h3 := ih fun s hs => hl s (List.mem_cons_of_mem _ hs)
        simp only [stDs, dDeepAll]
        omega
    cases s with
    | set x e =>
      have := exD_deep 4 e h.2
      simp only [stD, dDeep, dDeepAll]
      omega
    | shw i e =>
      have := exD_deep 4 e h
      simp only [stD, dDeep, dDeepAll]
      omega
    | pay k e =>
      have := exD_deep 4 e h
      simp only [stD, dDeep, dDeepAll]
      omega
    | drw x i =>
      simp only [stD, dDeep, dDeepAll]
      omega
    | mov a x b c =>
      simp only [stD, dDeep, dDeepAll]
      omega
    | whn x a b =>
      have h1 := all a h.2.2.1
      have h2 := all b h.2.2.2
      simp only [stD, dDeep, dDeepAll]
      omega
    | iff t a b =>
      have h1 := all a h.2.2.1
      have h2 := all b h.2.2.2
      have h3 := exD_deep 4 t h.2.1
      simp only [stD, dDeep, dDeepAll]
      omega
theorem bl_deep {ns ps : List Str} {d : Nat} {l : List Stm} (h : ∀ s ∈ l, StIn ns ps d s) : dDeep (blD l) ≤ 2 * d + 4 := by
  have all : dDeepAll (stDs l) ≤ 2 * d + 3 := by
    induction l with
    | nil => exact Nat.zero_le _
    | cons s r ih =>
      have h1 := st_deep d s (h s List.mem_cons_self)
      have h3 := ih fun s hs => h s (List.mem_cons_of_mem _ hs)
      simp only [stDs, dDeepAll]
      omega
  unfold blD
  simp only [dDeep]
  omega
mutual
theorem st_small : ∀ s : Stm, cnt s ≤ 100000 → small (stD s) = true
  | .set x e, _ => by simp [stD, small, smallAll, exD_small e]
  | .shw i e, _ => by simp [stD, small, smallAll, exD_small e]
  | .pay k e, _ => by simp [stD, small, smallAll, exD_small e]
  | .drw x i, _ => by simp [stD, small, smallAll]
  | .mov a x b c, _ => by simp [stD, small, smallAll]
  | .whn x a b, h => by
    have h' : max 1 (max (cnts a) (cnts b)) ≤ 100000 := h
    have h1 := sts_small a (by omega)
    have h2 := sts_small b (by omega)
    have h3 : (stDs a).length ≤ 100000 := by have := len_cnts a; rw [stDs_len]; omega
    have h4 : (stDs b).length ≤ 100000 := by have := len_cnts b; rw [stDs_len]; omega
    simp [stD, small, smallAll, h1, h2, h3, h4]
  | .iff t a b, h => by
    have h' : max 1 (max (cnts a) (cnts b)) ≤ 100000 := h
    have h1 := sts_small a (by omega)
    have h2 := sts_small b (by omega)
    have h3 : (stDs a).length ≤ 100000 := by have := len_cnts a; rw [stDs_len]; omega
    have h4 : (stDs b).length ≤ 100000 := by have := len_cnts b; rw [stDs_len]; omega
    simp [stD, small, smallAll, h1, h2, h3, h4, exD_small t]
theorem sts_small : ∀ l : List Stm, cnts l ≤ 100000 → smallAll (stDs l) = true
  | [], _ => rfl
  | s :: r, h => by
    have h' : cnt s + cnts r ≤ 100000 := h
    have h1 := st_small s (by omega)
    have h2 := sts_small r (by omega)
    simp [stDs, smallAll, h1, h2]
end
theorem bl_small {l : List Stm} (h : cnts l ≤ 100000) : small (blD l) = true := by
  have h1 := sts_small l h
  have h3 : (stDs l).length ≤ 100000 := by have := len_cnts l; rw [stDs_len]; omega
  unfold blD
  simp [small, h1, h3]
/-! the pool and one list of two counts -/
structure T2 (p : Pl) (st : Addr) (b : Int) (H H' : Hp) : Prop where
  pool : Pool H' p b
  two : ∃ i j : Int, H' st = some (.lst [.int i, .int j])
  but : ∀ c o, c ≠ p.a → c ≠ st → H c = some o → H' c = some o
theorem T2.refl {p : Pl} {st : Addr} {b : Int} {H : Hp} (h : Pool H p b) (k : ∃ i j : Int, H st = some (.lst [.int i, .int j])) : T2 p st b H H := ⟨h, k, fun _ _ _ _ h => h⟩
theorem T2.trans {p : Pl} {st : Addr} {b b' : Int} {H H1 H2 : Hp} (h : T2 p st b' H H1) (k : T2 p st b H1 H2) : T2 p st b H H2 := ⟨k.pool, k.two, fun c o n1 n2 e => k.but c o n1 n2 (h.but c o n1 n2 e)⟩
theorem T2.turn {p : Pl} {st : Addr} {b b' : Int} {H H1 H2 : Hp} (h : T2 p st b' H H1) (n : st ≠ p.a) (k : Turn p b H1 H2) : T2 p st b H H2 :=
  ⟨k.pool, let ⟨i, j, e⟩ := h.two; ⟨i, j, k.but _ _ n e⟩, fun c o n1 n2 e => k.but c o n1 (h.but c o n1 n2 e)⟩
theorem T2.same {p : Pl} {st : Addr} {b : Int} {H H1 H2 : Hp} (h : T2 p st b H H1) (s : Same H1 H2) : T2 p st b H H2 := ⟨h.pool.same s, let ⟨i, j, e⟩ := h.two; ⟨i, j, s _ _ e⟩, fun c o n1 n2 e => s _ _ (h.but c o n1 n2 e)⟩
theorem T2.new {p : Pl} {st q : Addr} {b : Int} {H H1 : Hp} {o : HO} (h : T2 p st b H H1) (n : H1 q = none) : T2 p st b H (upd H1 q o) := h.same (same_new n)
theorem T2.put {p : Pl} {st : Addr} {b : Int} {H H1 : Hp} {i j : Int} (h : T2 p st b H H1) (n1 : st ≠ p.a) (n2 : st ≠ p.l) : T2 p st b H (upd H1 st (.lst [.int i, .int j])) :=
  ⟨h.pool.upd n1 n2, ⟨i, j, upd_same⟩, fun c o k1 k2 e => by rw [upd_ne k2]; exact h.but c o k1 k2 e⟩
theorem T2.mut {p : Pl} {st q : Addr} {b b0 : Int} {H H1 : Hp} {o : HO} (h0 : Pool H p b0) (h2 : ∃ i j : Int, H st = some (.lst [.int i, .int j])) (n : H q = none) (h : T2 p st b H H1) : T2 p st b H (upd H1 q o) :=
  ⟨h.pool.upd (h0.nea n) (h0.nel n), let ⟨i, j, e⟩ := h.two; let ⟨_, _, e2⟩ := h2; ⟨i, j, by rw [upd_ne (ne_of_none e2 n)]; exact e⟩, fun c o k1 k2 e => by rw [upd_ne (ne_of_none e n)]; exact h.but c o k1 k2 e⟩
theorem T2.dp {K : PySem.W.Frag} {p : Pl} {st : Addr} {b b0 : Int} {H H' : Hp} {d : PyData} {v : V} (t : T2 p st b H H') (hp : Pool H p b0) (h2 : ∃ i j : Int, H st = some (.lst [.int i, .int j])) (n : noL d = true) (h : Dp K H v d) : Dp K H' v d := by
  obtain ⟨zs, ez⟩ := hp.there
  obtain ⟨i, j, e2⟩ := h2
  exact dp_ext (fun c xs e => t.but _ _ (ne_of e ez (by intro z; cases z)) (ne_of e e2 (by intro z; cases z)) e) (fun c o u e => t.but _ _ (ne_of e ez (by intro z; cases z)) (ne_of e e2 (by intro z; cases z)) e) d v n h
theorem T2.dpAll {K : PySem.W.Frag} {p : Pl} {st : Addr} {b b0 : Int} {H H' : Hp} {ds : List PyData} {vs : List V} (t : T2 p st b H H') (hp : Pool H p b0) (h2 : ∃ i j : Int, H st = some (.lst [.int i, .int j])) (n : noLAll ds = true) (h : DpAll K H vs ds) : DpAll K H' vs ds := by
  obtain ⟨zs, ez⟩ := hp.there
  obtain ⟨i, j, e2⟩ := h2
  exact dpAll_ext (fun c xs e => t.but _ _ (ne_of e ez (by intro z; cases z)) (ne_of e e2 (by intro z; cases z)) e) (fun c o u e => t.but _ _ (ne_of e ez (by intro z; cases z)) (ne_of e e2 (by intro z; cases z)) e) ds vs n h
theorem Same.mut {H H' : Hp} {l : Addr} {o : HO} (n : H l = none) (s : Same H H') : Same H (upd H' l o) := fun c u e => by rw [upd_ne (ne_of_none e n)]; exact s c u e
theorem But.one {l : Addr} {H : Hp} {o : HO} : But l H (L2.upd H l o) := (But.refl l H).upd
theorem eqX_nums {n m : Int} : eqX (.num n) (.num m) = decide (n = m) := by
  rw [eqX_form]
  simp only [headS, restD, PyData.eqvAll, PyData.eqv, Bool.and_true]
  by_cases h : n = m
  · subst h
    simp
  · simp [h]
end Gx

local macro_rules | `(tactic| walk_at "side") => `(tactic| first | decide | omega | assumption | exact Or.inl ⟨by decide, by decide⟩ | exact Or.inr ⟨by decide, by decide⟩ | exact Or.inl ⟨by omega, by omega⟩ | exact Or.inr ⟨by omega, by omega⟩ | (refine ⟨?_, ?_⟩ <;> first | decide | omega | assumption))
local macro_rules | `(tactic| walk_at "go1") => `(tactic| first
  | with_reducible refine Gx.go_seq ?_
  | with_reducible refine Gx.go_asg ?_
  | with_reducible refine Gx.go_name ?_
  | with_reducible refine Gx.go_var rfl ?_
  | with_reducible refine Gx.go_c ?_
  | with_reducible refine Gx.go_op ?_
  | with_reducible refine Gx.go_rI0 ?_
  | ((with_reducible refine Gx.go_rI ?k1 ?k2); (case k1 => walk_at "side"))
  | with_reducible refine Gx.go_test ?_
  | with_reducible refine Gx.go_if ?_
  | with_reducible refine Gx.go_cons ?_
  | with_reducible refine Gx.go_nil ?_
  | with_reducible refine Gx.go_CB ?_
  | with_reducible refine Gx.go_call ?_
  | with_reducible refine Gx.go_eqI ?_
  | with_reducible refine Gx.go_neI ?_
  | with_reducible refine Gx.go_eqS ?_
  | with_reducible refine Gx.go_neS ?_
  | with_reducible refine Gx.go_eqB ?_
  | with_reducible refine Gx.go_neB ?_
  | with_reducible refine Gx.go_eqN ?_
  | with_reducible refine Gx.ite_dt ?_
  | with_reducible refine Gx.go_ret ?_
  | with_reducible refine Gx.go_retN ?_
  | with_reducible refine Gx.go_next ?_
  | with_reducible refine Gx.go_drop ?_
  | with_reducible refine Gx.go_un ?_
  | with_reducible refine Gx.go_rU ?_
  | with_reducible refine Gx.go_and ?_
  | with_reducible refine Gx.go_or ?_
  | with_reducible refine Gx.go_not ?_
  | with_reducible refine Gx.go_andV ?_
  | with_reducible refine Gx.go_orV ?_
  | with_reducible refine Gx.go_notV ?_
  | with_reducible refine Gx.go_blA ?_
  | with_reducible refine L2.iteT ?_
  | with_reducible refine L2.iteF ?_
  | with_reducible refine Gx.ite_nt ?_
  | with_reducible refine Gx.ite_nf ?_
  | with_reducible refine Gx.go_ifE ?_
  | with_reducible refine Gx.go_chain ?_
  | with_reducible refine Gx.go_B ?_
  | with_reducible refine Gx.go_int1 ?_
  | with_reducible refine Gx.go_intB ?_
  | with_reducible refine Gx.go_lst ?_
  | with_reducible refine Gx.go_tup ?_
  | with_reducible refine Gx.go_sl ?_
  | with_reducible refine Gx.go_noPart ?_
  | with_reducible refine Gx.go_part ?_
  | with_reducible refine Gx.go_partI ?_
  | with_reducible refine Gx.isi_int_int ?_
  | with_reducible refine Gx.isi_int_bool ?_
  | with_reducible refine Gx.isi_int_str ?_
  | with_reducible refine Gx.isi_int_list ?_
  | with_reducible refine Gx.isi_int_tuple ?_
  | with_reducible refine Gx.isi_bool_int ?_
  | with_reducible refine Gx.isi_bool_bool ?_
  | with_reducible refine Gx.isi_bool_str ?_
  | with_reducible refine Gx.isi_bool_list ?_
  | with_reducible refine Gx.isi_bool_tuple ?_
  | with_reducible refine Gx.isi_str_int ?_
  | with_reducible refine Gx.isi_str_bool ?_
  | with_reducible refine Gx.isi_str_str ?_
  | with_reducible refine Gx.isi_str_list ?_
  | with_reducible refine Gx.isi_str_tuple ?_
  | with_reducible refine Gx.isi_NoneType_int ?_
  | with_reducible refine Gx.isi_NoneType_bool ?_
  | with_reducible refine Gx.isi_NoneType_str ?_
  | with_reducible refine Gx.isi_NoneType_list ?_
  | with_reducible refine Gx.isi_NoneType_tuple ?_
  | with_reducible refine Gx.go_bool1 ?_
  | with_reducible refine Gx.go_boolB ?_
  | with_reducible refine Gx.go_abs ?_
  | with_reducible refine Gx.go_max2 ?_
  | with_reducible refine Gx.go_min2 ?_
  | with_reducible refine Gx.go_ord ?_
  | with_reducible refine Gx.go_isN0 ?_
  | with_reducible refine Gx.go_isNI ?_
  | with_reducible refine Gx.go_isNS ?_
  | with_reducible refine Gx.go_isNB ?_
  | with_reducible refine Gx.go_isNR ?_
  | with_reducible refine Gx.go_notN0 ?_
  | with_reducible refine Gx.go_notNI ?_
  | with_reducible refine Gx.go_notNS ?_
  | with_reducible refine Gx.go_notNB ?_
  | with_reducible refine Gx.go_notNR ?_
  | with_reducible refine Gx.go_ltS ?_
  | with_reducible refine Gx.go_leS ?_
  | with_reducible refine Gx.go_BM ?_
  | with_reducible refine Gx.go_BM0 ?_
  | with_reducible refine Gx.go_not_t ?_
  | with_reducible refine Gx.go_not_f ?_
  | with_reducible refine Gx.go_iList ?_
  | with_reducible refine Gx.go_iRng1 ?_
  | with_reducible refine Gx.go_iRng2 ?_
  | with_reducible refine Gx.go_lc ?_
  | with_reducible refine Gx.go_for ?_
  | with_reducible refine Gx.go_sub ?_
  | with_reducible refine Gx.go_setL2 (by with_unfolding_all rfl) ?_
  | with_reducible refine Gx.go_ixL2 (by with_unfolding_all rfl) ?_
  | with_reducible refine Gx.go_setL (by assumption) (by with_unfolding_all rfl) ?_
  | with_reducible refine Gx.go_ixL1 (by assumption) (by with_unfolding_all rfl) ?_
  | with_reducible refine Gx.go_ixT1 (by assumption) (by with_unfolding_all rfl) ?_
  | with_reducible refine Gx.go_M1 ?_
  | with_reducible refine Gx.go_M0 ?_
  | with_reducible refine Gx.go_isS ?_
  | with_reducible refine Gx.go_iStr ?_
  | with_reducible refine Gx.sq_list_int (by assumption) ?_
  | with_reducible refine Gx.sq_list_bool (by assumption) ?_
  | with_reducible refine Gx.sq_list_str (by assumption) ?_
  | with_reducible refine Gx.sq_list_list (by assumption) ?_
  | with_reducible refine Gx.sq_list_tuple (by assumption) ?_
  | with_reducible refine Gx.sq_tuple_int (by assumption) ?_
  | with_reducible refine Gx.sq_tuple_bool (by assumption) ?_
  | with_reducible refine Gx.sq_tuple_str (by assumption) ?_
  | with_reducible refine Gx.sq_tuple_list (by assumption) ?_
  | with_reducible refine Gx.sq_tuple_tuple (by assumption) ?_
  | with_reducible refine Gx.go_fld ?_
  | with_reducible refine Gx.go_rnum (by assumption) (by assumption) (by assumption) ?_
  | with_reducible refine Gx.go_rden (by assumption) (by assumption) (by assumption) ?_
  | with_reducible refine Gx.go_make ?_
  | with_reducible refine Gx.go_meth ?_
  | with_reducible refine Gx.go_sfld ?_
  | with_reducible refine Gx.go_own (by assumption) (by assumption) ?_
  | with_reducible refine Gx.go_uOwn (by assumption) ?_
  | with_reducible refine Gx.go_gcons ?_
  | with_reducible refine Gx.go_gnil ?_
  | with_reducible refine Gx.go_brk ?_
  | with_reducible refine Gx.go_cont ?_)
local macro_rules | `(tactic| walk_at "go") => `(tactic| repeat walk_at "go1")
local macro_rules | `(tactic| walk_at "br") => `(tactic| first
  | with_reducible refine Gx.ite_d ?_ ?_
  | with_reducible refine Gx.ite_nd ?_ ?_
  | with_reducible refine Gx.ite_b ?_ ?_)
local macro_rules | `(tactic| walk_at "go1") => `(tactic| first
  | with_reducible refine Gx.go_iRng3 ?_
  | with_reducible refine Gx.go_revL ?_)
local macro_rules | `(tactic| walk_at "go1") => `(tactic| first
  | with_reducible refine Gx.go_tTr ?_
  | with_reducible refine Gx.go_dget ?_
  | with_reducible refine Gx.go_dput ?_
  | with_reducible refine Gx.go_iTup ?_
  | with_reducible refine Gx.go_dnew ?_
  | with_reducible refine Gx.go_ixT (by assumption) (by with_unfolding_all rfl) ?_
  | with_reducible refine Gx.go_ixT (by assumption) Gx.at_0 ?_
  | with_reducible refine Gx.go_ixT (by assumption) Gx.at_1 ?_
  | with_reducible refine Gx.ite_ndt ?_
  | with_reducible refine Gx.ite_df (by decide +kernel) ?_
  | with_reducible refine Gx.ite_ndf (by decide +kernel) ?_)
local macro_rules | `(tactic| walk_at "go1") => `(tactic| first
  | with_reducible refine Gx.go_inC ?_
  | with_reducible refine Gx.go_niC ?_)
namespace K24
open PySem PySem.Spec PyProof.Rows L2 Gx
def top (i : Nat) : Stmt := PySem.Challenge.pw_sureplay_k24_folded_statements.main.body.getD i (.Pass ⟨0, 0, 0, 0⟩)
abbrev s_combine : Stmt := top 3
abbrev s_fold_expression : Stmt := top 7
abbrev s_fold_pair : Stmt := top 8
abbrev s_fold_block : Stmt := top 9
abbrev s_fold_statement : Stmt := top 10
abbrev s_fold_branch : Stmt := top 11
abbrev s__law_pool : Stmt := top 13
abbrev s__law_draw : Stmt := top 14
abbrev s__law_spend : Stmt := top 15
abbrev s__law_few : Stmt := top 16
abbrev s__law_number : Stmt := top 17
abbrev s__law_same : Stmt := top 18
abbrev s__law_keys : Stmt := top 19
abbrev s__law_name : Stmt := top 20
abbrev s__law_names : Stmt := top 21
abbrev s__law_expression : Stmt := top 22
abbrev s__law_combine : Stmt := top 23
abbrev s__law_fold_pair : Stmt := top 24
abbrev s__law_fold : Stmt := top 25
abbrev s__law_block : Stmt := top 26
abbrev s__law_statement : Stmt := top 27
abbrev s__law_fold_statement : Stmt := top 28
abbrev s__law_fold_block : Stmt := top 29
abbrev s_law : Stmt := top 30
/-- where the defs and classes stand -/
structure Ad where
  f_combine : Addr
  d_combine : FuncData
  f_fold_expression : Addr
  d_fold_expression : FuncData
  f_fold_pair : Addr
  d_fold_pair : FuncData
  f_fold_block : Addr
  d_fold_block : FuncData
  f_fold_statement : Addr
  d_fold_statement : FuncData
  f_fold_branch : Addr
  d_fold_branch : FuncData
  f__law_pool : Addr
  d__law_pool : FuncData
  f__law_draw : Addr
  d__law_draw : FuncData
  f__law_spend : Addr
  d__law_spend : FuncData
  f__law_few : Addr
  d__law_few : FuncData
  f__law_number : Addr
  d__law_number : FuncData
  f__law_same : Addr
  d__law_same : FuncData
  f__law_keys : Addr
  d__law_keys : FuncData
  f__law_name : Addr
  d__law_name : FuncData
  f__law_names : Addr
  d__law_names : FuncData
  f__law_expression : Addr
  d__law_expression : FuncData
  f__law_combine : Addr
  d__law_combine : FuncData
  f__law_fold_pair : Addr
  d__law_fold_pair : FuncData
  f__law_fold : Addr
  d__law_fold : FuncData
  f__law_block : Addr
  d__law_block : FuncData
  f__law_statement : Addr
  d__law_statement : FuncData
  f__law_fold_statement : Addr
  d__law_fold_statement : FuncData
  f__law_fold_block : Addr
  d__law_fold_block : FuncData
  f_law : Addr
  d_law : FuncData
  k_SIGNS : Addr
  k_ZERO : Addr
  k_ONE : Addr
/-- what the top has left -/
structure Txt (P : Program) (K : PySem.W.Frag) (mg : Str → Option Value) (A : Ad) : Prop where
  F_combine : Fun K "combine" "combine" s_combine A.f_combine A.d_combine
  b_combine : Binds K A.d_combine ["sign", "left", "right"] []
  m_combine : mg "combine" = some (.ref A.f_combine)
  F_fold_expression : Fun K "fold_expression" "fold_expression" s_fold_expression A.f_fold_expression A.d_fold_expression
  b_fold_expression : Binds K A.d_fold_expression ["expression", "on"] []
  m_fold_expression : mg "fold_expression" = some (.ref A.f_fold_expression)
  F_fold_pair : Fun K "fold_pair" "fold_pair" s_fold_pair A.f_fold_pair A.d_fold_pair
  b_fold_pair : Binds K A.d_fold_pair ["sign", "left", "right"] []
  m_fold_pair : mg "fold_pair" = some (.ref A.f_fold_pair)
  F_fold_block : Fun K "fold_block" "fold_block" s_fold_block A.f_fold_block A.d_fold_block
  b_fold_block : Binds K A.d_fold_block ["block", "on"] []
  m_fold_block : mg "fold_block" = some (.ref A.f_fold_block)
  F_fold_statement : Fun K "fold_statement" "fold_statement" s_fold_statement A.f_fold_statement A.d_fold_statement
  b_fold_statement : Binds K A.d_fold_statement ["statement", "on"] []
  m_fold_statement : mg "fold_statement" = some (.ref A.f_fold_statement)
  F_fold_branch : Fun K "fold_branch" "fold_branch" s_fold_branch A.f_fold_branch A.d_fold_branch
  b_fold_branch : Binds K A.d_fold_branch ["statement", "on"] []
  m_fold_branch : mg "fold_branch" = some (.ref A.f_fold_branch)
  F__law_pool : Fun K "_law_pool" "_law_pool" s__law_pool A.f__law_pool A.d__law_pool
  b__law_pool : Binds K A.d__law_pool ["_law_script", "_law_budget"] []
  m__law_pool : mg "_law_pool" = some (.ref A.f__law_pool)
  F__law_draw : Fun K "_law_draw" "_law_draw" s__law_draw A.f__law_draw A.d__law_draw
  b__law_draw : Binds K A.d__law_draw ["_law_pool_here", "_law_size"] []
  m__law_draw : mg "_law_draw" = some (.ref A.f__law_draw)
  F__law_spend : Fun K "_law_spend" "_law_spend" s__law_spend A.f__law_spend A.d__law_spend
  b__law_spend : Binds K A.d__law_spend ["_law_pool_here"] []
  m__law_spend : mg "_law_spend" = some (.ref A.f__law_spend)
  F__law_few : Fun K "_law_few" "_law_few" s__law_few A.f__law_few A.d__law_few
  b__law_few : Binds K A.d__law_few ["_law_pool_here", "_law_most"] []
  m__law_few : mg "_law_few" = some (.ref A.f__law_few)
  F__law_number : Fun K "_law_number" "_law_number" s__law_number A.f__law_number A.d__law_number
  b__law_number : Binds K A.d__law_number ["_law_pool_here"] []
  m__law_number : mg "_law_number" = some (.ref A.f__law_number)
  F__law_same : Fun K "_law_same" "_law_same" s__law_same A.f__law_same A.d__law_same
  b__law_same : Binds K A.d__law_same ["_law_actual", "_law_due"] []
  m__law_same : mg "_law_same" = some (.ref A.f__law_same)
  F__law_keys : Fun K "_law_keys" "_law_keys" s__law_keys A.f__law_keys A.d__law_keys
  b__law_keys : Binds K A.d__law_keys [] []
  m__law_keys : mg "_law_keys" = some (.ref A.f__law_keys)
  F__law_name : Fun K "_law_name" "_law_name" s__law_name A.f__law_name A.d__law_name
  b__law_name : Binds K A.d__law_name ["_law_pool_here", "_law_taken"] []
  m__law_name : mg "_law_name" = some (.ref A.f__law_name)
  F__law_names : Fun K "_law_names" "_law_names" s__law_names A.f__law_names A.d__law_names
  b__law_names : Binds K A.d__law_names ["_law_pool_here", "_law_most"] []
  m__law_names : mg "_law_names" = some (.ref A.f__law_names)
  F__law_expression : Fun K "_law_expression" "_law_expression" s__law_expression A.f__law_expression A.d__law_expression
  b__law_expression : Binds K A.d__law_expression ["_law_pool_here", "_law_names_here", "_law_picks", "_law_deep"] []
  m__law_expression : mg "_law_expression" = some (.ref A.f__law_expression)
  F__law_combine : Fun K "_law_combine" "_law_combine" s__law_combine A.f__law_combine A.d__law_combine
  b__law_combine : Binds K A.d__law_combine ["_law_sign", "_law_a", "_law_b"] []
  m__law_combine : mg "_law_combine" = some (.ref A.f__law_combine)
  F__law_fold_pair : Fun K "_law_fold_pair" "_law_fold_pair" s__law_fold_pair A.f__law_fold_pair A.d__law_fold_pair
  b__law_fold_pair : Binds K A.d__law_fold_pair ["_law_sign", "_law_a", "_law_b"] []
  m__law_fold_pair : mg "_law_fold_pair" = some (.ref A.f__law_fold_pair)
  F__law_fold : Fun K "_law_fold" "_law_fold" s__law_fold A.f__law_fold A.d__law_fold
  b__law_fold : Binds K A.d__law_fold ["_law_due", "_law_on"] []
  m__law_fold : mg "_law_fold" = some (.ref A.f__law_fold)
  F__law_block : Fun K "_law_block" "_law_block" s__law_block A.f__law_block A.d__law_block
  b__law_block : Binds K A.d__law_block ["_law_pool_here", "_law_names_here", "_law_picks", "_law_deep", "_law_state"] []
  m__law_block : mg "_law_block" = some (.ref A.f__law_block)
  F__law_statement : Fun K "_law_statement" "_law_statement" s__law_statement A.f__law_statement A.d__law_statement
  b__law_statement : Binds K A.d__law_statement ["_law_pool_here", "_law_names_here", "_law_picks", "_law_deep", "_law_state"] []
  m__law_statement : mg "_law_statement" = some (.ref A.f__law_statement)
  F__law_fold_statement : Fun K "_law_fold_statement" "_law_fold_statement" s__law_fold_statement A.f__law_fold_statement A.d__law_fold_statement
  b__law_fold_statement : Binds K A.d__law_fold_statement ["_law_due", "_law_on"] []
  m__law_fold_statement : mg "_law_fold_statement" = some (.ref A.f__law_fold_statement)
  F__law_fold_block : Fun K "_law_fold_block" "_law_fold_block" s__law_fold_block A.f__law_fold_block A.d__law_fold_block
  b__law_fold_block : Binds K A.d__law_fold_block ["_law_block_here", "_law_on"] []
  m__law_fold_block : mg "_law_fold_block" = some (.ref A.f__law_fold_block)
  F_law : Fun K "law" "law" s_law A.f_law A.d_law
  b_law : Binds K A.d_law ["_law_script"] []
  m_law : mg "law" = some (.ref A.f_law)
  n_int : mg "int" = none
  n_max : mg "max" = none
  n_tuple : mg "tuple" = none
  n_list : mg "list" = none
  n_len : mg "len" = none
  n_min : mg "min" = none
  n_isinstance : mg "isinstance" = none
  n_range : mg "range" = none
  n_bool : mg "bool" = none
  n_str : mg "str" = none
  v_GREATEST : ∃ t, mg "GREATEST" = some (.int 65535 t)
  m_SIGNS : mg "SIGNS" = some (.ref A.k_SIGNS)
  kt_SIGNS : ∀ H : Hp, SqT K H A.k_SIGNS [(.str "+"), (.str "-"), (.str "*"), (.str "/"), (.str "mod"), (.str "<"), (.str "=")]
  m_ZERO : mg "ZERO" = some (.ref A.k_ZERO)
  kt_ZERO : ∀ H : Hp, SqT K H A.k_ZERO [(.str "number"), (.int 0)]
  m_ONE : mg "ONE" = some (.ref A.k_ONE)
  kt_ONE : ∀ H : Hp, SqT K H A.k_ONE [(.str "number"), (.int 1)]
theorem sc_combine : FnScope ["sign", "left", "right"] ["sign", "left", "right"] (defScope s_combine) := ⟨rfl, rfl, rfl, by decide +kernel, rfl, by decide +kernel, by decide +kernel⟩
theorem sc_fold_expression : FnScope ["expression", "on", "kind"] ["expression", "on"] (defScope s_fold_expression) := ⟨rfl, rfl, rfl, by decide +kernel, rfl, by decide +kernel, by decide +kernel⟩
theorem sc_fold_pair : FnScope ["sign", "left", "right"] ["sign", "left", "right"] (defScope s_fold_pair) := ⟨rfl, rfl, rfl, by decide +kernel, rfl, by decide +kernel, by decide +kernel⟩
theorem sc_fold_block : FnScope ["block", "on", "folded", "statement"] ["block", "on"] (defScope s_fold_block) := ⟨rfl, rfl, rfl, by decide +kernel, rfl, by decide +kernel, by decide +kernel⟩
theorem sc_fold_statement : FnScope ["statement", "on", "kind", "value"] ["statement", "on"] (defScope s_fold_statement) := ⟨rfl, rfl, rfl, by decide +kernel, rfl, by decide +kernel, by decide +kernel⟩
theorem sc_fold_branch : FnScope ["statement", "on", "test", "then", "other"] ["statement", "on"] (defScope s_fold_branch) := ⟨rfl, rfl, rfl, by decide +kernel, rfl, by decide +kernel, by decide +kernel⟩
theorem sc__law_pool : FnScope ["_law_script", "_law_budget"] ["_law_script", "_law_budget"] (defScope s__law_pool) := ⟨rfl, rfl, rfl, by decide +kernel, rfl, by decide +kernel, by decide +kernel⟩
theorem sc__law_draw : FnScope ["_law_pool_here", "_law_size", "_law_cell", "_law_value"] ["_law_pool_here", "_law_size"] (defScope s__law_draw) := ⟨rfl, rfl, rfl, by decide +kernel, rfl, by decide +kernel, by decide +kernel⟩
theorem sc__law_spend : FnScope ["_law_pool_here"] ["_law_pool_here"] (defScope s__law_spend) := ⟨rfl, rfl, rfl, by decide +kernel, rfl, by decide +kernel, by decide +kernel⟩
theorem sc__law_few : FnScope ["_law_pool_here", "_law_most", "_law_few_here"] ["_law_pool_here", "_law_most"] (defScope s__law_few) := ⟨rfl, rfl, rfl, by decide +kernel, rfl, by decide +kernel, by decide +kernel⟩
theorem sc__law_number : FnScope ["_law_pool_here"] ["_law_pool_here"] (defScope s__law_number) := ⟨rfl, rfl, rfl, by decide +kernel, rfl, by decide +kernel, by decide +kernel⟩
theorem sc__law_same : FnScope ["_law_actual", "_law_due", "_law_k"] ["_law_actual", "_law_due"] (defScope s__law_same) := ⟨rfl, rfl, rfl, by decide +kernel, rfl, by decide +kernel, by decide +kernel⟩
theorem sc__law_keys : FnScope ["_law_text"] [] (defScope s__law_keys) := ⟨rfl, rfl, rfl, by decide +kernel, rfl, by decide +kernel, by decide +kernel⟩
theorem sc__law_name : FnScope ["_law_pool_here", "_law_taken", "_law_signs", "_law_name_here", "_law_k"] ["_law_pool_here", "_law_taken"] (defScope s__law_name) := ⟨rfl, rfl, rfl, by decide +kernel, rfl, by decide +kernel, by decide +kernel⟩
theorem sc__law_names : FnScope ["_law_pool_here", "_law_most", "_law_names_here", "_law_k"] ["_law_pool_here", "_law_most"] (defScope s__law_names) := ⟨rfl, rfl, rfl, by decide +kernel, rfl, by decide +kernel, by decide +kernel⟩
theorem sc__law_expression : FnScope ["_law_pool_here", "_law_names_here", "_law_picks", "_law_deep", "_law_kind", "_law_pick", "_law_left", "_law_sign"] ["_law_pool_here", "_law_names_here", "_law_picks", "_law_deep"] (defScope s__law_expression) := ⟨rfl, rfl, rfl, by decide +kernel, rfl, by decide +kernel, by decide +kernel⟩
theorem sc__law_combine : FnScope ["_law_sign", "_law_a", "_law_b", "_law_whole"] ["_law_sign", "_law_a", "_law_b"] (defScope s__law_combine) := ⟨rfl, rfl, rfl, by decide +kernel, rfl, by decide +kernel, by decide +kernel⟩
theorem sc__law_fold_pair : FnScope ["_law_sign", "_law_a", "_law_b", "_law_zero", "_law_one"] ["_law_sign", "_law_a", "_law_b"] (defScope s__law_fold_pair) := ⟨rfl, rfl, rfl, by decide +kernel, rfl, by decide +kernel, by decide +kernel⟩
theorem sc__law_fold : FnScope ["_law_due", "_law_on"] ["_law_due", "_law_on"] (defScope s__law_fold) := ⟨rfl, rfl, rfl, by decide +kernel, rfl, by decide +kernel, by decide +kernel⟩
theorem sc__law_block : FnScope ["_law_pool_here", "_law_names_here", "_law_picks", "_law_deep", "_law_state", "_law_block_here", "_law_k"] ["_law_pool_here", "_law_names_here", "_law_picks", "_law_deep", "_law_state"] (defScope s__law_block) := ⟨rfl, rfl, rfl, by decide +kernel, rfl, by decide +kernel, by decide +kernel⟩
theorem sc__law_statement : FnScope ["_law_pool_here", "_law_names_here", "_law_picks", "_law_deep", "_law_state", "_law_kind", "_law_count", "_law_then", "_law_other", "_law_name_here"] ["_law_pool_here", "_law_names_here", "_law_picks", "_law_deep", "_law_state"] (defScope s__law_statement) := ⟨rfl, rfl, rfl, by decide +kernel, rfl, by decide +kernel, by decide +kernel⟩
theorem sc__law_fold_statement : FnScope ["_law_due", "_law_on", "_law_test", "_law_then", "_law_other", "_law_value"] ["_law_due", "_law_on"] (defScope s__law_fold_statement) := ⟨rfl, rfl, rfl, by decide +kernel, rfl, by decide +kernel, by decide +kernel⟩
theorem sc__law_fold_block : FnScope ["_law_block_here", "_law_on", "_law_folded", "_law_due"] ["_law_block_here", "_law_on"] (defScope s__law_fold_block) := ⟨rfl, rfl, rfl, by decide +kernel, rfl, by decide +kernel, by decide +kernel⟩
theorem sc_law : FnScope ["_law_script", "_law_pool_here", "_law_names_here", "_law_picks", "_law_on", "_law_name_here", "_law_block_here", "_law_due", "_law_actual"] ["_law_script"] (defScope s_law) := ⟨rfl, rfl, rfl, by decide +kernel, rfl, by decide +kernel, by decide +kernel⟩

def keysS : List Str := ["option", "on", "off", "var", "round", "end", "set", "if", "else", "when", "draw", "first", "second", "show", "both", "pay", "take", "pick", "mod", "player", "keep", "lot", "while", "answer", "view", "long"]
def isKey (x : Str) : Bool := keysS.any fun k => k == x
def isLet (c : Nat) : Bool := decide (97 ≤ c ∧ c ≤ 122)
def headLet (cs : List Nat) : Bool := match cs with | [] => false | c :: _ => isLet c
def isName (x : Str) : Bool := !isKey x && decide (1 ≤ x.length ∧ x.length ≤ 12) && headLet x.cps.toList && x.cps.toList.all fun c => isLet c || isDig c
theorem letters (c : Nat) : decide (c ∈ ("abcdefghijklmnopqrstuvwxyz" : Str).cps.toList) = isLet c := by
  have e : ("abcdefghijklmnopqrstuvwxyz" : Str).cps.toList = List.range' 97 26 := by decide +kernel
  unfold isLet
  rw [e]
  refine decide_eq_decide.mpr ?_
  rw [List.mem_range'_1]
  omega
theorem digits (c : Nat) : decide (c ∈ ("0123456789" : Str).cps.toList) = isDig c := by
  have e : ("0123456789" : Str).cps.toList = List.range' 48 10 := by decide +kernel
  unfold isDig
  rw [e]
  refine decide_eq_decide.mpr ?_
  rw [List.mem_range'_1]
  omega
theorem go_inKeys {K : PySem.W.Frag} {H : Hp} {Q : VK} {p : Addr} {x : Str} (h : SqL K H p (keysS.map V.str) ∨ SqT K H p (keysS.map V.str)) (q : Q (.bl (isKey x)) H) : rIn K false (.str x) (.ref p) H Q :=
  ⟨p, _, rfl, h, rfl, Gx.flat_strs keysS, by rw [inV_str]; exact q⟩
theorem go_niKeys {K : PySem.W.Frag} {H : Hp} {Q : VK} {p : Addr} {x : Str} (h : SqL K H p (keysS.map V.str) ∨ SqT K H p (keysS.map V.str)) (q : Q (.bl (!isKey x)) H) : rIn K true (.str x) (.ref p) H Q :=
  ⟨p, _, rfl, h, rfl, Gx.flat_strs keysS, by rw [inV_str]; exact q⟩
open Classical in
/-- what number_of reads -/
noncomputable def numOf (x : Str) : Option Nat :=
  if x.cps.toList.all isDig = true ∧ x.cps.toList ≠ [] ∧ (∀ r, x.cps.toList = 48 :: r → r = []) ∧ NumText.digitsVal x.cps.toList ≤ 65535 then some (NumText.digitsVal x.cps.toList) else none
def optV : Option Nat → V
  | none => .non
  | some n => .int (n : Int)
theorem numOf_len {x : Str} {n : Nat} (h : numOf x = some n) : x.length ≤ 5 ∧ 1 ≤ x.length := by
  unfold numOf at h
  split at h
  · rename_i c
    obtain ⟨c1, c2, c3, c4⟩ := c
    have e := numL_canon _ (allDig c1) c2 c3
    have := TL.numL_len (n := NumText.digitsVal x.cps.toList) (k := 5) (by decide) (by omega)
    rw [e] at this
    have h2 : 0 < x.cps.toList.length := List.length_pos_iff.mpr c2
    rw [len_toList]
    omega
  · cases h
theorem numOf_no {x : Str} (h : ¬ (1 ≤ x.length ∧ x.length ≤ 5)) : numOf x = none := by
  cases e : numOf x with
  | none => rfl
  | some n => have := numOf_len e; omega
theorem numOf_bad {x : Str} {i c : Nat} (h : x.cps.toList[i]? = some c) (hc : isDig c = false) : numOf x = none := by
  refine if_neg fun z => ?_
  have := List.all_eq_true.mp z.1 c (List.mem_of_getElem? h)
  rw [hc] at this
  cases this
/-- the first i signs fit in a name -/
def nameTo (x : Str) (i : Nat) : Bool := (i == 0 || headLet x.cps.toList) && (x.cps.toList.take i).all fun c => isLet c || isDig c
theorem nameTo_0 (x : Str) : nameTo x 0 = true := rfl
theorem take_succ_all {p : Nat → Bool} {l : List Nat} {i c : Nat} (h : l[i]? = some c) : (l.take (i + 1)).all p = ((l.take i).all p && p c) := by
  rw [List.take_add_one, h, List.all_append]
  simp
theorem nameTo_succ {x : Str} {i c : Nat} (h : x.cps.toList[i]? = some c) : nameTo x (i + 1) = (nameTo x i && (isLet c || (decide (0 < i) && isDig c))) := by
  unfold nameTo
  rw [take_succ_all h]
  cases i with
  | zero =>
    cases e : x.cps.toList with
    | nil => rw [e] at h; cases h
    | cons d r =>
      rw [e] at h
      cases h
      cases h1 : isLet c <;> cases h2 : isDig c <;> simp [headLet, h1, h2]
  | succ j =>
    simp [Bool.and_assoc]
theorem name_all (x : Str) : ((decide (1 ≤ x.length ∧ x.length ≤ 12) && !isKey x) && nameTo x x.cps.toList.length) = isName x := by
  unfold isName nameTo
  rw [List.take_length]
  by_cases h : 1 ≤ x.length ∧ x.length ≤ 12
  · have : (x.cps.toList.length == 0) = false := by
      rw [← len_toList]
      simp
      omega
    rw [decide_eq_true h, this]
    simp [Bool.and_assoc]
  · rw [decide_eq_false h]
    simp
theorem keys_spl : TL.spl [32] 0 [] (Str.ofString "option on off var round end set if else when draw first second show both pay take pick mod player keep lot" ++ Str.ofString " while answer view long").cps.toList = keysS.map fun k => k.cps.toList := by decide +kernel
theorem keys_split : ((TL.spl [32] 0 [] (Str.ofString "option on off var round end set if else when draw first second show both pay take pick mod player keep lot" ++ Str.ofString " while answer view long").cps.toList).map fun w => V.str (S w)) = keysS.map V.str := by
  rw [keys_spl, List.map_map]
  rfl
theorem lt_a (c : Nat) : decide ((S [c]).cps.toList < (Str.ofString "a").cps.toList) = decide (c < 97) := by
  rw [show Str.ofString "a" = S [97] by decide +kernel, lt_sign]
theorem lt_z (c : Nat) : decide ((Str.ofString "z").cps.toList < (S [c]).cps.toList) = decide (122 < c) := by
  rw [show Str.ofString "z" = S [122] by decide +kernel, lt_sign]
theorem lt_0 (c : Nat) : decide ((S [c]).cps.toList < (Str.ofString "0").cps.toList) = decide (c < 48) := by
  rw [show Str.ofString "0" = S [48] by decide +kernel, lt_sign]
theorem lt_9 (c : Nat) : decide ((Str.ofString "9").cps.toList < (S [c]).cps.toList) = decide (57 < c) := by
  rw [show Str.ofString "9" = S [57] by decide +kernel, lt_sign]
theorem len5 : (Str.ofString (toString (65535 : Int))).length = 5 := by decide +kernel
theorem at_str {ks : List Str} {n : Nat} {k : Int} (h0 : 0 ≤ k) (h : k < ks.length) (hn : ks.all (fun y => decide (y.length ≤ n)) = true) : ∃ y : Str, y.length ≤ n ∧ atI (ks.map V.str) k = some (.str y) := by
  obtain ⟨v, hv, e⟩ := at_pick (xs := ks.map V.str) h0 (by rw [List.length_map]; exact h)
  obtain ⟨y, hy, rfl⟩ := List.mem_map.mp hv
  exact ⟨y, by simpa using List.all_eq_true.mp hn y hy, e⟩
theorem len_cat (a b : Str) : (a ++ b).length = a.length + b.length := by
  have e : (S a.cps.toList ++ S b.cps.toList).length = a.cps.toList.length + b.cps.toList.length := by rw [SX.S_cat, SX.S_len, List.length_append]
  rw [len_toList a, len_toList b]
  exact e
theorem go_splitX {H : Hp} {Q : VK} {x : Str} (hl : x.length ≤ 90000) {c : Nat} (hc : c < 256) (h : ∀ p, H p = none → Q (.ref p) (upd H p (.lst ((TL.spl [c] 0 [] x.cps.toList).map fun w => V.str (S w))))) : qSplit (.str x) [.str (S [c])] H Q :=
  go_split (a := x.cps.toList) (by rw [← len_toList]; exact hl) hc h
theorem log2_10 {n k : Nat} (h : n < 10 ^ k) (hk : k ≤ 400) : n.log2 < 1920 := by
  have h2 : n < 2 ^ (1599 + 1) := by
    refine Nat.lt_of_lt_of_le h ?_
    refine Nat.le_trans (Nat.pow_le_pow_right (by decide) hk) ?_
    decide +kernel
  have := log2_le h2
  omega

/-- letters and digits, a letter first -/
structure Body (x : Str) (n : Nat) : Prop where
  all : (x.cps.toList.all fun c => isLet c || isDig c) = true
  head : headLet x.cps.toList = true
  len : x.length ≤ n
  pos : 1 ≤ x.length
theorem Body.one {c : Nat} (h : isLet c = true) : Body (S [c]) 1 := ⟨by show ((isLet c || isDig c) && true) = true; rw [h]; rfl, h, Nat.le_refl _, Nat.le_refl _⟩
theorem cat_list (a b : Str) : (a ++ b).cps.toList = a.cps.toList ++ b.cps.toList := TL.tl_append a b
theorem Body.snoc {x : Str} {n c : Nat} (h : Body x n) (hc : (isLet c || isDig c) = true) : Body (x ++ S [c]) (n + 1) := by
  refine ⟨?_, ?_, ?_, ?_⟩
  · rw [cat_list, List.all_append, h.all]
    show (true && ((isLet c || isDig c) && true)) = true
    rw [hc]
    rfl
  · rw [cat_list]
    have := h.head
    cases e : x.cps.toList with
    | nil => rw [e] at this; cases this
    | cons d r => rw [e] at this; exact this
  · rw [len_cat]
    have := h.len
    show x.length + 1 ≤ n + 1
    omega
  · rw [len_cat]
    have := h.pos
    omega
theorem Body.name {x : Str} {n : Nat} (h : Body x n) (hn : n ≤ 12) (hk : (keysS.any fun k => k == x) = false) : isName x = true := by
  have hk2 : isKey x = false := hk
  unfold isName
  rw [hk2, h.all, h.head, decide_eq_true (show 1 ≤ x.length ∧ x.length ≤ 12 from ⟨h.pos, Nat.le_trans h.len hn⟩)]
  rfl
theorem signs_list : (Str.ofString "abcdefghijklmnopqrstuvwxyz0123456789").cps.toList = List.range' 97 26 ++ List.range' 48 10 := by decide +kernel
theorem sign_any {k : Int} {c : Nat} (h : atI (Str.ofString "abcdefghijklmnopqrstuvwxyz0123456789").cps.toList k = some c) : (isLet c || isDig c) = true := by
  have hm : c ∈ (Str.ofString "abcdefghijklmnopqrstuvwxyz0123456789").cps.toList := by
    unfold atI at h
    cases e : ixN (Str.ofString "abcdefghijklmnopqrstuvwxyz0123456789").cps.toList.length k with
    | none => rw [e] at h; cases h
    | some i => rw [e, Option.bind_some] at h; exact List.mem_of_getElem? h
  rw [signs_list, List.mem_append, List.mem_range'_1, List.mem_range'_1] at hm
  unfold isLet isDig
  simp
  omega
theorem sign_let {k : Int} {c : Nat} (h : atI (Str.ofString "abcdefghijklmnopqrstuvwxyz0123456789").cps.toList k = some c) (h0 : 0 ≤ k) (h1 : k < 26) : isLet c = true := by
  have e : k = (k.toNat : Int) := by omega
  rw [e, signs_list] at h
  have h2 : (List.range' 97 26 ++ List.range' 48 10)[k.toNat]? = some c := by
    have e2 := atI_nat (xs := List.range' 97 26 ++ List.range' 48 10) (j := k.toNat) (List.getElem?_eq_getElem (by simp; omega))
    rw [h] at e2
    rw [e2, List.getElem?_eq_getElem (by simp; omega)]
  rw [List.getElem?_append_left (by simp; omega), List.getElem?_range' (by omega)] at h2
  cases h2
  unfold isLet
  simp
  omega
def vName (k : Nat) : Str := Str.ofString "v" ++ S (TL.numL k)
theorem vName_all : (List.range 20).all (fun k => isName (vName k)) = true := by decide +kernel
theorem vName_ok {k : Nat} (h : k < 20) : isName (vName k) = true := List.all_eq_true.mp vName_all k (List.mem_range.mpr h)
theorem vName_nodup : ((List.range 20).map vName).Nodup := by decide +kernel
theorem pig : ∀ (l ts : List Str), l.Nodup → (∀ x ∈ l, x ∈ ts) → l.length ≤ ts.length
  | [], _, _, _ => Nat.zero_le _
  | a :: l, ts, hn, h => by
    have ha := h a List.mem_cons_self
    obtain ⟨h1, h2⟩ := List.nodup_cons.mp hn
    obtain ⟨s, t, rfl⟩ := List.append_of_mem ha
    have := pig l (s ++ t) h2 fun x hx => by
      have hx2 := h x (List.mem_cons_of_mem _ hx)
      rcases List.mem_append.mp hx2 with z | z
      · exact List.mem_append_left _ z
      · rcases List.mem_cons.mp z with z | z
        · exact absurd (z ▸ hx) h1
        · exact List.mem_append_right _ z
    rw [List.length_append] at this
    rw [List.length_cons, List.length_append, List.length_cons]
    omega
theorem pig20 {ts : List Str} (h : ∀ k, k < 20 → vName k ∈ ts) : 20 ≤ ts.length := by
  have := pig ((List.range 20).map vName) ts vName_nodup fun x hx => by
    obtain ⟨k, hk, rfl⟩ := List.mem_map.mp hx
    exact h k (List.mem_range.mp hk)
  simpa using this
theorem any_yes {ts : List Str} {x : Str} (h : (!ts.any fun k => k == x) = false) : x ∈ ts := by
  have : (ts.any fun k => k == x) = true := by simpa using h
  obtain ⟨k, hk, e⟩ := List.any_eq_true.mp this
  have : k = x := by simpa using e
  exact this ▸ hk
theorem any_no {ts : List Str} {x : Str} (h : (ts.any fun k => k == x) = false) : x ∉ ts := fun hm => by
  have := List.any_eq_false.mp h x hm
  simp at this
theorem any_not {ts : List Str} {x : Str} (h : (!ts.any fun k => k == x) = true) : x ∉ ts := any_no (by simpa using h)
theorem nodup_snoc {α : Type} {l : List α} {a : α} (h : l.Nodup) (ha : a ∉ l) : (l ++ [a]).Nodup := by
  rw [List.nodup_append]
  exact ⟨h, by simp, fun x hx y hy e => ha (by rw [List.mem_singleton.mp hy] at e; exact e ▸ hx)⟩
theorem name_ok {x : Str} (h : isName x = true) : PyData.strOk x = true ∧ x.length ≤ 12 := by
  unfold isName at h
  simp only [Bool.and_eq_true, decide_eq_true_eq] at h
  refine ⟨?_, h.1.1.2.2⟩
  show (x.cps.all (· < 0x110000)) = true
  rw [← Array.all_toList, List.all_eq_true]
  intro c hc
  have := List.all_eq_true.mp h.2 c hc
  unfold isLet isDig at this
  simp at this ⊢
  omega
theorem go_inStrs {K : PySem.W.Frag} {H : Hp} {Q : VK} {p : Addr} {x : Str} {ks : List Str} (h : SqL K H p (ks.map V.str) ∨ SqT K H p (ks.map V.str)) (q : Q (.bl (ks.any fun k => k == x)) H) : rIn K false (.str x) (.ref p) H Q :=
  ⟨p, _, rfl, h, rfl, Gx.flat_strs ks, by rw [inV_str]; exact q⟩
theorem go_niStrs {K : PySem.W.Frag} {H : Hp} {Q : VK} {p : Addr} {x : Str} {ks : List Str} (h : SqL K H p (ks.map V.str) ∨ SqT K H p (ks.map V.str)) (q : Q (.bl (!ks.any fun k => k == x)) H) : rIn K true (.str x) (.ref p) H Q :=
  ⟨p, _, rfl, h, rfl, Gx.flat_strs ks, by rw [inV_str]; exact q⟩

theorem dp1 {K : PySem.W.Frag} {H : Hp} {xs : List V} {a : PyData} (h : DpAll K H xs [a]) : ∃ x, xs = [x] ∧ Dp K H x a := by
  cases h with | cons h1 h2 => cases h2; exact ⟨_, rfl, h1⟩
theorem dp2 {K : PySem.W.Frag} {H : Hp} {xs : List V} {a b : PyData} (h : DpAll K H xs [a, b]) : ∃ x y, xs = [x, y] ∧ Dp K H x a ∧ Dp K H y b := by
  cases h with | cons h1 h2 => cases h2 with | cons h3 h4 => cases h4; exact ⟨_, _, rfl, h1, h3⟩
theorem dp3 {K : PySem.W.Frag} {H : Hp} {xs : List V} {a b c : PyData} (h : DpAll K H xs [a, b, c]) : ∃ x y z, xs = [x, y, z] ∧ Dp K H x a ∧ Dp K H y b ∧ Dp K H z c := by
  cases h with | cons h1 h2 => cases h2 with | cons h3 h4 => cases h4 with | cons h5 h6 => cases h6; exact ⟨_, _, _, rfl, h1, h3, h5⟩
theorem dp4 {K : PySem.W.Frag} {H : Hp} {xs : List V} {a b c d : PyData} (h : DpAll K H xs [a, b, c, d]) : ∃ x y z w, xs = [x, y, z, w] ∧ Dp K H x a ∧ Dp K H y b ∧ Dp K H z c ∧ Dp K H w d := by
  cases h with | cons h1 h2 => cases h2 with | cons h3 h4 => cases h4 with | cons h5 h6 => cases h6 with | cons h7 h8 => cases h8; exact ⟨_, _, _, _, rfl, h1, h3, h5, h7⟩
theorem dpS {K : PySem.W.Frag} {H : Hp} {x : V} {z : Str} (h : Dp K H x (.str z)) : x = .str z := by cases h; rfl
theorem dpI {K : PySem.W.Frag} {H : Hp} {x : V} {z : Int} (h : Dp K H x (.int z)) : x = .int z := by cases h; rfl
theorem at_get {seen : List Int} {k : Int} (h0 : 0 ≤ k) (h : k < seen.length) : atI (seen.map V.int) k = some (.int (seen.getD k.toNat 0)) := at_int h0 h
theorem sign_ne {s : Nat} (h : s < 7) : ¬ signS s = "number" ∧ ¬ signS s = "variable" ∧ ¬ signS s = "long" ∧ ¬ signS s = "view" ∧ ¬ signS s = "pick" := by
  rcases sign_cases h with rfl | rfl | rfl | rfl | rfl | rfl | rfl <;> decide +kernel

theorem at_sign9 {k : Int} (h0 : 0 ≤ k) (h : k < 9) : ∃ s, s < 7 ∧ atI [V.str "+", .str "-", .str "*", .str "/", .str "mod", .str "<", .str "=", .str "+", .str "-"] k = some (.str (signS s)) := by
  obtain rfl | rfl | rfl | rfl | rfl | rfl | rfl | rfl | rfl : k = 0 ∨ k = 1 ∨ k = 2 ∨ k = 3 ∨ k = 4 ∨ k = 5 ∨ k = 6 ∨ k = 7 ∨ k = 8 := by omega
  · exact ⟨0, by decide, rfl⟩
  · exact ⟨1, by decide, rfl⟩
  · exact ⟨2, by decide, rfl⟩
  · exact ⟨3, by decide, rfl⟩
  · exact ⟨4, by decide, rfl⟩
  · exact ⟨5, by decide, rfl⟩
  · exact ⟨6, by decide, rfl⟩
  · exact ⟨0, by decide, rfl⟩
  · exact ⟨1, by decide, rfl⟩
theorem at_view {seen : List Int} {k : Int} (h0 : 0 ≤ k) : atI ((seen ++ [0]).map V.int) (if (seen.length : Int) < k then (seen.length : Int) else k) = some (.int (if k < seen.length then seen.getD k.toNat 0 else 0)) := by
  by_cases h : k < seen.length
  · rw [if_neg (by omega), if_pos h]
    rw [at_int h0 (by simp; omega), List.getD_eq_getElem?_getD, List.getElem?_append_left (by omega), ← List.getD_eq_getElem?_getD]
  · have e : (if (seen.length : Int) < k then (seen.length : Int) else k) = ((seen.length : Nat) : Int) := by split <;> omega
    rw [e, if_neg h]
    refine at_nat ?_
    simp

theorem in3 {s : Nat} (h : s < 7) : (["-", "mod", "<"] : List Str).any (fun k => k == signS s) = decide (s = 1 ∨ s = 4 ∨ s = 5) := by
  rcases sign_cases h with rfl | rfl | rfl | rfl | rfl | rfl | rfl <;> decide +kernel
theorem in4a {s : Nat} (h : s < 7) : (["-", "*", "/", "mod"] : List Str).any (fun k => k == signS s) = decide (s = 1 ∨ s = 2 ∨ s = 3 ∨ s = 4) := by
  rcases sign_cases h with rfl | rfl | rfl | rfl | rfl | rfl | rfl <;> decide +kernel
theorem in4b {s : Nat} (h : s < 7) : (["*", "/", "mod", "<"] : List Str).any (fun k => k == signS s) = decide (s = 2 ∨ s = 3 ∨ s = 4 ∨ s = 5) := by
  rcases sign_cases h with rfl | rfl | rfl | rfl | rfl | rfl | rfl <;> decide +kernel
theorem in2a {s : Nat} (h : s < 7) : (["+", "-"] : List Str).any (fun k => k == signS s) = decide (s = 0 ∨ s = 1) := by
  rcases sign_cases h with rfl | rfl | rfl | rfl | rfl | rfl | rfl <;> decide +kernel
theorem in2b {s : Nat} (h : s < 7) : (["*", "/"] : List Str).any (fun k => k == signS s) = decide (s = 2 ∨ s = 3) := by
  rcases sign_cases h with rfl | rfl | rfl | rfl | rfl | rfl | rfl <;> decide +kernel
theorem is6 {s : Nat} (h : s < 7) : decide (signS s = Str.ofString "=") = decide (s = 6) := by
  rcases sign_cases h with rfl | rfl | rfl | rfl | rfl | rfl | rfl <;> decide +kernel
theorem is4 {s : Nat} (h : s < 7) : decide (signS s = Str.ofString "mod") = decide (s = 4) := by
  rcases sign_cases h with rfl | rfl | rfl | rfl | rfl | rfl | rfl <;> decide +kernel
theorem is0 {s : Nat} (h : s < 7) : decide (signS s = Str.ofString "+") = decide (s = 0) := by
  rcases sign_cases h with rfl | rfl | rfl | rfl | rfl | rfl | rfl <;> decide +kernel
theorem is2 {s : Nat} (h : s < 7) : decide (signS s = Str.ofString "*") = decide (s = 2) := by
  rcases sign_cases h with rfl | rfl | rfl | rfl | rfl | rfl | rfl <;> decide +kernel
theorem is1 {s : Nat} (h : s < 7) : decide (signS s = Str.ofString "-") = decide (s = 1) := by
  rcases sign_cases h with rfl | rfl | rfl | rfl | rfl | rfl | rfl <;> decide +kernel
theorem is3 {s : Nat} (h : s < 7) : decide (signS s = Str.ofString "/") = decide (s = 3) := by
  rcases sign_cases h with rfl | rfl | rfl | rfl | rfl | rfl | rfl <;> decide +kernel
theorem is5 {s : Nat} (h : s < 7) : decide (signS s = Str.ofString "<") = decide (s = 5) := by
  rcases sign_cases h with rfl | rfl | rfl | rfl | rfl | rfl | rfl <;> decide +kernel
/-- an expression's tuple: its head, its number if it is one -/
theorem ex_tup {K : PySem.W.Frag} {H : Hp} {v : V} {e : Ex} (h : Dp K H v (exD e)) : ∃ a xs, v = .ref a ∧ SqT K H a (.str (headS e) :: xs) ∧ DpAll K H xs (restD e) := by
  rw [exD_form] at h
  obtain ⟨a, xs, rfl, h1, h2⟩ := dp_tup h
  cases h2 with
  | cons h3 h4 => cases dpS h3; exact ⟨a, _, rfl, h1, h4⟩
theorem head_num {e : Ex} {ns ps : List Str} {d : Nat} (h : ExIn ns ps d e) : decide (headS e = Str.ofString "number") = isNum e := by
  cases d with
  | zero => exact h.elim
  | succ d =>
    cases e with
    | num n => exact decide_eq_true rfl
    | op s a b => exact decide_eq_false (signS_not h.1).1
    | var x => exact decide_eq_false (by show ¬ (Str.ofString "variable" = Str.ofString "number"); decide +kernel)
    | long => exact decide_eq_false (by show ¬ (Str.ofString "long" = Str.ofString "number"); decide +kernel)
    | view e => exact decide_eq_false (by show ¬ (Str.ofString "view" = Str.ofString "number"); decide +kernel)
    | pick x a b => exact decide_eq_false (by show ¬ (Str.ofString "pick" = Str.ofString "number"); decide +kernel)
theorem rest_num {K : PySem.W.Frag} {H : Hp} {xs : List V} {e : Ex} (h : isNum e = true) (hx : DpAll K H xs (restD e)) : xs = [.int (numVal e)] := by
  cases e with
  | num n =>
    obtain ⟨x, rfl, h1⟩ := dp1 hx
    cases dpI h1
    rfl
  | _ => exact absurd h Bool.false_ne_true
theorem ixs1 {x y : V} {l : List V} : atI (x :: y :: l) 1 = some y := at_1
theorem shaped_num {n : Int} : SeqAt.shaped (exD (.num n)) = true := by
  show SeqAt.shaped (.tuple [.str "number", .int n]) = true
  unfold SeqAt.shaped
  have h1 : PyData.canLay0 (.tuple [.str "number", .int n]) = true := by
    simp only [PyData.canLay0, PyData.canLayAll0, Bool.and_true]
    decide +kernel
  have h2 : PyData.depth (.tuple [.str "number", .int n]) ≤ 64 := by simp [PyData.depth, PyData.depthAll]
  rw [h1, decide_eq_true h2]
  rfl

theorem in_signs {s : Nat} (h : s < 7) : (signsS.any fun k => k == signS s) = true := by
  rcases sign_cases h with rfl | rfl | rfl | rfl | rfl | rfl | rfl <;> decide +kernel
theorem at_sign11 {k : Int} (h0 : 0 ≤ k) (h : k < 11) : ∃ s, s < 7 ∧ atI [V.str "+", .str "-", .str "*", .str "/", .str "mod", .str "<", .str "=", .str "+", .str "-", .str "*", .str "/"] k = some (.str (signS s)) := by
  obtain rfl | rfl | rfl | rfl | rfl | rfl | rfl | rfl | rfl | rfl | rfl : k = 0 ∨ k = 1 ∨ k = 2 ∨ k = 3 ∨ k = 4 ∨ k = 5 ∨ k = 6 ∨ k = 7 ∨ k = 8 ∨ k = 9 ∨ k = 10 := by omega
  · exact ⟨0, by decide, rfl⟩
  · exact ⟨1, by decide, rfl⟩
  · exact ⟨2, by decide, rfl⟩
  · exact ⟨3, by decide, rfl⟩
  · exact ⟨4, by decide, rfl⟩
  · exact ⟨5, by decide, rfl⟩
  · exact ⟨6, by decide, rfl⟩
  · exact ⟨0, by decide, rfl⟩
  · exact ⟨1, by decide, rfl⟩
  · exact ⟨2, by decide, rfl⟩
  · exact ⟨3, by decide, rfl⟩
def sp_fold_block (K : PySem.W.Frag) (n : Nat) : Sp := fun vs H Q _ => ∃ (v : V) (o : Addr) (ss : List Stm) (ns ps : List Str) (on : Str → Bool), vs = [v, .ref o] ∧ Dp K H v (blD ss) ∧ (∀ s ∈ ss, StIn ns ps n s) ∧ cnts ss ≤ 20000 ∧ 0 < n ∧ n ≤ 8 ∧ OnOk H o ps on ∧ (∀ x ∈ ns, PyData.strOk x = true) ∧ (∀ x ∈ ps, PyData.strOk x = true) ∧ ∀ v' H', Same H H' → Dp K H' v' (blD (foldB on ss)) → Q v' H'
def sp_fold_statement (K : PySem.W.Frag) (n : Nat) : Sp := fun vs H Q _ => ∃ (v : V) (o : Addr) (s : Stm) (ns ps : List Str) (on : Str → Bool), vs = [v, .ref o] ∧ Dp K H v (stD s) ∧ StIn ns ps n s ∧ cnt s ≤ 20000 ∧ n ≤ 8 ∧ OnOk H o ps on ∧ (∀ x ∈ ns, PyData.strOk x = true) ∧ (∀ x ∈ ps, PyData.strOk x = true) ∧ ∀ v' H', Same H H' → Dp K H' v' (blD (foldS on s)) → Q v' H'
def sp_fold_branch (K : PySem.W.Frag) (n : Nat) : Sp := fun vs H Q _ => ∃ (v : V) (o : Addr) (t : Ex) (a b : List Stm) (ns ps : List Str) (on : Str → Bool), vs = [v, .ref o] ∧ Dp K H v (stD (.iff t a b)) ∧ StIn ns ps n (.iff t a b) ∧ cnt (.iff t a b) ≤ 20000 ∧ n ≤ 8 ∧ OnOk H o ps on ∧ (∀ x ∈ ns, PyData.strOk x = true) ∧ (∀ x ∈ ps, PyData.strOk x = true) ∧ ∀ v' H', Same H H' → Dp K H' v' (blD (foldS on (.iff t a b))) → Q v' H'
def sp__law_fold_block (K : PySem.W.Frag) (n : Nat) : Sp := fun vs H Q _ => ∃ (v : V) (o : Addr) (ss : List Stm) (ns ps : List Str) (on : Str → Bool), vs = [v, .ref o] ∧ Dp K H v (blD ss) ∧ (∀ s ∈ ss, StIn ns ps n s) ∧ cnts ss ≤ 20000 ∧ 0 < n ∧ n ≤ 8 ∧ OnOk H o ps on ∧ (∀ x ∈ ns, PyData.strOk x = true) ∧ (∀ x ∈ ps, PyData.strOk x = true) ∧ ∀ v' H', Same H H' → Dp K H' v' (blD (foldB on ss)) → Q v' H'
def sp__law_fold_statement (K : PySem.W.Frag) (n : Nat) : Sp := fun vs H Q _ => ∃ (v : V) (o : Addr) (s : Stm) (ns ps : List Str) (on : Str → Bool), vs = [v, .ref o] ∧ Dp K H v (stD s) ∧ StIn ns ps n s ∧ cnt s ≤ 20000 ∧ n ≤ 8 ∧ OnOk H o ps on ∧ (∀ x ∈ ns, PyData.strOk x = true) ∧ (∀ x ∈ ps, PyData.strOk x = true) ∧ ∀ v' H', Same H H' → Dp K H' v' (blD (foldS on s)) → Q v' H'
def sp__law_block (K : PySem.W.Frag) (n : Nat) : Sp := fun vs H Q _ => ∃ (p : Pl) (b : Int) (nl pl st : Addr) (ns ps : List Str) (d : Int), vs = [.ref p.a, .ref nl, .ref pl, .int d, .ref st] ∧ Pool H p b ∧ H nl = some (.lst (ns.map V.str)) ∧ H pl = some (.lst (ps.map V.str)) ∧ (nl ≠ p.a ∧ pl ≠ p.a ∧ nl ≠ st ∧ pl ≠ st ∧ st ≠ p.a ∧ st ≠ p.l) ∧ (∃ i j : Int, H st = some (.lst [.int i, .int j])) ∧ ns.length ≤ 100 ∧ ps.length ≤ 100 ∧ d + 1 = n ∧ 0 ≤ d ∧ ∀ v ss b' H', (∀ s ∈ ss, StIn ns ps n s) → cnts ss ≤ 5 ^ n → Dp K H' v (blD ss) → T2 p st b' H H' → Q v H'
def sp__law_statement (K : PySem.W.Frag) (n : Nat) : Sp := fun vs H Q _ => ∃ (p : Pl) (b : Int) (nl pl st : Addr) (ns ps : List Str) (d : Int), vs = [.ref p.a, .ref nl, .ref pl, .int d, .ref st] ∧ Pool H p b ∧ H nl = some (.lst (ns.map V.str)) ∧ H pl = some (.lst (ps.map V.str)) ∧ (nl ≠ p.a ∧ pl ≠ p.a ∧ nl ≠ st ∧ pl ≠ st ∧ st ≠ p.a ∧ st ≠ p.l) ∧ (∃ i j : Int, H st = some (.lst [.int i, .int j])) ∧ ns.length ≤ 100 ∧ ps.length ≤ 100 ∧ d + 1 = n ∧ 0 ≤ d ∧ ∀ v s b' H', StIn ns ps n s → 5 * cnt s ≤ 5 ^ n → Dp K H' v (stD s) → T2 p st b' H H' → Q v H'
theorem zB {P : Prop} {n : Nat} (hn : n = 0) (h : 0 < n) : P := absurd h (by omega)

end K24
namespace K24
open PySem PySem.Spec PyProof.Rows L2 Gx
section
variable {P : Program} {w : World} {K : PySem.W.Frag} {mg : Str → Option Value} {base : Heap} {A : Ad}
def sp_combine (K : PySem.W.Frag) : Sp := fun vs H Q _ => ∃ (sg : Str) (k : Nat) (l r : Int), vs = [.str sg, .int l, .int r] ∧ k < 7 ∧ sg = signS k ∧ (0 ≤ l ∧ l < 65536) ∧ (0 ≤ r ∧ r < 65536) ∧ Q (.int (comb k l r)) H
theorem G_combine (T : Txt P K mg A) : FnOk P w K mg base CX0 1 A.f_combine A.d_combine ["sign", "left", "right"] (sp_combine K) := by
  refine (T.F_combine.ok (k := 0) sc_combine (fun vs H Q E h => ?_) (fun cdv Ar outer s H vs Q E hr h => ?_))
  · obtain ⟨sg, k, l, r, rfl, _⟩ := h
    rfl
  · obtain ⟨sg, k, l, r, rfl, hk, hs, hl, hr2, q⟩ := h
    obtain ⟨l0, l1⟩ := hl
    obtain ⟨r0, r1⟩ := hr2
    refine ⟨_, (pss_cons (ps_if (pt_cmpR op_eq (pv 0) pe_str (nomark _))
        (pss_one (ps_ret (pe_op op_mod (pe_op op_add (pv 1) (pv 2)) (pe_op op_add (pe_glob (v := (.int 65535)) rfl T.v_GREATEST.choose_spec ⟨_, rfl⟩) pe_int))))
        pss_nil)
      (pss_cons (ps_if (pt_cmpR op_eq (pv 0) pe_str (nomark _))
        (pss_one (ps_ret (pe_callB (k_max2 rfl) (by rfl) T.n_max (by decide +kernel) (pa_cons pe_int (pa_cons (pe_op op_sub (pv 1) (pv 2)) pa_nil)))))
        pss_nil)
      (pss_cons (ps_if (pt_cmpR op_eq (pv 0) pe_str (nomark _))
        (pss_one (ps_ret (pe_op op_mod (pe_op op_mul (pv 1) (pv 2)) (pe_op op_add (pe_glob (v := (.int 65535)) rfl T.v_GREATEST.choose_spec ⟨_, rfl⟩) pe_int))))
        pss_nil)
      (pss_cons (ps_if (pt_cmpR op_eq (pv 0) pe_str (nomark _))
        (pss_one (ps_ret (pe_ifExp (pt_cmpR op_gt (pv 2) pe_int (nomark _)) (pe_op op_fdiv (pv 1) (pv 2)) pe_int)))
        pss_nil)
      (pss_cons (ps_if (pt_cmpR op_eq (pv 0) pe_str (nomark _))
        (pss_one (ps_ret (pe_ifExp (pt_cmpR op_gt (pv 2) pe_int (nomark _)) (pe_op op_mod (pv 1) (pv 2)) pe_int)))
        pss_nil)
      (pss_cons (ps_if (pt_cmpR op_eq (pv 0) pe_str (nomark _))
        (pss_one (ps_ret (pe_callTy k_int1 (by rfl) T.n_int (by decide +kernel) (pa_cons (pe_cmpR op_lt (pv 1) (pv 2) (nomark _)) pa_nil))))
        pss_nil)
      (pss_one (ps_ret (pe_callTy k_int1 (by rfl) T.n_int (by decide +kernel) (pa_cons (pe_cmpR op_eq (pv 1) (pv 2) (nomark _)) pa_nil)))))))))), ?_⟩
    try dsimp only [cxOf, Cx.nox, Cx.wish]
    rcases sign_cases hk with rfl | rfl | rfl | rfl | rfl | rfl | rfl
    · obtain rfl : sg = "+" := hs
      walk_at "go"
      exact q
    · obtain rfl : sg = "-" := hs
      walk_at "go"
      exact q
    · obtain rfl : sg = "*" := hs
      walk_at "go"
      exact q
    · obtain rfl : sg = "/" := hs
      walk_at "go"
      walk_at "br"
      · intro h
        walk_at "go"
        rw [show comb 3 l r = l / r from if_pos h] at q
        exact q
      · intro h
        walk_at "go"
        rw [show comb 3 l r = 0 from if_neg h] at q
        exact q
    · obtain rfl : sg = "mod" := hs
      walk_at "go"
      walk_at "br"
      · intro h
        walk_at "go"
        rw [show comb 4 l r = l % r from if_pos h] at q
        exact q
      · intro h
        walk_at "go"
        rw [show comb 4 l r = 0 from if_neg h] at q
        exact q
    · obtain rfl : sg = "<" := hs
      walk_at "go"
      rw [show comb 5 l r = if decide (l < r) = true then 1 else 0 by simp [comb]] at q
      exact q
    · obtain rfl : sg = "=" := hs
      walk_at "go"
      rw [show comb 6 l r = if decide (l = r) = true then 1 else 0 by simp [comb]] at q
      exact q
end
end K24

namespace K24
open PySem PySem.Spec PyProof.Rows L2 Gx
section
variable {P : Program} {w : World} {K : PySem.W.Frag} {mg : Str → Option Value} {base : Heap} {A : Ad}
def sp__law_pool (K : PySem.W.Frag) : Sp := fun vs H Q _ => ∃ (a : Addr) (ns : List Int) (b : Int), vs = [.ref a, .int b] ∧ SqL K H a (ns.map V.int) ∧ ns.length ≤ 100000 ∧ ∀ (p : Pl) H', p.ns = ns → H p.a = none → H p.l = none → Same H H' → Pool H' p b → Q (.ref p.a) H'
theorem G__law_pool (T : Txt P K mg A) : FnOk P w K mg base CX0 1 A.f__law_pool A.d__law_pool ["_law_script", "_law_budget"] (sp__law_pool K) := by
  refine (T.F__law_pool.ok (k := 0) sc__law_pool (fun vs H Q E h => ?_) (fun cdv Ar outer s H vs Q E hr h => ?_))
  · obtain ⟨a, ns, b, rfl, _⟩ := h
    rfl
  · obtain ⟨a, ns, b, rfl, hs, hl, q⟩ := h
    refine ⟨_, (pss_one (ps_ret (pe_lst (pa_cons (pe_callTy k_list_of (by rfl) T.n_list (by decide +kernel) (pa_cons (pv 0) pa_nil)) (pa_cons pe_int (pa_cons pe_int (pa_cons pe_int (pa_cons pe_int (pa_cons (pv 1) pa_nil))))))))), ?_⟩
    try dsimp only [cxOf, Cx.nox, Cx.wish]
    walk_at "go"
    refine go_listOfL hs fun l hl => ?_
    walk_at "go"
    refine ⟨by show 6 ≤ sizeLine; decide, fun p hp => ?_⟩
    have n : l ≠ p := fun e => by rw [e, upd_same] at hp; cases hp
    exact q ⟨p, l, ns⟩ _ rfl (by rw [upd_ne n.symm] at hp; exact hp) hl ((same_new hl).trans (same_new hp)) ⟨⟨0, 0, 1, 0, upd_same, by decide, by decide, by decide⟩, by show upd _ p _ l = _; rw [upd_ne n, upd_same], n⟩
end
end K24

namespace K24
open PySem PySem.Spec PyProof.Rows L2 Gx
section
variable {P : Program} {w : World} {K : PySem.W.Frag} {mg : Str → Option Value} {base : Heap} {A : Ad}
def sp__law_draw (K : PySem.W.Frag) : Sp := fun vs H Q _ => ∃ (p : Pl) (b k : Int), vs = [.ref p.a, .int k] ∧ Pool H p b ∧ 0 < k ∧ k < 1073741824 ∧ ∀ v H', 0 ≤ v → v < k → Turn p b H H' → Q (.int v) H'
theorem G__law_draw (T : Txt P K mg A) : FnOk P w K mg base CX0 1 A.f__law_draw A.d__law_draw ["_law_pool_here", "_law_size"] (sp__law_draw K) := by
  refine (T.F__law_draw.ok (k := 0) sc__law_draw (fun vs H Q E h => ?_) (fun cdv Ar outer s H vs Q E hr h => ?_))
  · obtain ⟨p, b, k, rfl, _⟩ := h
    rfl
  · obtain ⟨p, b, k, rfl, hp, hk0, hk1, q⟩ := h
    obtain ⟨p1, p2, p3, p4, e, h1, h3, h3'⟩ := id hp.ex
    have hn := hp.ne
    have eli := hp.li
    refine ⟨_, (Evl.pss_cut (ps_if (PW.pt (pw_and (pt_cmpR op_le (pe_ix ix_list (pv 0) pe_int (fun _ _ => rfl)) pe_int (nomark _)) (pw_and (pt_cmpR op_le (pe_ix ix_list (pv 0) pe_int (fun _ _ => rfl)) pe_int (nomark _)) (pw_and1 (pt_cmpR op_lt (pe_ix ix_list (pv 0) pe_int (fun _ _ => rfl)) (pe_callB k_len (by rfl) T.n_len (by decide +kernel) (pa_cons (pe_ix ix_list (pv 0) pe_int (fun _ _ => rfl)) pa_nil)) (nomark _))))))
        (pss_cons (ps_set (i := 2) sc__law_draw.nd rfl (Or.inl rfl) (pe_ix ix_list (pe_ix ix_list (pv 0) pe_int (fun _ _ => rfl)) (pe_ix ix_list (pv 0) pe_int (fun _ _ => rfl)) (fun _ _ => rfl)))
      (pss_cons (ps_asg (pe_op op_add (pe_ix ix_list (pv 0) pe_int (fun _ _ => rfl)) pe_int) (pg_sub (pv 0) pe_int set_list))
      (pss_cons (ps_asg (pe_op op_mod (pe_callTy k_int1 (by rfl) T.n_int (by decide +kernel) (pa_cons (pe_op op_add (pe_op op_mul (pe_ix ix_list (pv 0) pe_int (fun _ _ => rfl)) pe_int) (pv 2)) pa_nil)) pe_int) (pg_sub (pv 0) pe_int set_list))
      (pss_cons (ps_asg pe_int (pg_sub (pv 0) pe_int set_list))
      (pss_one (ps_if (pt_cmpR op_ge (pv 2) (pe_op op_pow pe_int pe_int) (nomark _))
        (pss_one (ps_asg (pv 2) (pg_sub (pv 0) pe_int set_list)))
        pss_nil))))))
        pss_nil)
      (pss_cons (ps_if (pt_cmpR op_gt (pe_ix ix_list (pv 0) pe_int (fun _ _ => rfl)) pe_int (nomark _))
        (pss_cons (ps_set (i := 3) sc__law_draw.nd rfl (Or.inl rfl) (pe_op op_mod (pe_callTy k_int1 (by rfl) T.n_int (by decide +kernel) (pa_cons (pe_ix ix_list (pv 0) pe_int (fun _ _ => rfl)) pa_nil)) (pv 1)))
      (pss_cons (ps_asg (pe_op op_fdiv (pe_ix ix_list (pv 0) pe_int (fun _ _ => rfl)) (pv 1)) (pg_sub (pv 0) pe_int set_list))
      (pss_cons (ps_asg pe_int (pg_sub (pv 0) pe_int set_list))
      (pss_one (ps_ret (pv 3))))))
        pss_nil)
      (pss_cons (ps_asg (pe_op op_sub (pe_ix ix_list (pv 0) pe_int (fun _ _ => rfl)) pe_int) (pg_sub (pv 0) pe_int set_list))
      (pss_cons (ps_asg (pe_op op_mod (pe_callTy k_int1 (by rfl) T.n_int (by decide +kernel) (pa_cons (pe_op op_add (pe_op op_mul (pe_ix ix_list (pv 0) pe_int (fun _ _ => rfl)) pe_int) pe_int) pa_nil)) pe_int) (pg_sub (pv 0) pe_int set_list))
      (pss_one (ps_ret (pe_op op_mod (pe_op op_mod (pe_callTy k_int1 (by rfl) T.n_int (by decide +kernel) (pa_cons (pe_op op_add (pe_op op_mul (pe_ix ix_list (pv 0) pe_int (fun _ _ => rfl)) pe_int) pe_int) pa_nil)) pe_int) (pv 1)))))))), ?_⟩
    try dsimp only [cxOf, Cx.nox, Cx.wish]
    walk_at "go"
    refine go_cut (fun σ' H' => ∃ (x : Option V) (p1 p2 p3 p4 : Int), σ' = [some (.ref p.a), some (.int k), x, none] ∧ H' p.a = some (.lst [.ref p.l, .int p1, .int p2, .int p3, .int p4, .int b]) ∧ But p.a H H' ∧ 0 ≤ p1 ∧ 0 ≤ p3 ∧ p3 < 2147483647) ?_ ?_
    · walk_at "go"
      have skip : ∃ (x : Option V) (p1 p2 p3 p4 : Int), L2.start ["_law_pool_here", "_law_size", "_law_cell", "_law_value"] [.ref p.a, .int k] = [some (.ref p.a), some (.int k), x, none] ∧ H p.a = some (.lst [.ref p.l, .int p1, .int p2, .int p3, .int p4, .int b]) ∧ But p.a H H ∧ 0 ≤ p1 ∧ 0 ≤ p3 ∧ p3 < 2147483647 :=
        ⟨none, p1, p2, p3, p4, rfl, e, .refl _ _, h1, h3, h3'⟩
      walk_at "br"
      · intro _
        walk_at "go"
        walk_at "br"
        · intro _
          walk_at "go"
          refine go_lenL (.of eli) ?_
          walk_at "go"
          rw [List.length_map]
          walk_at "br"
          · intro h
            walk_at "go"
            refine go_ixL (.of eli) (at_int h1 h) ?_
            walk_at "go"
            generalize p.ns.getD p1.toNat 0 = c
            have hm := Int.emod_nonneg (p3 * 31 + c) (b := 2147483647) (by decide)
            have hm' := Int.emod_lt_of_pos (p3 * 31 + c) (b := 2147483647) (by decide)
            walk_at "br"
            · intro _
              walk_at "go"
              exact ⟨_, _, _, _, _, rfl, upd_same, (But.refl _ _).upd, by omega, hm, hm'⟩
            · intro _
              walk_at "go"
              exact ⟨_, _, _, _, _, rfl, upd_same, (But.refl _ _).upd, by omega, hm, hm'⟩
          · intro _
            walk_at "go"
            exact skip
        · intro _
          walk_at "go"
          exact skip
      · intro _
        walk_at "go"
        exact skip
    rintro σ2 H2 ⟨x, p1, p2, p3, p4, rfl, e2, b2, h1, h3, h3'⟩
    walk_at "go"
    have fin : ∀ (r1 r2 r3 r4 : Int), 0 ≤ r1 → 0 ≤ r3 → r3 < 2147483647 → Turn p b H (upd H2 p.a (.lst [.ref p.l, .int r1, .int r2, .int r3, .int r4, .int b])) := fun r1 r2 r3 r4 k1 k3 k4 =>
      ⟨⟨⟨r1, r2, r3, r4, upd_same, k1, k3, k4⟩, b2.upd _ _ hn hp.li, hn⟩, b2.upd⟩
    walk_at "br"
    · intro _
      walk_at "go"
      refine q _ _ (Int.emod_nonneg _ (by omega)) (Int.emod_lt_of_pos _ hk0) (fin p1 (p2 / k) p3 0 h1 h3 h3')
    · intro _
      walk_at "go"
      refine q _ _ (Int.emod_nonneg _ (by omega)) (Int.emod_lt_of_pos _ hk0) (fin p1 p2 _ (p4 - 1) h1 (Int.emod_nonneg _ (by decide)) (Int.emod_lt_of_pos _ (by decide)))
end
end K24

namespace K24
open PySem PySem.Spec PyProof.Rows L2 Gx
section
variable {P : Program} {w : World} {K : PySem.W.Frag} {mg : Str → Option Value} {base : Heap} {A : Ad}
def sp__law_spend (K : PySem.W.Frag) : Sp := fun vs H Q _ => ∃ (p : Pl) (b : Int), vs = [.ref p.a] ∧ Pool H p b ∧ ∀ (r : Bool) H', Turn p (b - 1) H H' → Q (.bl r) H'
theorem G__law_spend (T : Txt P K mg A) : FnOk P w K mg base CX0 1 A.f__law_spend A.d__law_spend ["_law_pool_here"] (sp__law_spend K) := by
  refine (T.F__law_spend.ok (k := 0) sc__law_spend (fun vs H Q E h => ?_) (fun cdv Ar outer s H vs Q E hr h => ?_))
  · obtain ⟨p, b, rfl, _⟩ := h
    rfl
  · obtain ⟨p, b, rfl, hp, q⟩ := h
    obtain ⟨p1, p2, p3, p4, e, h1, h3, h4⟩ := id hp.ex
    refine ⟨_, (pss_cons (ps_asg (pe_op op_sub (pe_ix ix_list (pv 0) pe_int (fun _ _ => rfl)) pe_int) (pg_sub (pv 0) pe_int set_list))
      (pss_one (ps_ret (pe_cmpR op_ge (pe_ix ix_list (pv 0) pe_int (fun _ _ => rfl)) pe_int (nomark _))))), ?_⟩
    try dsimp only [cxOf, Cx.nox, Cx.wish]
    walk_at "go"
    exact q _ _ ⟨⟨⟨p1, p2, p3, p4, upd_same, h1, h3, h4⟩, by rw [upd_ne hp.ne]; exact hp.li, hp.ne⟩, (But.refl _ _).upd⟩
end
end K24

namespace K24
open PySem PySem.Spec PyProof.Rows L2 Gx
section
variable {P : Program} {w : World} {K : PySem.W.Frag} {mg : Str → Option Value} {base : Heap} {A : Ad}
def sp__law_keys (K : PySem.W.Frag) : Sp := fun vs H Q _ => vs = [] ∧ ∀ p H', Same H H' → H p = none → H' p = some (.lst (keysS.map V.str)) → Q (.ref p) H'
theorem G__law_keys (T : Txt P K mg A) : FnOk P w K mg base CX0 1 A.f__law_keys A.d__law_keys [] (sp__law_keys K) := by
  refine (T.F__law_keys.ok (k := 0) sc__law_keys (fun vs H Q E h => ?_) (fun cdv Ar outer s H vs Q E hr h => ?_))
  · obtain ⟨rfl, _⟩ := h
    rfl
  · obtain ⟨rfl, q⟩ := h
    refine ⟨_, (pss_cons (ps_set (i := 0) sc__law_keys.nd rfl (Or.inl rfl) pe_str)
      (pss_one (ps_ret (e_split (pe_op o_add_str (pv 0) pe_str) pe_str)))), ?_⟩
    try dsimp only [cxOf, Cx.nox, Cx.wish]
    walk_at "go"
    refine go_addS (by decide +kernel) ?_
    walk_at "go"
    refine go_splitX (c := 32) (by decide +kernel) (by decide) fun p hp => q p _ (same_new hp) hp ?_
    rw [upd_same, keys_split]
end
end K24

namespace K24
open PySem PySem.Spec PyProof.Rows L2 Gx
section
variable {P : Program} {w : World} {K : PySem.W.Frag} {mg : Str → Option Value} {base : Heap} {A : Ad}
def sp__law_combine (K : PySem.W.Frag) : Sp := fun vs H Q _ => ∃ (sg : Str) (k : Nat) (l r : Int), vs = [.str sg, .int l, .int r] ∧ k < 7 ∧ sg = signS k ∧ (0 ≤ l ∧ l < 65536) ∧ (0 ≤ r ∧ r < 65536) ∧ Q (.int (comb k l r)) H
theorem G__law_combine (T : Txt P K mg A) : FnOk P w K mg base CX0 1 A.f__law_combine A.d__law_combine ["_law_sign", "_law_a", "_law_b"] (sp__law_combine K) := by
  refine (T.F__law_combine.ok (k := 0) sc__law_combine (fun vs H Q E h => ?_) (fun cdv Ar outer s H vs Q E hr h => ?_))
  · obtain ⟨sg, k, l, r, rfl, _⟩ := h
    rfl
  · obtain ⟨sg, k, l, r, rfl, hk, hs, hl, hr2, q⟩ := h
    obtain ⟨l0, l1⟩ := hl
    obtain ⟨r0, r1⟩ := hr2
    refine ⟨_, (pss_cons (ps_if (pt_cmpR op_eq (pv 0) pe_str (nomark _))
        (pss_one (ps_ret (pe_op op_sub (pe_op op_add (pv 1) (pv 2)) (pe_op op_mul pe_int (pe_callTy k_int1 (by rfl) T.n_int (by decide +kernel) (pa_cons (pe_cmpR op_gt (pe_op op_add (pv 1) (pv 2)) pe_int (nomark _)) pa_nil))))))
        pss_nil)
      (pss_cons (ps_if (pt_cmpR op_eq (pv 0) pe_str (nomark _))
        (pss_one (ps_ret (pe_op op_mul (pe_op op_sub (pv 1) (pv 2)) (pe_callTy k_int1 (by rfl) T.n_int (by decide +kernel) (pa_cons (pe_cmpR op_gt (pv 1) (pv 2) (nomark _)) pa_nil)))))
        pss_nil)
      (pss_cons (ps_if (pt_cmpR op_eq (pv 0) pe_str (nomark _))
        (pss_one (ps_ret (pe_op op_sub (pe_op op_mul (pv 1) (pv 2)) (pe_op op_mul (pe_op op_fdiv (pe_op op_mul (pv 1) (pv 2)) pe_int) pe_int))))
        pss_nil)
      (pss_cons (ps_if (pt_cmpR op_eq (pv 0) pe_str (nomark _))
        (pss_one (ps_ret (pe_callTy k_int1 (by rfl) T.n_int (by decide +kernel) (pa_cons (pe_cmpR op_lt (pv 1) (pv 2) (nomark _)) pa_nil))))
        pss_nil)
      (pss_cons (ps_if (pt_cmpR op_eq (pv 0) pe_str (nomark _))
        (pss_one (ps_ret (pe_callTy k_int1 (by rfl) T.n_int (by decide +kernel) (pa_cons (pe_cmpR op_eq (pv 1) (pv 2) (nomark _)) pa_nil))))
        pss_nil)
      (pss_cons (ps_if (pt_cmpR op_eq (pv 2) pe_int (nomark _))
        (pss_one (ps_ret pe_int))
        pss_nil)
      (pss_cons (ps_set (i := 3) sc__law_combine.nd rfl (Or.inl rfl) (pe_op op_fdiv (pv 1) (pv 2)))
      (pss_cons (ps_if (pt_cmpR op_eq (pv 0) pe_str (nomark _))
        (pss_one (ps_ret (pv 3)))
        pss_nil)
      (pss_one (ps_ret (pe_op op_sub (pv 1) (pe_op op_mul (pv 3) (pv 2))))))))))))), ?_⟩
    try dsimp only [cxOf, Cx.nox, Cx.wish]
    rcases sign_cases hk with rfl | rfl | rfl | rfl | rfl | rfl | rfl
    · obtain rfl : sg = "+" := hs
      walk_at "go"
      have e : comb 0 l r = l + r - 65536 * (if decide (65535 < l + r) = true then 1 else 0) := by
        show (l + r) % 65536 = _
        by_cases h : 65535 < l + r
        · rw [decide_eq_true h, if_pos rfl]; omega
        · rw [decide_eq_false h, if_neg Bool.false_ne_true]; omega
      rw [e] at q
      exact q
    · obtain rfl : sg = "-" := hs
      walk_at "go"
      have e : comb 1 l r = (l - r) * (if decide (r < l) = true then 1 else 0) := by
        show (if l - r > 0 then l - r else 0) = _
        by_cases h : r < l
        · rw [decide_eq_true h, if_pos rfl, if_pos (by omega)]; omega
        · rw [decide_eq_false h, if_neg Bool.false_ne_true, if_neg (by omega)]; omega
      rw [e] at q
      exact q
    · obtain rfl : sg = "*" := hs
      have m0 : 0 ≤ l * r := Int.mul_nonneg l0 r0
      have m1 : l * r ≤ 65535 * 65535 := Int.mul_le_mul (by omega) (by omega) r0 (by decide)
      walk_at "go"
      have e : comb 2 l r = l * r - l * r / 65536 * 65536 := by
        show l * r % 65536 = _
        omega
      rw [e] at q
      exact q
    · obtain rfl : sg = "/" := hs
      walk_at "go"
      walk_at "br"
      · intro h
        subst h
        walk_at "go"
        exact q
      · intro h
        walk_at "go"
        rw [show comb 3 l r = l / r from if_pos (by omega)] at q
        exact q
    · obtain rfl : sg = "mod" := hs
      walk_at "go"
      walk_at "br"
      · intro h
        subst h
        walk_at "go"
        exact q
      · intro h
        have d0 : 0 ≤ l / r := Int.ediv_nonneg l0 r0
        have d1 : l / r ≤ l := Int.ediv_le_self _ l0
        walk_at "go"
        have e : comb 4 l r = l - l / r * r := by
          rw [show comb 4 l r = l % r from if_pos (by omega), Int.emod_def, Int.mul_comm]
        rw [e] at q
        exact q
    · obtain rfl : sg = "<" := hs
      walk_at "go"
      rw [show comb 5 l r = if decide (l < r) = true then 1 else 0 by simp [comb]] at q
      exact q
    · obtain rfl : sg = "=" := hs
      walk_at "go"
      rw [show comb 6 l r = if decide (l = r) = true then 1 else 0 by simp [comb]] at q
      exact q
end
end K24

namespace K24
open PySem PySem.Spec PyProof.Rows L2 Gx
section
variable {P : Program} {w : World} {K : PySem.W.Frag} {mg : Str → Option Value} {base : Heap} {A : Ad}
def sp_fold_pair (K : PySem.W.Frag) : Sp := fun vs H Q _ => ∃ (k : Nat) (x y : V) (a b : Ex) (ns ps : List Str) (d : Nat), vs = [.str (signS k), x, y] ∧ k < 7 ∧ Dp K H x (exD a) ∧ Dp K H y (exD b) ∧ ExIn ns ps d a ∧ ExIn ns ps d b ∧ d ≤ 40 ∧ (∀ x ∈ ns, PyData.strOk x = true) ∧ (∀ x ∈ ps, PyData.strOk x = true) ∧ ∀ v H', Same H H' → Dp K H' v (exD (foldP k a b)) → Q v H'
theorem G_fold_pair (T : Txt P K mg A) : FnOk P w K mg base CX0 2 A.f_fold_pair A.d_fold_pair ["sign", "left", "right"] (sp_fold_pair K) := by
  refine (T.F_fold_pair.ok (k := 1) sc_fold_pair (fun vs H Q E h => ?_) (fun cdv Ar outer s H vs Q E hr h => ?_))
  · obtain ⟨k, x, y, a, b, ns, ps, d, rfl, _⟩ := h
    rfl
  · obtain ⟨k, x, y, a, b, ns, ps, d, rfl, hk, hx, hy, ha, hb, hd, hns, hps, q⟩ := h
    obtain ⟨p1, xs, rfl, hp1, hxs⟩ := ex_tup hx
    obtain ⟨p2, ys, rfl, hp2, hys⟩ := ex_tup hy
    have sa := exD_shaped hns hps ha (by omega)
    have sb := exD_shaped hns hps hb (by omega)
    have s0 := shaped_num (n := 0)
    have s1 := shaped_num (n := 1)

    have z0 : ∀ H' : Hp, Dp K H' (.ref A.k_ZERO) (exD (.num 0)) := fun H' => .tup (T.kt_ZERO H') (.cons (.str _) (.cons (.int _) .nil))
    have z1 : ∀ H' : Hp, Dp K H' (.ref A.k_ONE) (exD (.num 1)) := fun H' => .tup (T.kt_ONE H') (.cons (.str _) (.cons (.int _) .nil))
    refine ⟨_, (Evl.pss_cut (ps_if (PW.pt (pw_and (pt_cmpR op_eq (pe_ix ix_tup (pv 1) pe_int (fun _ _ => rfl)) pe_str (nomark _)) (pw_and1 (pt_cmpR op_eq (pe_ix ix_tup (pv 2) pe_int (fun _ _ => rfl)) pe_str (nomark _)))))
        (pss_one (ps_ret (pe_tup (pa_cons pe_str (pa_cons (pe_call (G_combine T) (hr.mono (by decide)) rfl T.m_combine T.F_combine.kp T.b_combine .nil pass0 (pa_cons (pv 0) (pa_cons (pe_ix ix_tup (pv 1) pe_int (fun _ _ => rfl)) (pa_cons (pe_ix ix_tup (pv 2) pe_int (fun _ _ => rfl)) pa_nil)))) pa_nil)))))
        pss_nil)
      (Evl.pss_cut (ps_if (PW.pt (pw_and (pt_cmpR (op_eqD hr.units) (pv 1) (pv 2) (nomark _)) (pw_and1 (pt_cmpR op_in_seq (pv 0) (pe_tup (pa_cons pe_str (pa_cons pe_str (pa_cons pe_str pa_nil)))) (by rfl)))))
        (pss_one (ps_ret (pe_glob (v := .ref A.k_ZERO) rfl T.m_ZERO rfl)))
        pss_nil)
      (Evl.pss_cut (ps_if (PW.pt (pw_and (pt_cmpR (op_eqD hr.units) (pv 1) (pv 2) (nomark _)) (pw_and1 (pt_cmpR op_eq (pv 0) pe_str (nomark _)))))
        (pss_one (ps_ret (pe_glob (v := .ref A.k_ONE) rfl T.m_ONE rfl)))
        pss_nil)
      (Evl.pss_cut (ps_if (PW.pt (pw_and (pt_cmpR (op_eqD hr.units) (pv 1) (pe_glob (v := .ref A.k_ZERO) rfl T.m_ZERO rfl) (nomark _)) (pw_and1 (pt_cmpR op_in_seq (pv 0) (pe_tup (pa_cons pe_str (pa_cons pe_str (pa_cons pe_str (pa_cons pe_str pa_nil))))) (by rfl)))))
        (pss_one (ps_ret (pe_glob (v := .ref A.k_ZERO) rfl T.m_ZERO rfl)))
        pss_nil)
      (Evl.pss_cut (ps_if (PW.pt (pw_and (pt_cmpR (op_eqD hr.units) (pv 2) (pe_glob (v := .ref A.k_ZERO) rfl T.m_ZERO rfl) (nomark _)) (pw_and1 (pt_cmpR op_in_seq (pv 0) (pe_tup (pa_cons pe_str (pa_cons pe_str (pa_cons pe_str (pa_cons pe_str pa_nil))))) (by rfl)))))
        (pss_one (ps_ret (pe_glob (v := .ref A.k_ZERO) rfl T.m_ZERO rfl)))
        pss_nil)
      (Evl.pss_cut (ps_if (PW.pt (pw_and (pt_cmpR (op_eqD hr.units) (pv 2) (pe_glob (v := .ref A.k_ONE) rfl T.m_ONE rfl) (nomark _)) (pw_and1 (pt_cmpR op_eq (pv 0) pe_str (nomark _)))))
        (pss_one (ps_ret (pe_glob (v := .ref A.k_ZERO) rfl T.m_ZERO rfl)))
        pss_nil)
      (Evl.pss_cut (ps_if (PW.pt (pw_or (PW.pt (pw_and (pt_cmpR (op_eqD hr.units) (pv 1) (pe_glob (v := .ref A.k_ZERO) rfl T.m_ZERO rfl) (nomark _)) (pw_and1 (pt_cmpR op_eq (pv 0) pe_str (nomark _))))) (pw_or1 (PW.pt (pw_and (pt_cmpR (op_eqD hr.units) (pv 1) (pe_glob (v := .ref A.k_ONE) rfl T.m_ONE rfl) (nomark _)) (pw_and1 (pt_cmpR op_eq (pv 0) pe_str (nomark _))))))))
        (pss_one (ps_ret (pv 2)))
        pss_nil)
      (Evl.pss_cut (ps_if (PW.pt (pw_or (PW.pt (pw_and (pt_cmpR (op_eqD hr.units) (pv 2) (pe_glob (v := .ref A.k_ZERO) rfl T.m_ZERO rfl) (nomark _)) (pw_and1 (pt_cmpR op_in_seq (pv 0) (pe_tup (pa_cons pe_str (pa_cons pe_str pa_nil))) (by rfl))))) (pw_or1 (PW.pt (pw_and (pt_cmpR (op_eqD hr.units) (pv 2) (pe_glob (v := .ref A.k_ONE) rfl T.m_ONE rfl) (nomark _)) (pw_and1 (pt_cmpR op_in_seq (pv 0) (pe_tup (pa_cons pe_str (pa_cons pe_str pa_nil))) (by rfl))))))))
        (pss_one (ps_ret (pv 1)))
        pss_nil)
      (pss_one (ps_ret (pe_tup (pa_cons (pv 0) (pa_cons (pv 1) (pa_cons (pv 2) pa_nil)))))))))))))), ?_⟩
    try dsimp only [cxOf, Cx.nox, Cx.wish]
    have s : Same H H := Same.refl H
    walk_at "go"

    refine go_cut (fun σ' H' => σ' = [some (.str (signS k)), some (.ref p1), some (.ref p2)] ∧ Same H H' ∧ (isNum a && isNum b) = false) ?_ ?_
    · walk_at "go"
      rw [head_num ha]
      walk_at "br"
      · intro h1
        walk_at "go"
        rw [head_num hb]
        walk_at "br"
        · intro h2
          obtain rfl := rest_num h1 hxs
          obtain rfl := rest_num h2 hys
          walk_at "go"
          refine ⟨_, k, numVal a, numVal b, rfl, hk, rfl, numVal_in ha, numVal_in hb, ?_⟩
          walk_at "go"
          refine ⟨by show 2 ≤ sizeLine; decide, fun u nu => ?_⟩
          refine q _ _ (s.trans (same_new nu)) ?_
          have e : foldP k a b = .num (comb k (numVal a) (numVal b)) := by simp only [foldP, h1, h2, Bool.and_self, if_true]
          rw [e]
          exact .tup (.inl (.inl upd_same)) (.cons (.str _) (.cons (.int _) .nil))
        · intro h2
          walk_at "go"
          exact ⟨rfl, s, by rw [h1, h2]; rfl⟩
      · intro h1
        walk_at "go"
        exact ⟨rfl, s, by rw [h1]; rfl⟩
    clear s
    rintro σ' H1 ⟨rfl, s, c1⟩
    refine go_cut (fun σ' H' => σ' = [some (.str (signS k)), some (.ref p1), some (.ref p2)] ∧ Same H H' ∧ (eqX a b && decide (k = 1 ∨ k = 4 ∨ k = 5)) = false) ?_ ?_
    · walk_at "go"
      refine go_eqX (dp_same s _ _ hx) (dp_same s _ _ hy) sa sb ?_
      walk_at "go"
      walk_at "br"
      · intro h1
        walk_at "go"
        refine ⟨by show 3 ≤ sizeLine; decide, fun u nu => ?_⟩
        walk_at "go"
        refine go_inStrs (ks := ["-", "mod", "<"]) (.inr (.inl (.inl upd_same))) ?_
        rw [in3 hk]
        have s' := s.trans (same_new (o := .tup ((["-", "mod", "<"] : List Str).map V.str)) nu)
        walk_at "go"
        walk_at "br"
        · intro h2
          walk_at "go"
          have hc : (eqX a b && decide (k = 1 ∨ k = 4 ∨ k = 5)) = true := by rw [h1, decide_eq_true h2]; rfl
          refine q _ _ s' ?_
          have e : foldP k a b = .num 0 := by simp only [foldP, c1, hc, Bool.false_eq_true, if_true, if_false]
          rw [e]
          exact z0 _
        · intro h2
          walk_at "go"
          exact ⟨rfl, s', by rw [h1, decide_eq_false h2]; rfl⟩
      · intro h1
        walk_at "go"
        exact ⟨rfl, s, by rw [h1]; rfl⟩
    clear s
    rintro σ' H1 ⟨rfl, s, c2⟩
    refine go_cut (fun σ' H' => σ' = [some (.str (signS k)), some (.ref p1), some (.ref p2)] ∧ Same H H' ∧ (eqX a b && decide (k = 6)) = false) ?_ ?_
    · walk_at "go"
      refine go_eqX (dp_same s _ _ hx) (dp_same s _ _ hy) sa sb ?_
      walk_at "go"
      walk_at "br"
      · intro h1
        walk_at "go"
        rw [is6 hk]
        have s' := s
        walk_at "br"
        · intro h2
          walk_at "go"
          have hc : (eqX a b && decide (k = 6)) = true := by rw [h1, decide_eq_true h2]; rfl
          refine q _ _ s' ?_
          have e : foldP k a b = .num 1 := by simp only [foldP, c1, c2, hc, Bool.false_eq_true, if_true, if_false]
          rw [e]
          exact z1 _
        · intro h2
          walk_at "go"
          exact ⟨rfl, s', by rw [h1, decide_eq_false h2]; rfl⟩
      · intro h1
        walk_at "go"
        exact ⟨rfl, s, by rw [h1]; rfl⟩
    clear s
    rintro σ' H1 ⟨rfl, s, c3⟩
    refine go_cut (fun σ' H' => σ' = [some (.str (signS k)), some (.ref p1), some (.ref p2)] ∧ Same H H' ∧ (eqX a (.num 0) && decide (k = 1 ∨ k = 2 ∨ k = 3 ∨ k = 4)) = false) ?_ ?_
    · walk_at "go"
      refine go_eqX (dp_same s _ _ hx) (dp_same s _ _ (z0 _)) sa s0 ?_
      walk_at "go"
      walk_at "br"
      · intro h1
        walk_at "go"
        refine ⟨by show 4 ≤ sizeLine; decide, fun u nu => ?_⟩
        walk_at "go"
        refine go_inStrs (ks := ["-", "*", "/", "mod"]) (.inr (.inl (.inl upd_same))) ?_
        rw [in4a hk]
        have s' := s.trans (same_new (o := .tup ((["-", "*", "/", "mod"] : List Str).map V.str)) nu)
        walk_at "go"
        walk_at "br"
        · intro h2
          walk_at "go"
          have hc : (eqX a (.num 0) && decide (k = 1 ∨ k = 2 ∨ k = 3 ∨ k = 4)) = true := by rw [h1, decide_eq_true h2]; rfl
          refine q _ _ s' ?_
          have e : foldP k a b = .num 0 := by simp only [foldP, c1, c2, c3, hc, Bool.false_eq_true, if_true, if_false]
          rw [e]
          exact z0 _
        · intro h2
          walk_at "go"
          exact ⟨rfl, s', by rw [h1, decide_eq_false h2]; rfl⟩
      · intro h1
        walk_at "go"
        exact ⟨rfl, s, by rw [h1]; rfl⟩
    clear s
    rintro σ' H1 ⟨rfl, s, c4⟩
    refine go_cut (fun σ' H' => σ' = [some (.str (signS k)), some (.ref p1), some (.ref p2)] ∧ Same H H' ∧ (eqX b (.num 0) && decide (k = 2 ∨ k = 3 ∨ k = 4 ∨ k = 5)) = false) ?_ ?_
    · walk_at "go"
      refine go_eqX (dp_same s _ _ hy) (dp_same s _ _ (z0 _)) sb s0 ?_
      walk_at "go"
      walk_at "br"
      · intro h1
        walk_at "go"
        refine ⟨by show 4 ≤ sizeLine; decide, fun u nu => ?_⟩
        walk_at "go"
        refine go_inStrs (ks := ["*", "/", "mod", "<"]) (.inr (.inl (.inl upd_same))) ?_
        rw [in4b hk]
        have s' := s.trans (same_new (o := .tup ((["*", "/", "mod", "<"] : List Str).map V.str)) nu)
        walk_at "go"
        walk_at "br"
        · intro h2
          walk_at "go"
          have hc : (eqX b (.num 0) && decide (k = 2 ∨ k = 3 ∨ k = 4 ∨ k = 5)) = true := by rw [h1, decide_eq_true h2]; rfl
          refine q _ _ s' ?_
          have e : foldP k a b = .num 0 := by simp only [foldP, c1, c2, c3, c4, hc, Bool.false_eq_true, if_true, if_false]
          rw [e]
          exact z0 _
        · intro h2
          walk_at "go"
          exact ⟨rfl, s', by rw [h1, decide_eq_false h2]; rfl⟩
      · intro h1
        walk_at "go"
        exact ⟨rfl, s, by rw [h1]; rfl⟩
    clear s
    rintro σ' H1 ⟨rfl, s, c5⟩
    refine go_cut (fun σ' H' => σ' = [some (.str (signS k)), some (.ref p1), some (.ref p2)] ∧ Same H H' ∧ (eqX b (.num 1) && decide (k = 4)) = false) ?_ ?_
    · walk_at "go"
      refine go_eqX (dp_same s _ _ hy) (dp_same s _ _ (z1 _)) sb s1 ?_
      walk_at "go"
      walk_at "br"
      · intro h1
        walk_at "go"
        rw [is4 hk]
        have s' := s
        walk_at "br"
        · intro h2
          walk_at "go"
          have hc : (eqX b (.num 1) && decide (k = 4)) = true := by rw [h1, decide_eq_true h2]; rfl
          refine q _ _ s' ?_
          have e : foldP k a b = .num 0 := by simp only [foldP, c1, c2, c3, c4, c5, hc, Bool.false_eq_true, if_true, if_false]
          rw [e]
          exact z0 _
        · intro h2
          walk_at "go"
          exact ⟨rfl, s', by rw [h1, decide_eq_false h2]; rfl⟩
      · intro h1
        walk_at "go"
        exact ⟨rfl, s, by rw [h1]; rfl⟩
    clear s
    rintro σ' H1 ⟨rfl, s, c6⟩
    refine go_cut (fun σ' H' => σ' = [some (.str (signS k)), some (.ref p1), some (.ref p2)] ∧ Same H H' ∧ ((eqX a (.num 0) && decide (k = 0)) || (eqX a (.num 1) && decide (k = 2))) = false) ?_ ?_
    · walk_at "go"
      refine go_eqX (dp_same s _ _ hx) (dp_same s _ _ (z0 _)) sa s0 ?_
      walk_at "go"
      walk_at "br"
      · intro h1
        walk_at "go"
        rw [is0 hk]
        have s' := s
        walk_at "br"
        · intro h2
          walk_at "go"
          have hc : ((eqX a (.num 0) && decide (k = 0)) || (eqX a (.num 1) && decide (k = 2))) = true := by rw [h1, decide_eq_true h2]; rfl
          refine q _ _ s' ?_
          have e : foldP k a b = b := by simp only [foldP, c1, c2, c3, c4, c5, c6, hc, Bool.false_eq_true, if_true, if_false]
          rw [e]
          exact dp_same s' _ _ hy
        · intro h2
          walk_at "go"
          have s := s'

          refine go_eqX (dp_same s _ _ hx) (dp_same s _ _ (z1 _)) sa s1 ?_
          walk_at "go"
          walk_at "br"
          · intro h3
            walk_at "go"
            rw [is2 hk]
            have s' := s
            walk_at "br"
            · intro h4
              walk_at "go"
              have hc : ((eqX a (.num 0) && decide (k = 0)) || (eqX a (.num 1) && decide (k = 2))) = true := by rw [h3, decide_eq_true h4, Bool.and_self, Bool.or_true]
              refine q _ _ s' ?_
              have e : foldP k a b = b := by simp only [foldP, c1, c2, c3, c4, c5, c6, hc, Bool.false_eq_true, if_true, if_false]
              rw [e]
              exact dp_same s' _ _ hy
            · intro h4
              walk_at "go"
              exact ⟨rfl, s', by rw [h1, decide_eq_false h2, h3, decide_eq_false h4]; rfl⟩
          · intro h3
            walk_at "go"
            exact ⟨rfl, s, by rw [h1, decide_eq_false h2, h3]; rfl⟩
      · intro h1
        walk_at "go"
        refine go_eqX (dp_same s _ _ hx) (dp_same s _ _ (z1 _)) sa s1 ?_
        walk_at "go"
        walk_at "br"
        · intro h3
          walk_at "go"
          rw [is2 hk]
          have s' := s
          walk_at "br"
          · intro h4
            walk_at "go"
            have hc : ((eqX a (.num 0) && decide (k = 0)) || (eqX a (.num 1) && decide (k = 2))) = true := by rw [h3, decide_eq_true h4, Bool.and_self, Bool.or_true]
            refine q _ _ s' ?_
            have e : foldP k a b = b := by simp only [foldP, c1, c2, c3, c4, c5, c6, hc, Bool.false_eq_true, if_true, if_false]
            rw [e]
            exact dp_same s' _ _ hy
          · intro h4
            walk_at "go"
            exact ⟨rfl, s', by rw [h1, h3, decide_eq_false h4]; rfl⟩
        · intro h3
          walk_at "go"
          exact ⟨rfl, s, by rw [h1, h3]; rfl⟩
    clear s
    rintro σ' H1 ⟨rfl, s, c7⟩
    refine go_cut (fun σ' H' => σ' = [some (.str (signS k)), some (.ref p1), some (.ref p2)] ∧ Same H H' ∧ ((eqX b (.num 0) && decide (k = 0 ∨ k = 1)) || (eqX b (.num 1) && decide (k = 2 ∨ k = 3))) = false) ?_ ?_
    · walk_at "go"
      refine go_eqX (dp_same s _ _ hy) (dp_same s _ _ (z0 _)) sb s0 ?_
      walk_at "go"
      walk_at "br"
      · intro h1
        walk_at "go"
        refine ⟨by show 2 ≤ sizeLine; decide, fun u nu => ?_⟩
        walk_at "go"
        refine go_inStrs (ks := ["+", "-"]) (.inr (.inl (.inl upd_same))) ?_
        rw [in2a hk]
        have s' := s.trans (same_new (o := .tup ((["+", "-"] : List Str).map V.str)) nu)
        walk_at "go"
        walk_at "br"
        · intro h2
          walk_at "go"
          have hc : ((eqX b (.num 0) && decide (k = 0 ∨ k = 1)) || (eqX b (.num 1) && decide (k = 2 ∨ k = 3))) = true := by rw [h1, decide_eq_true h2]; rfl
          refine q _ _ s' ?_
          have e : foldP k a b = a := by simp only [foldP, c1, c2, c3, c4, c5, c6, c7, hc, Bool.false_eq_true, if_true, if_false]
          rw [e]
          exact dp_same s' _ _ hx
        · intro h2
          walk_at "go"
          have s := s'

          refine go_eqX (dp_same s _ _ hy) (dp_same s _ _ (z1 _)) sb s1 ?_
          walk_at "go"
          walk_at "br"
          · intro h3
            walk_at "go"
            refine ⟨by show 2 ≤ sizeLine; decide, fun u nu => ?_⟩
            walk_at "go"
            refine go_inStrs (ks := ["*", "/"]) (.inr (.inl (.inl upd_same))) ?_
            rw [in2b hk]
            have s' := s.trans (same_new (o := .tup ((["*", "/"] : List Str).map V.str)) nu)
            walk_at "go"
            walk_at "br"
            · intro h4
              walk_at "go"
              have hc : ((eqX b (.num 0) && decide (k = 0 ∨ k = 1)) || (eqX b (.num 1) && decide (k = 2 ∨ k = 3))) = true := by rw [h3, decide_eq_true h4, Bool.and_self, Bool.or_true]
              refine q _ _ s' ?_
              have e : foldP k a b = a := by simp only [foldP, c1, c2, c3, c4, c5, c6, c7, hc, Bool.false_eq_true, if_true, if_false]
              rw [e]
              exact dp_same s' _ _ hx
            · intro h4
              walk_at "go"
              exact ⟨rfl, s', by rw [h1, decide_eq_false h2, h3, decide_eq_false h4]; rfl⟩
          · intro h3
            walk_at "go"
            exact ⟨rfl, s, by rw [h1, decide_eq_false h2, h3]; rfl⟩
      · intro h1
        walk_at "go"
        refine go_eqX (dp_same s _ _ hy) (dp_same s _ _ (z1 _)) sb s1 ?_
        walk_at "go"
        walk_at "br"
        · intro h3
          walk_at "go"
          refine ⟨by show 2 ≤ sizeLine; decide, fun u nu => ?_⟩
          walk_at "go"
          refine go_inStrs (ks := ["*", "/"]) (.inr (.inl (.inl upd_same))) ?_
          rw [in2b hk]
          have s' := s.trans (same_new (o := .tup ((["*", "/"] : List Str).map V.str)) nu)
          walk_at "go"
          walk_at "br"
          · intro h4
            walk_at "go"
            have hc : ((eqX b (.num 0) && decide (k = 0 ∨ k = 1)) || (eqX b (.num 1) && decide (k = 2 ∨ k = 3))) = true := by rw [h3, decide_eq_true h4, Bool.and_self, Bool.or_true]
            refine q _ _ s' ?_
            have e : foldP k a b = a := by simp only [foldP, c1, c2, c3, c4, c5, c6, c7, hc, Bool.false_eq_true, if_true, if_false]
            rw [e]
            exact dp_same s' _ _ hx
          · intro h4
            walk_at "go"
            exact ⟨rfl, s', by rw [h1, h3, decide_eq_false h4]; rfl⟩
        · intro h3
          walk_at "go"
          exact ⟨rfl, s, by rw [h1, h3]; rfl⟩
    clear s
    rintro σ' H1 ⟨rfl, s, c8⟩

    walk_at "go"
    refine ⟨by show 3 ≤ sizeLine; decide, fun u nu => ?_⟩
    refine q _ _ (s.trans (same_new nu)) ?_
    have e : foldP k a b = .op k a b := by simp only [foldP, c1, c2, c3, c4, c5, c6, c7, c8, Bool.false_eq_true, if_false]
    rw [e]
    exact .tup (.inl (.inl upd_same)) (.cons (.str _) (.cons (dp_same (s.trans (same_new nu)) _ _ hx) (.cons (dp_same (s.trans (same_new nu)) _ _ hy) .nil)))
end
end K24

namespace K24
open PySem PySem.Spec PyProof.Rows L2 Gx
section
variable {P : Program} {w : World} {K : PySem.W.Frag} {mg : Str → Option Value} {base : Heap} {A : Ad}
def sp__law_few (K : PySem.W.Frag) : Sp := fun vs H Q _ => ∃ (p : Pl) (b m : Int), vs = [.ref p.a, .int m] ∧ Pool H p b ∧ 0 ≤ m ∧ m < 1000 ∧ ∀ v H', 0 ≤ v → v ≤ m → Turn p b H H' → Q (.int v) H'
theorem G__law_few (T : Txt P K mg A) : FnOk P w K mg base CX0 2 A.f__law_few A.d__law_few ["_law_pool_here", "_law_most"] (sp__law_few K) := by
  refine (T.F__law_few.ok (k := 1) sc__law_few (fun vs H Q E h => ?_) (fun cdv Ar outer s H vs Q E hr h => ?_))
  · obtain ⟨p, b, m, rfl, _⟩ := h
    rfl
  · obtain ⟨p, b, m, rfl, hp, hm0, hm1, q⟩ := h
    refine ⟨_, (pss_cons (ps_set (i := 2) sc__law_few.nd rfl (Or.inl rfl) (pe_call (G__law_draw T) (hr.mono (by decide)) rfl T.m__law_draw T.F__law_draw.kp T.b__law_draw .nil pass0 (pa_cons (pv 0) (pa_cons pe_int pa_nil))))
      (pss_cons (ps_if (pt_cmpR op_eq (pv 2) pe_int (nomark _))
        (pss_one (ps_ret (pe_call (G__law_draw T) (hr.mono (by decide)) rfl T.m__law_draw T.F__law_draw.kp T.b__law_draw .nil pass0 (pa_cons (pv 0) (pa_cons (pe_op op_add (pv 1) pe_int) pa_nil)))))
        pss_nil)
      (pss_one (ps_ret (pe_callB (k_min2 rfl) (by rfl) T.n_min (by decide +kernel) (pa_cons (pv 2) (pa_cons (pv 1) pa_nil))))))), ?_⟩
    try dsimp only [cxOf, Cx.nox, Cx.wish]
    walk_at "go"
    refine ⟨p, b, 4, rfl, hp, by decide, by decide, fun v H1 hv0 hv1 t1 => ?_⟩
    walk_at "go"
    walk_at "br"
    · intro _
      walk_at "go"
      exact ⟨p, b, m + 1, rfl, t1.pool, by omega, by omega, fun v H2 h0 h1 t2 => q _ _ h0 (by omega) (t1.trans t2)⟩
    · intro _
      walk_at "go"
      exact q _ _ (by split <;> omega) (by split <;> omega) t1
end
end K24

namespace K24
open PySem PySem.Spec PyProof.Rows L2 Gx
section
variable {P : Program} {w : World} {K : PySem.W.Frag} {mg : Str → Option Value} {base : Heap} {A : Ad}
def sp__law_number (K : PySem.W.Frag) : Sp := fun vs H Q _ => ∃ (p : Pl) (b : Int), vs = [.ref p.a] ∧ Pool H p b ∧ ∀ v H', 0 ≤ v → v < 65536 → Turn p b H H' → Q (.int v) H'
theorem G__law_number (T : Txt P K mg A) : FnOk P w K mg base CX0 2 A.f__law_number A.d__law_number ["_law_pool_here"] (sp__law_number K) := by
  refine (T.F__law_number.ok (k := 1) sc__law_number (fun vs H Q E h => ?_) (fun cdv Ar outer s H vs Q E hr h => ?_))
  · obtain ⟨p, b, rfl, _⟩ := h
    rfl
  · obtain ⟨p, b, rfl, hp, q⟩ := h
    refine ⟨_, (pss_cons (ps_if (pt_cmpR op_eq (pe_call (G__law_draw T) (hr.mono (by decide)) rfl T.m__law_draw T.F__law_draw.kp T.b__law_draw .nil pass0 (pa_cons (pv 0) (pa_cons pe_int pa_nil))) pe_int (nomark _))
        (pss_one (ps_ret (pe_call (G__law_draw T) (hr.mono (by decide)) rfl T.m__law_draw T.F__law_draw.kp T.b__law_draw .nil pass0 (pa_cons (pv 0) (pa_cons pe_int pa_nil)))))
        pss_nil)
      (pss_one (ps_ret (pe_call (G__law_draw T) (hr.mono (by decide)) rfl T.m__law_draw T.F__law_draw.kp T.b__law_draw .nil pass0 (pa_cons (pv 0) (pa_cons pe_int pa_nil)))))), ?_⟩
    try dsimp only [cxOf, Cx.nox, Cx.wish]
    walk_at "go"
    refine ⟨p, b, 3, rfl, hp, by decide, by decide, fun v H1 hv0 hv1 t1 => ?_⟩
    walk_at "go"
    walk_at "br"
    · intro _
      walk_at "go"
      exact ⟨p, b, 65536, rfl, t1.pool, by decide, by decide, fun v H2 h0 h1 t2 => q _ _ h0 h1 (t1.trans t2)⟩
    · intro _
      walk_at "go"
      exact ⟨p, b, 9, rfl, t1.pool, by decide, by decide, fun v H2 h0 h1 t2 => q _ _ h0 (by omega) (t1.trans t2)⟩
end
end K24

namespace K24
open PySem PySem.Spec PyProof.Rows L2 Gx
section
variable {P : Program} {w : World} {K : PySem.W.Frag} {mg : Str → Option Value} {base : Heap} {A : Ad}
def sp__law_fold_pair (K : PySem.W.Frag) : Sp := fun vs H Q _ => ∃ (k : Nat) (x y : V) (a b : Ex) (ns ps : List Str) (d : Nat), vs = [.str (signS k), x, y] ∧ k < 7 ∧ Dp K H x (exD a) ∧ Dp K H y (exD b) ∧ ExIn ns ps d a ∧ ExIn ns ps d b ∧ d ≤ 40 ∧ (∀ x ∈ ns, PyData.strOk x = true) ∧ (∀ x ∈ ps, PyData.strOk x = true) ∧ ∀ v H', Same H H' → Dp K H' v (exD (foldP k a b)) → Q v H'
theorem G__law_fold_pair (T : Txt P K mg A) : FnOk P w K mg base CX0 2 A.f__law_fold_pair A.d__law_fold_pair ["_law_sign", "_law_a", "_law_b"] (sp__law_fold_pair K) := by
  refine (T.F__law_fold_pair.ok (k := 1) sc__law_fold_pair (fun vs H Q E h => ?_) (fun cdv Ar outer s H vs Q E hr h => ?_))
  · obtain ⟨k, x, y, a, b, ns, ps, d, rfl, _⟩ := h
    rfl
  · obtain ⟨k, x, y, a, b, ns, ps, d, rfl, hk, hx, hy, ha, hb, hd, hns, hps, q⟩ := h
    obtain ⟨p1, xs, rfl, hp1, hxs⟩ := ex_tup hx
    obtain ⟨p2, ys, rfl, hp2, hys⟩ := ex_tup hy
    have sa := exD_shaped hns hps ha (by omega)
    have sb := exD_shaped hns hps hb (by omega)
    have s0 := shaped_num (n := 0)
    have s1 := shaped_num (n := 1)

    refine ⟨_, (pss_cons (ps_set (i := 3) sc__law_fold_pair.nd rfl (Or.inl rfl) (pe_tup (pa_cons pe_str (pa_cons pe_int pa_nil))))
      (pss_cons (ps_set (i := 4) sc__law_fold_pair.nd rfl (Or.inl rfl) (pe_tup (pa_cons pe_str (pa_cons pe_int pa_nil))))
      (Evl.pss_cut (ps_if (PW.pt (pw_and (pt_cmpR op_eq (pe_ix ix_tup (pv 1) pe_int (fun _ _ => rfl)) pe_str (nomark _)) (pw_and1 (pt_cmpR op_eq (pe_ix ix_tup (pv 2) pe_int (fun _ _ => rfl)) pe_str (nomark _)))))
        (pss_one (ps_ret (pe_tup (pa_cons pe_str (pa_cons (pe_call (G__law_combine T) (hr.mono (by decide)) rfl T.m__law_combine T.F__law_combine.kp T.b__law_combine .nil pass0 (pa_cons (pv 0) (pa_cons (pe_ix ix_tup (pv 1) pe_int (fun _ _ => rfl)) (pa_cons (pe_ix ix_tup (pv 2) pe_int (fun _ _ => rfl)) pa_nil)))) pa_nil)))))
        pss_nil)
      (Evl.pss_cut (ps_if (PW.pt (pw_and (pt_cmpR (op_eqD hr.units) (pv 1) (pv 2) (nomark _)) (pw_and (pt_cmpR op_ne (pv 0) pe_str (nomark _)) (pw_and (pt_cmpR op_ne (pv 0) pe_str (nomark _)) (pw_and1 (pt_cmpR op_ne (pv 0) pe_str (nomark _)))))))
        (pss_one (ps_ret (pe_tup (pa_cons pe_str (pa_cons (pe_callTy k_int1 (by rfl) T.n_int (by decide +kernel) (pa_cons (pe_cmpR op_eq (pv 0) pe_str (nomark _)) pa_nil)) pa_nil)))))
        pss_nil)
      (Evl.pss_cut (ps_if (PW.pt (pw_and (pt_cmpR (op_eqD hr.units) (pv 1) (pv 3) (nomark _)) (pw_and (pt_cmpR op_ne (pv 0) pe_str (nomark _)) (pw_and (pt_cmpR op_ne (pv 0) pe_str (nomark _)) (pw_and1 (pt_cmpR op_ne (pv 0) pe_str (nomark _)))))))
        (pss_one (ps_ret (pv 3)))
        pss_nil)
      (Evl.pss_cut (ps_if (PW.pt (pw_and (pt_cmpR (op_eqD hr.units) (pv 2) (pv 3) (nomark _)) (pw_and (pt_cmpR op_ne (pv 0) pe_str (nomark _)) (pw_and (pt_cmpR op_ne (pv 0) pe_str (nomark _)) (pw_and1 (pt_cmpR op_ne (pv 0) pe_str (nomark _)))))))
        (pss_one (ps_ret (pv 3)))
        pss_nil)
      (Evl.pss_cut (ps_if (PW.pt (pw_and (pt_cmpR (op_eqD hr.units) (pv 2) (pv 4) (nomark _)) (pw_and1 (pt_cmpR op_eq (pv 0) pe_str (nomark _)))))
        (pss_one (ps_ret (pv 3)))
        pss_nil)
      (Evl.pss_cut (ps_if (PW.pt (pw_or (PW.pt (pw_and (pt_cmpR (op_eqD hr.units) (pv 1) (pv 3) (nomark _)) (pw_and1 (pt_cmpR op_eq (pv 0) pe_str (nomark _))))) (pw_or1 (PW.pt (pw_and (pt_cmpR (op_eqD hr.units) (pv 1) (pv 4) (nomark _)) (pw_and1 (pt_cmpR op_eq (pv 0) pe_str (nomark _))))))))
        (pss_one (ps_ret (pv 2)))
        pss_nil)
      (Evl.pss_cut (ps_if (PW.pt (pw_or (PW.pt (pw_and (pt_cmpR (op_eqD hr.units) (pv 2) (pv 3) (nomark _)) (pw_and1 (PW.pt (pw_or (pt_cmpR op_eq (pv 0) pe_str (nomark _)) (pw_or1 (pt_cmpR op_eq (pv 0) pe_str (nomark _)))))))) (pw_or1 (PW.pt (pw_and (pt_cmpR (op_eqD hr.units) (pv 2) (pv 4) (nomark _)) (pw_and1 (PW.pt (pw_or (pt_cmpR op_eq (pv 0) pe_str (nomark _)) (pw_or1 (pt_cmpR op_eq (pv 0) pe_str (nomark _)))))))))))
        (pss_one (ps_ret (pv 1)))
        pss_nil)
      (pss_one (ps_ret (pe_tup (pa_cons (pv 0) (pa_cons (pv 1) (pa_cons (pv 2) pa_nil))))))))))))))), ?_⟩
    try dsimp only [cxOf, Cx.nox, Cx.wish]
    walk_at "go"
    refine ⟨by show 2 ≤ sizeLine; decide, fun u0 nu0 => ?_⟩
    walk_at "go"
    refine ⟨by show 2 ≤ sizeLine; decide, fun u1 nu1 => ?_⟩
    walk_at "go"
    have s : Same H (upd (upd H u0 (.tup [.str "number", .int 0])) u1 (.tup [.str "number", .int 1])) := (same_new nu0).trans (same_new nu1)
    have z00 : Dp K (upd (upd H u0 (.tup [.str "number", .int 0])) u1 (.tup [.str "number", .int 1])) (.ref u0) (exD (.num 0)) := .tup (.inl (.inl (same_new nu1 _ _ upd_same))) (.cons (.str _) (.cons (.int _) .nil))
    have z11 : Dp K (upd (upd H u0 (.tup [.str "number", .int 0])) u1 (.tup [.str "number", .int 1])) (.ref u1) (exD (.num 1)) := .tup (.inl (.inl upd_same)) (.cons (.str _) (.cons (.int _) .nil))
    have hp1' := same_sqT s hp1
    have hp2' := same_sqT s hp2
    have hx' := dp_same s _ _ hx
    have hy' := dp_same s _ _ hy
    have hxs' := dpAll_same s _ _ hxs
    have hys' := dpAll_same s _ _ hys
    generalize upd (upd H u0 (.tup [.str "number", .int 0])) u1 (.tup [.str "number", .int 1]) = H0 at *
    have q' : ∀ v H', Same H0 H' → Dp K H' v (exD (foldP k a b)) → Q v H' := fun v H' t => q v H' (s.trans t)
    clear q hx hy hp1 hp2 hxs hys s
    have s : Same H0 H0 := Same.refl H0

    refine go_cut (fun σ' H' => σ' = [some (.str (signS k)), some (.ref p1), some (.ref p2), some (.ref u0), some (.ref u1)] ∧ Same H0 H' ∧ (isNum a && isNum b) = false) ?_ ?_
    · walk_at "go"
      rw [head_num ha]
      walk_at "br"
      · intro h1
        walk_at "go"
        rw [head_num hb]
        walk_at "br"
        · intro h2
          obtain rfl := rest_num h1 hxs'
          obtain rfl := rest_num h2 hys'
          walk_at "go"
          refine ⟨_, k, numVal a, numVal b, rfl, hk, rfl, numVal_in ha, numVal_in hb, ?_⟩
          walk_at "go"
          refine ⟨by show 2 ≤ sizeLine; decide, fun u nu => ?_⟩
          refine q' _ _ (s.trans (same_new nu)) ?_
          have e : foldP k a b = .num (comb k (numVal a) (numVal b)) := by simp only [foldP, h1, h2, Bool.and_self, if_true]
          rw [e]
          exact .tup (.inl (.inl upd_same)) (.cons (.str _) (.cons (.int _) .nil))
        · intro h2
          walk_at "go"
          exact ⟨rfl, s, by rw [h1, h2]; rfl⟩
      · intro h1
        walk_at "go"
        exact ⟨rfl, s, by rw [h1]; rfl⟩
    clear s
    rintro σ' H1 ⟨rfl, s, c1⟩

    refine go_cut (fun σ' H' => σ' = [some (.str (signS k)), some (.ref p1), some (.ref p2), some (.ref u0), some (.ref u1)] ∧ Same H0 H' ∧ (eqX a b && decide (k = 1 ∨ k = 4 ∨ k = 5)) = false ∧ (eqX a b && decide (k = 6)) = false) ?_ ?_
    · walk_at "go"
      refine go_eqX (dp_same s _ _ hx') (dp_same s _ _ hy') sa sb ?_
      walk_at "go"
      walk_at "br"
      · intro h1
        walk_at "go"
        rw [is0 hk]
        walk_at "br"
        · intro n0
          walk_at "go"
          rw [is2 hk]
          walk_at "br"
          · intro n2
            walk_at "go"
            rw [is3 hk]
            walk_at "br"
            · intro n3
              walk_at "go"
              rw [is6 hk]
              refine ⟨by show 2 ≤ sizeLine; decide, fun u nu => ?_⟩
              refine q' _ _ (s.trans (same_new nu)) ?_
              by_cases h6 : k = 6
              · have hc2 : (eqX a b && decide (k = 1 ∨ k = 4 ∨ k = 5)) = false := by rw [h1, decide_eq_false (by omega)]; rfl
                have hc : (eqX a b && decide (k = 6)) = true := by rw [h1, decide_eq_true h6]; rfl
                have e : foldP k a b = .num 1 := by simp only [foldP, c1, hc2, hc, Bool.false_eq_true, if_true, if_false]
                rw [e]
                refine .tup (.inl (.inl upd_same)) ?_
                rw [decide_eq_true h6]
                exact .cons (.str _) (.cons (.int _) .nil)
              · have hc : (eqX a b && decide (k = 1 ∨ k = 4 ∨ k = 5)) = true := by rw [h1, decide_eq_true (by omega)]; rfl
                have e : foldP k a b = .num 0 := by simp only [foldP, c1, hc, Bool.false_eq_true, if_true, if_false]
                rw [e]
                refine .tup (.inl (.inl upd_same)) ?_
                rw [decide_eq_false h6]
                exact .cons (.str _) (.cons (.int _) .nil)
            · intro n3
              walk_at "go"
              exact ⟨rfl, s, by rw [h1, decide_eq_false (by omega)]; rfl, by rw [h1, decide_eq_false (by omega)]; rfl⟩
          · intro n2
            walk_at "go"
            exact ⟨rfl, s, by rw [h1, decide_eq_false (by omega)]; rfl, by rw [h1, decide_eq_false (by omega)]; rfl⟩
        · intro n0
          walk_at "go"
          exact ⟨rfl, s, by rw [h1, decide_eq_false (by omega)]; rfl, by rw [h1, decide_eq_false (by omega)]; rfl⟩
      · intro h1
        walk_at "go"
        exact ⟨rfl, s, by rw [h1]; rfl, by rw [h1]; rfl⟩
    clear s
    rintro σ' H1 ⟨rfl, s, c2, c3⟩
    refine go_cut (fun σ' H' => σ' = [some (.str (signS k)), some (.ref p1), some (.ref p2), some (.ref u0), some (.ref u1)] ∧ Same H0 H' ∧ (eqX a (.num 0) && decide (k = 1 ∨ k = 2 ∨ k = 3 ∨ k = 4)) = false) ?_ ?_
    · walk_at "go"
      refine go_eqX (dp_same s _ _ hx') (dp_same s _ _ z00) sa s0 ?_
      walk_at "go"
      walk_at "br"
      · intro h1
        walk_at "go"
        rw [is0 hk]
        walk_at "br"
        · intro n0
          walk_at "go"
          rw [is5 hk]
          walk_at "br"
          · intro n5
            walk_at "go"
            rw [is6 hk]
            walk_at "br"
            · intro n6
              walk_at "go"
              have s' := s

              have hc : (eqX a (.num 0) && decide (k = 1 ∨ k = 2 ∨ k = 3 ∨ k = 4)) = true := by rw [h1, decide_eq_true (by omega)]; rfl
              refine q' _ _ s' ?_
              have e : foldP k a b = .num 0 := by simp only [foldP, c1, c2, c3, hc, Bool.false_eq_true, if_true, if_false]
              rw [e]
              exact dp_same s' _ _ z00
            · intro n6
              walk_at "go"
              exact ⟨rfl, s, by rw [h1, decide_eq_false (by omega)]; rfl⟩
          · intro n5
            walk_at "go"
            exact ⟨rfl, s, by rw [h1, decide_eq_false (by omega)]; rfl⟩
        · intro n0
          walk_at "go"
          exact ⟨rfl, s, by rw [h1, decide_eq_false (by omega)]; rfl⟩
      · intro h1
        walk_at "go"
        exact ⟨rfl, s, by rw [h1]; rfl⟩
    clear s
    rintro σ' H1 ⟨rfl, s, c4⟩
    refine go_cut (fun σ' H' => σ' = [some (.str (signS k)), some (.ref p1), some (.ref p2), some (.ref u0), some (.ref u1)] ∧ Same H0 H' ∧ (eqX b (.num 0) && decide (k = 2 ∨ k = 3 ∨ k = 4 ∨ k = 5)) = false) ?_ ?_
    · walk_at "go"
      refine go_eqX (dp_same s _ _ hy') (dp_same s _ _ z00) sb s0 ?_
      walk_at "go"
      walk_at "br"
      · intro h1
        walk_at "go"
        rw [is0 hk]
        walk_at "br"
        · intro n0
          walk_at "go"
          rw [is1 hk]
          walk_at "br"
          · intro n1
            walk_at "go"
            rw [is6 hk]
            walk_at "br"
            · intro n6
              walk_at "go"
              have s' := s

              have hc : (eqX b (.num 0) && decide (k = 2 ∨ k = 3 ∨ k = 4 ∨ k = 5)) = true := by rw [h1, decide_eq_true (by omega)]; rfl
              refine q' _ _ s' ?_
              have e : foldP k a b = .num 0 := by simp only [foldP, c1, c2, c3, c4, hc, Bool.false_eq_true, if_true, if_false]
              rw [e]
              exact dp_same s' _ _ z00
            · intro n6
              walk_at "go"
              exact ⟨rfl, s, by rw [h1, decide_eq_false (by omega)]; rfl⟩
          · intro n1
            walk_at "go"
            exact ⟨rfl, s, by rw [h1, decide_eq_false (by omega)]; rfl⟩
        · intro n0
          walk_at "go"
          exact ⟨rfl, s, by rw [h1, decide_eq_false (by omega)]; rfl⟩
      · intro h1
        walk_at "go"
        exact ⟨rfl, s, by rw [h1]; rfl⟩
    clear s
    rintro σ' H1 ⟨rfl, s, c5⟩
    refine go_cut (fun σ' H' => σ' = [some (.str (signS k)), some (.ref p1), some (.ref p2), some (.ref u0), some (.ref u1)] ∧ Same H0 H' ∧ (eqX b (.num 1) && decide (k = 4)) = false) ?_ ?_
    · walk_at "go"
      refine go_eqX (dp_same s _ _ hy') (dp_same s _ _ z11) sb s1 ?_
      walk_at "go"
      walk_at "br"
      · intro h1
        walk_at "go"
        rw [is4 hk]
        have s' := s
        walk_at "br"
        · intro h2
          walk_at "go"
          have hc : (eqX b (.num 1) && decide (k = 4)) = true := by rw [h1, decide_eq_true h2]; rfl
          refine q' _ _ s' ?_
          have e : foldP k a b = .num 0 := by simp only [foldP, c1, c2, c3, c4, c5, hc, Bool.false_eq_true, if_true, if_false]
          rw [e]
          exact dp_same s' _ _ z00
        · intro h2
          walk_at "go"
          exact ⟨rfl, s', by rw [h1, decide_eq_false h2]; rfl⟩
      · intro h1
        walk_at "go"
        exact ⟨rfl, s, by rw [h1]; rfl⟩
    clear s
    rintro σ' H1 ⟨rfl, s, c6⟩
    refine go_cut (fun σ' H' => σ' = [some (.str (signS k)), some (.ref p1), some (.ref p2), some (.ref u0), some (.ref u1)] ∧ Same H0 H' ∧ ((eqX a (.num 0) && decide (k = 0)) || (eqX a (.num 1) && decide (k = 2))) = false) ?_ ?_
    · walk_at "go"
      refine go_eqX (dp_same s _ _ hx') (dp_same s _ _ z00) sa s0 ?_
      walk_at "go"
      walk_at "br"
      · intro h1
        walk_at "go"
        rw [is0 hk]
        have s' := s
        walk_at "br"
        · intro h2
          walk_at "go"
          have hc : ((eqX a (.num 0) && decide (k = 0)) || (eqX a (.num 1) && decide (k = 2))) = true := by rw [h1, decide_eq_true h2]; rfl
          refine q' _ _ s' ?_
          have e : foldP k a b = b := by simp only [foldP, c1, c2, c3, c4, c5, c6, hc, Bool.false_eq_true, if_true, if_false]
          rw [e]
          exact dp_same s' _ _ hy'
        · intro h2
          walk_at "go"
          have s := s'

          refine go_eqX (dp_same s _ _ hx') (dp_same s _ _ z11) sa s1 ?_
          walk_at "go"
          walk_at "br"
          · intro h3
            walk_at "go"
            rw [is2 hk]
            have s' := s
            walk_at "br"
            · intro h4
              walk_at "go"
              have hc : ((eqX a (.num 0) && decide (k = 0)) || (eqX a (.num 1) && decide (k = 2))) = true := by rw [h3, decide_eq_true h4, Bool.and_self, Bool.or_true]
              refine q' _ _ s' ?_
              have e : foldP k a b = b := by simp only [foldP, c1, c2, c3, c4, c5, c6, hc, Bool.false_eq_true, if_true, if_false]
              rw [e]
              exact dp_same s' _ _ hy'
            · intro h4
              walk_at "go"
              exact ⟨rfl, s', by rw [h1, decide_eq_false h2, h3, decide_eq_false h4]; rfl⟩
          · intro h3
            walk_at "go"
            exact ⟨rfl, s, by rw [h1, decide_eq_false h2, h3]; rfl⟩
      · intro h1
        walk_at "go"
        refine go_eqX (dp_same s _ _ hx') (dp_same s _ _ z11) sa s1 ?_
        walk_at "go"
        walk_at "br"
        · intro h3
          walk_at "go"
          rw [is2 hk]
          have s' := s
          walk_at "br"
          · intro h4
            walk_at "go"
            have hc : ((eqX a (.num 0) && decide (k = 0)) || (eqX a (.num 1) && decide (k = 2))) = true := by rw [h3, decide_eq_true h4, Bool.and_self, Bool.or_true]
            refine q' _ _ s' ?_
            have e : foldP k a b = b := by simp only [foldP, c1, c2, c3, c4, c5, c6, hc, Bool.false_eq_true, if_true, if_false]
            rw [e]
            exact dp_same s' _ _ hy'
          · intro h4
            walk_at "go"
            exact ⟨rfl, s', by rw [h1, h3, decide_eq_false h4]; rfl⟩
        · intro h3
          walk_at "go"
          exact ⟨rfl, s, by rw [h1, h3]; rfl⟩
    clear s
    rintro σ' H1 ⟨rfl, s, c7⟩
    refine go_cut (fun σ' H' => σ' = [some (.str (signS k)), some (.ref p1), some (.ref p2), some (.ref u0), some (.ref u1)] ∧ Same H0 H' ∧ ((eqX b (.num 0) && decide (k = 0 ∨ k = 1)) || (eqX b (.num 1) && decide (k = 2 ∨ k = 3))) = false) ?_ ?_
    · walk_at "go"
      refine go_eqX (dp_same s _ _ hy') (dp_same s _ _ z00) sb s0 ?_
      walk_at "go"
      walk_at "br"
      · intro h1
        walk_at "go"
        have s' := s
        rw [is0 hk]
        walk_at "br"
        · intro g1
          have h2 : k = 0 ∨ k = 1 := .inl g1
          walk_at "go"
          have hc : ((eqX b (.num 0) && decide (k = 0 ∨ k = 1)) || (eqX b (.num 1) && decide (k = 2 ∨ k = 3))) = true := by rw [h1, decide_eq_true h2]; rfl
          refine q' _ _ s' ?_
          have e : foldP k a b = a := by simp only [foldP, c1, c2, c3, c4, c5, c6, c7, hc, Bool.false_eq_true, if_true, if_false]
          rw [e]
          exact dp_same s' _ _ hx'
        · intro g1
          walk_at "go"
          rw [is1 hk]
          walk_at "br"
          · intro g2
            have h2 : k = 0 ∨ k = 1 := .inr g2
            walk_at "go"
            have hc : ((eqX b (.num 0) && decide (k = 0 ∨ k = 1)) || (eqX b (.num 1) && decide (k = 2 ∨ k = 3))) = true := by rw [h1, decide_eq_true h2]; rfl
            refine q' _ _ s' ?_
            have e : foldP k a b = a := by simp only [foldP, c1, c2, c3, c4, c5, c6, c7, hc, Bool.false_eq_true, if_true, if_false]
            rw [e]
            exact dp_same s' _ _ hx'
          · intro g2
            have h2 : ¬ (k = 0 ∨ k = 1) := by omega
            walk_at "go"
            have s := s'

            refine go_eqX (dp_same s _ _ hy') (dp_same s _ _ z11) sb s1 ?_
            walk_at "go"
            walk_at "br"
            · intro h3
              walk_at "go"
              have s' := s
              rw [is2 hk]
              walk_at "br"
              · intro g1
                have h4 : k = 2 ∨ k = 3 := .inl g1
                walk_at "go"
                have hc : ((eqX b (.num 0) && decide (k = 0 ∨ k = 1)) || (eqX b (.num 1) && decide (k = 2 ∨ k = 3))) = true := by rw [h3, decide_eq_true h4, Bool.and_self, Bool.or_true]
                refine q' _ _ s' ?_
                have e : foldP k a b = a := by simp only [foldP, c1, c2, c3, c4, c5, c6, c7, hc, Bool.false_eq_true, if_true, if_false]
                rw [e]
                exact dp_same s' _ _ hx'
              · intro g1
                walk_at "go"
                rw [is3 hk]
                walk_at "br"
                · intro g2
                  have h4 : k = 2 ∨ k = 3 := .inr g2
                  walk_at "go"
                  have hc : ((eqX b (.num 0) && decide (k = 0 ∨ k = 1)) || (eqX b (.num 1) && decide (k = 2 ∨ k = 3))) = true := by rw [h3, decide_eq_true h4, Bool.and_self, Bool.or_true]
                  refine q' _ _ s' ?_
                  have e : foldP k a b = a := by simp only [foldP, c1, c2, c3, c4, c5, c6, c7, hc, Bool.false_eq_true, if_true, if_false]
                  rw [e]
                  exact dp_same s' _ _ hx'
                · intro g2
                  have h4 : ¬ (k = 2 ∨ k = 3) := by omega
                  walk_at "go"
                  exact ⟨rfl, s', by rw [h1, decide_eq_false h2, h3, decide_eq_false h4]; rfl⟩
            · intro h3
              walk_at "go"
              exact ⟨rfl, s, by rw [h1, decide_eq_false h2, h3]; rfl⟩
      · intro h1
        walk_at "go"
        refine go_eqX (dp_same s _ _ hy') (dp_same s _ _ z11) sb s1 ?_
        walk_at "go"
        walk_at "br"
        · intro h3
          walk_at "go"
          have s' := s
          rw [is2 hk]
          walk_at "br"
          · intro g1
            have h4 : k = 2 ∨ k = 3 := .inl g1
            walk_at "go"
            have hc : ((eqX b (.num 0) && decide (k = 0 ∨ k = 1)) || (eqX b (.num 1) && decide (k = 2 ∨ k = 3))) = true := by rw [h3, decide_eq_true h4, Bool.and_self, Bool.or_true]
            refine q' _ _ s' ?_
            have e : foldP k a b = a := by simp only [foldP, c1, c2, c3, c4, c5, c6, c7, hc, Bool.false_eq_true, if_true, if_false]
            rw [e]
            exact dp_same s' _ _ hx'
          · intro g1
            walk_at "go"
            rw [is3 hk]
            walk_at "br"
            · intro g2
              have h4 : k = 2 ∨ k = 3 := .inr g2
              walk_at "go"
              have hc : ((eqX b (.num 0) && decide (k = 0 ∨ k = 1)) || (eqX b (.num 1) && decide (k = 2 ∨ k = 3))) = true := by rw [h3, decide_eq_true h4, Bool.and_self, Bool.or_true]
              refine q' _ _ s' ?_
              have e : foldP k a b = a := by simp only [foldP, c1, c2, c3, c4, c5, c6, c7, hc, Bool.false_eq_true, if_true, if_false]
              rw [e]
              exact dp_same s' _ _ hx'
            · intro g2
              have h4 : ¬ (k = 2 ∨ k = 3) := by omega
              walk_at "go"
              exact ⟨rfl, s', by rw [h1, h3, decide_eq_false h4]; rfl⟩
        · intro h3
          walk_at "go"
          exact ⟨rfl, s, by rw [h1, h3]; rfl⟩
    clear s
    rintro σ' H1 ⟨rfl, s, c8⟩

    walk_at "go"
    refine ⟨by show 3 ≤ sizeLine; decide, fun u nu => ?_⟩
    refine q' _ _ (s.trans (same_new nu)) ?_
    have e : foldP k a b = .op k a b := by simp only [foldP, c1, c2, c3, c4, c5, c6, c7, c8, Bool.false_eq_true, if_false]
    rw [e]
    exact .tup (.inl (.inl upd_same)) (.cons (.str _) (.cons (dp_same (s.trans (same_new nu)) _ _ hx') (.cons (dp_same (s.trans (same_new nu)) _ _ hy') .nil)))
end
end K24

namespace K24
open PySem PySem.Spec PyProof.Rows L2 Gx
section
variable {P : Program} {w : World} {K : PySem.W.Frag} {mg : Str → Option Value} {base : Heap} {A : Ad}
def sp__law_name (K : PySem.W.Frag) : Sp := fun vs H Q _ => ∃ (p : Pl) (b : Int) (l : Addr) (ts : List Str), vs = [.ref p.a, .ref l] ∧ Pool H p b ∧ H l = some (.lst (ts.map V.str)) ∧ l ≠ p.a ∧ ts.length < 20 ∧ ∀ (x : Str) H', isName x = true → x ∉ ts → Turn p b H H' → Q (.str x) H'
theorem G__law_name (T : Txt P K mg A) : FnOk P w K mg base CX0 3 A.f__law_name A.d__law_name ["_law_pool_here", "_law_taken"] (sp__law_name K) := by
  refine (T.F__law_name.ok (k := 2) sc__law_name (fun vs H Q E h => ?_) (fun cdv Ar outer s H vs Q E hr h => ?_))
  · obtain ⟨p, b, l, ts, rfl, _⟩ := h
    rfl
  · obtain ⟨p, b, l, ts, rfl, hp, hl, hla, hts, q⟩ := h
    have sg : (Str.ofString "abcdefghijklmnopqrstuvwxyz0123456789").length = 36 := by decide +kernel
    refine ⟨_, (pss_cons (ps_set (i := 2) sc__law_name.nd rfl (Or.inl rfl) pe_str)
      (pss_cons (ps_set (i := 3) sc__law_name.nd rfl (Or.inl rfl) (pe_ix ix_str (pv 2) (pe_call (G__law_draw T) (hr.mono (by decide)) rfl T.m__law_draw T.F__law_draw.kp T.b__law_draw .nil pass0 (pa_cons (pv 0) (pa_cons pe_int pa_nil))) (fun _ _ => rfl)))
      (pss_cons (ps_for PassesOwn.never rfl (pi_range1 rfl T.n_range (pa_cons (pe_call (G__law_few T) (hr.mono (by decide)) rfl T.m__law_few T.F__law_few.kp T.b__law_few .nil pass0 (pa_cons (pv 0) (pa_cons pe_int pa_nil))) pa_nil)) (pg_name (i := 4) sc__law_name.nd rfl (Or.inl rfl))
        (pss_one (ps_set (i := 3) sc__law_name.nd rfl (Or.inl rfl) (pe_op o_add_str (pv 3) (pe_ix ix_str (pv 2) (pe_call (G__law_draw T) (hr.mono (by decide)) rfl T.m__law_draw T.F__law_draw.kp T.b__law_draw .nil pass0 (pa_cons (pv 0) (pa_cons pe_int pa_nil))) (fun _ _ => rfl))))))
      (Evl.pss_cut (ps_if (PW.pt (pw_or (pt_cmpR op_in_seq (pv 3) (pv 1) (by rfl)) (pw_or1 (pt_cmpR op_in_seq (pv 3) (pe_call0 (G__law_keys T) (hr.mono (by decide)) rfl T.m__law_keys T.F__law_keys.kp T.b__law_keys .nil pass0) (by rfl)))))
        (pss_one (ps_for PassesOwn.never rfl (pi_range1 rfl T.n_range (pa_cons pe_int pa_nil)) (pg_name (i := 4) sc__law_name.nd rfl (Or.inl rfl))
        (pss_one (ps_if (pt_cmpR op_notIn_seq (pe_op o_add_str pe_str (pe_callTy k_str_int (by rfl) T.n_str (by decide +kernel) (pa_cons (pv 4) pa_nil))) (pv 1) (by rfl))
        (pss_one (ps_set (i := 3) sc__law_name.nd rfl (Or.inl rfl) (pe_op o_add_str pe_str (pe_callTy k_str_int (by rfl) T.n_str (by decide +kernel) (pa_cons (pv 4) pa_nil)))))
        pss_nil))))
        pss_nil)
      (pss_one (ps_ret (pv 3))))))), ?_⟩
    try dsimp only [cxOf, Cx.nox, Cx.wish]
    walk_at "go"
    refine ⟨p, b, 26, rfl, hp, by decide, by decide, fun v H1 h0 h1 t1 => ?_⟩
    obtain ⟨c, hc⟩ := atS_ex (z := "abcdefghijklmnopqrstuvwxyz0123456789") h0 (by rw [sg]; omega)
    have hcl := sign_let hc h0 h1
    walk_at "go"
    refine go_ixS (by rw [sg]; decide) hc ?_
    walk_at "go"
    refine ⟨p, b, 11, rfl, t1.pool, by decide, by decide, fun n H2 hn0 hn1 t2 => ?_⟩
    walk_at "go"
    refine foR1 (fun i σ' H' => ∃ (x : Str) (v : Option V), σ' = [some (.ref p.a), some (.ref l), some (.str "abcdefghijklmnopqrstuvwxyz0123456789"), some (.str x), v] ∧ Body x (i + 1) ∧ Turn p b H H') (by omega)
      ⟨_, _, rfl, .one hcl, t1.trans t2⟩ ?_ ?_
    · rintro i σ' H3 hi ⟨x, v, rfl, hx, t3⟩
      walk_at "go"
      refine ⟨p, b, 36, rfl, t3.pool, by decide, by decide, fun v4 H4 h40 h41 t4 => ?_⟩
      obtain ⟨c4, hc4⟩ := atS_ex (z := "abcdefghijklmnopqrstuvwxyz0123456789") h40 (by rw [sg]; omega)
      walk_at "go"
      refine go_ixS (by rw [sg]; decide) hc4 ?_
      walk_at "go"
      have l1 : (⟨#[c4]⟩ : Str).length = 1 := rfl
      have l2 := hx.len
      refine go_addS (sz (by omega)) ?_
      walk_at "go"
      exact ⟨_, _, rfl, hx.snoc (sign_any hc4), t3.trans t4⟩
    rintro σ' H3 ⟨x, v, rfl, hx, t3⟩
    have hl3 := t3.but _ _ hla hl
    walk_at "go"
    refine go_cut (fun σ' H' => ∃ (y : Str) (v : Option V), σ' = [some (.ref p.a), some (.ref l), some (.str "abcdefghijklmnopqrstuvwxyz0123456789"), some (.str y), v] ∧ isName y = true ∧ y ∉ ts ∧ Turn p b H H') ?_ ?_
    · have inner : ∀ H4, Turn p b H H4 → tFor (iRng1 (tCons (tC (.int 20)) tNil)) (gName 4) (tIfS (tTest (tOp (rIn K true) (tOp qAddS (tC (.str "v")) (tCB qStrInt (tCons (tVar 4) tNil))) (tVar 1))) (tAsg (tOp qAddS (tC (.str "v")) (tCB qStrInt (tCons (tVar 4) tNil))) (gName 3)) tNext)
          { nx := fun σ' H' => ∃ (y : Str) (v : Option V), σ' = [some (.ref p.a), some (.ref l), some (.str "abcdefghijklmnopqrstuvwxyz0123456789"), some (.str y), v] ∧ isName y = true ∧ y ∉ ts ∧ Turn p b H H', rt := Q } [some (.ref p.a), some (.ref l), some (.str "abcdefghijklmnopqrstuvwxyz0123456789"), some (.str x), v] H4 := fun H4 t4 => by
        have hl4 := t4.but _ _ hla hl
        walk_at "go"
        refine foR1 (fun i σ' H' => ∃ (y : Str) (v : Option V), σ' = [some (.ref p.a), some (.ref l), some (.str "abcdefghijklmnopqrstuvwxyz0123456789"), some (.str y), v] ∧ ((∀ k, k < i → vName k ∈ ts) ∨ (isName y = true ∧ y ∉ ts)) ∧ H' = H4) (by decide) ⟨x, v, rfl, .inl (fun k hk => nomatch hk), rfl⟩ ?_ ?_
        · rintro i σ' H5 hi ⟨y, v, rfl, hy, rfl⟩
          have hk : (Str.ofString (toString ((i : Nat) : Int))).length ≤ 2 := by
            rw [SX.num_S, SX.S_len]
            exact TL.numL_len (by decide) (by omega)
          have hv1 : (Str.ofString "v").length = 1 := by decide +kernel
          have ev : Str.ofString "v" ++ Str.ofString (toString ((i : Nat) : Int)) = vName i := by
            rw [SX.num_S]
            rfl
          walk_at "go"
          refine go_str_int (by rw [Int.natAbs_natCast]; exact log2_10 (k := 2) (by omega) (by decide)) ?_
          walk_at "go"
          refine go_addS (sz (by omega)) ?_
          walk_at "go"
          rw [ev]
          refine go_niStrs (.inl (.of hl4)) ?_
          walk_at "go"
          walk_at "br"
          · intro h
            walk_at "go"
            refine go_str_int (by rw [Int.natAbs_natCast]; exact log2_10 (k := 2) (by omega) (by decide)) ?_
            walk_at "go"
            refine go_addS (sz (by omega)) ?_
            walk_at "go"
            rw [ev]
            exact ⟨_, _, rfl, .inr ⟨vName_ok (by omega), any_not h⟩, rfl⟩
          · intro h
            walk_at "go"
            refine ⟨y, _, rfl, ?_, rfl⟩
            rcases hy with hy | hy
            · refine .inl fun k hk2 => ?_
              by_cases e : k = i
              · subst e
                exact any_yes h
              · exact hy k (by omega)
            · exact .inr hy
        · rintro σ' H5 ⟨y, v, rfl, hy, rfl⟩
          rcases hy with hy | hy
          · exact absurd hts (by have := pig20 (fun k hk => hy k hk); omega)
          · exact ⟨y, v, rfl, hy.1, hy.2, t4⟩
      walk_at "go"
      refine go_inStrs (.inl (.of hl3)) ?_
      walk_at "go"
      walk_at "br"
      · intro _
        exact inner H3 t3
      intro h1
      walk_at "go"
      refine ⟨rfl, fun pk H4 s4 n4 e4 => ?_⟩
      walk_at "go"
      refine go_inStrs (.inl (.of e4)) ?_
      walk_at "go"
      walk_at "br"
      · intro _
        exact inner H4 (t3.same s4)
      intro h2
      walk_at "go"
      exact ⟨x, v, rfl, hx.name (by omega) h2, any_no h1, t3.same s4⟩
    rintro σ' H4 ⟨y, v, rfl, hy, hy2, t4⟩
    walk_at "go"
    exact q _ _ hy hy2 t4
end
end K24

namespace K24
open PySem PySem.Spec PyProof.Rows L2 Gx
section
variable {P : Program} {w : World} {K : PySem.W.Frag} {mg : Str → Option Value} {base : Heap} {A : Ad}
def sp__law_names (K : PySem.W.Frag) : Sp := fun vs H Q _ => ∃ (p : Pl) (b m : Int), vs = [.ref p.a, .int m] ∧ Pool H p b ∧ 0 ≤ m ∧ m < 20 ∧ ∀ l (xs : List Str) H', H l = none → H' l = some (.lst (xs.map V.str)) → (xs.length : Int) ≤ m → xs.Nodup → (∀ x ∈ xs, isName x = true) → Turn p b H H' → Q (.ref l) H'
theorem G__law_names (T : Txt P K mg A) : FnOk P w K mg base CX0 4 A.f__law_names A.d__law_names ["_law_pool_here", "_law_most"] (sp__law_names K) := by
  refine (T.F__law_names.ok (k := 3) sc__law_names (fun vs H Q E h => ?_) (fun cdv Ar outer s H vs Q E hr h => ?_))
  · obtain ⟨p, b, m, rfl, _⟩ := h
    rfl
  · obtain ⟨p, b, m, rfl, hp, hm0, hm1, q⟩ := h
    refine ⟨_, (pss_cons (ps_set (i := 2) sc__law_names.nd rfl (Or.inl rfl) (pe_lst pa_nil))
      (pss_cons (ps_for PassesOwn.never rfl (pi_range1 rfl T.n_range (pa_cons (pe_call (G__law_few T) (hr.mono (by decide)) rfl T.m__law_few T.F__law_few.kp T.b__law_few .nil pass0 (pa_cons (pv 0) (pa_cons (pv 1) pa_nil))) pa_nil)) (pg_name (i := 3) sc__law_names.nd rfl (Or.inl rfl))
        (pss_one (ps_expr (pe_bm PySem.F.plainAttrs_list PySem.F.slot_list_append PySem.F.type_list_append mt_append (pv 2) (pa_cons (pe_call (G__law_name T) (hr.mono (by decide)) rfl T.m__law_name T.F__law_name.kp T.b__law_name .nil pass0 (pa_cons (pv 0) (pa_cons (pv 2) pa_nil))) pa_nil)))))
      (pss_one (ps_ret (pv 2))))), ?_⟩
    try dsimp only [cxOf, Cx.nox, Cx.wish]
    walk_at "go"
    refine ⟨by show 0 ≤ sizeLine; decide, fun l nl => ?_⟩
    walk_at "go"
    have la := hp.nea nl
    have ll := hp.nel nl
    refine ⟨p, b, m, rfl, hp.new nl, hm0, by omega, fun n H1 h0 h1 t1 => ?_⟩
    walk_at "go"
    refine foR1 (fun i σ' H' => ∃ (xs : List Str) (v : Option V), σ' = [some (.ref p.a), some (.int m), some (.ref l), v] ∧ H' l = some (.lst (xs.map V.str)) ∧ xs.length ≤ i ∧ xs.Nodup ∧ (∀ x ∈ xs, isName x = true) ∧ Turn p b H H') (by omega)
      ⟨[], _, rfl, t1.but _ _ la upd_same, Nat.le_refl _, List.nodup_nil, (fun _ h => nomatch h), (Turn.refl hp).new nl |>.trans t1⟩ ?_ ?_
    · rintro i σ' H2 hi ⟨xs, v, rfl, e2, hx, hnd, hna, t2⟩
      walk_at "go"
      refine ⟨.inl ⟨rfl, _, .inl (.inl e2)⟩, ?_⟩
      walk_at "go"
      refine ⟨p, b, l, xs, rfl, t2.pool, e2, la, by omega, fun x H3 hx1 hx2 t3 => ?_⟩
      have e3 := t3.but _ _ la e2
      walk_at "go"
      refine go_append e3 (szlt (by rw [List.length_map]; omega)) ?_
      walk_at "go"
      refine ⟨xs ++ [x], _, rfl, by rw [upd_same, List.map_append]; rfl, by simp; omega, nodup_snoc hnd hx2, fun y hy => ?_, Turn.mut hp nl (t2.trans t3)⟩
      rcases List.mem_append.mp hy with hy | hy
      · exact hna y hy
      · rw [List.mem_singleton.mp hy]
        exact hx1
    · rintro σ' H2 ⟨xs, v, rfl, e2, hx, hnd, hna, t2⟩
      walk_at "go"
      exact q l xs H2 nl e2 (by omega) hnd hna t2
end
end K24

namespace K24
open PySem PySem.Spec PyProof.Rows L2 Gx
section
variable {P : Program} {w : World} {K : PySem.W.Frag} {mg : Str → Option Value} {base : Heap} {A : Ad}
def sp_fold_expression (K : PySem.W.Frag) (n : Nat) : Sp := fun vs H Q _ => ∃ (v : V) (o : Addr) (e : Ex) (ns ps : List Str) (on : Str → Bool), vs = [v, .ref o] ∧ Dp K H v (exD e) ∧ ExIn ns ps n e ∧ OnOk H o ps on ∧ n ≤ 40 ∧ (∀ x ∈ ns, PyData.strOk x = true) ∧ (∀ x ∈ ps, PyData.strOk x = true) ∧ ∀ v' H', Same H H' → Dp K H' v' (exD (foldE on e)) → Q v' H'
theorem Z_fold_expression {n : Nat} (K : PySem.W.Frag) {vs : List V} {H : Hp} {Q : VK} {E : XK} (hn : n = 0) (h : sp_fold_expression K n vs H Q E) : False := by
  subst hn
  obtain ⟨v, o, e, ns, ps, on, rfl, _, hin, _⟩ := h
  exact hin.elim
theorem R_fold_expression (T : Txt P K mg A) : ∀ n : Nat, FnOk P w K mg base CX0 (n + 2) A.f_fold_expression A.d_fold_expression ["expression", "on"] (sp_fold_expression K n)
  | 0 => ⟨fun vs H Q E h => (Z_fold_expression K rfl h).elim, fun _ _ _ _ _ _ _ _ _ _ _ _ _ h => (Z_fold_expression K rfl h).elim⟩
  | n + 1 => by
    have IH := R_fold_expression T n
    refine (T.F_fold_expression.ok (k := n + 2) sc_fold_expression (fun vs H Q E h => ?_) (fun cdv Ar outer s H vs Q E hr h => ?_))
    · obtain ⟨v, o, e, ns, ps, on, rfl, _⟩ := h
      rfl
    · obtain ⟨v, o, e, ns, ps, on, rfl, hv, hin, ho, hn40, hns, hps, q⟩ := h
      obtain ⟨ok, eo, _, eov⟩ := id ho
      refine ⟨_, (pss_cons (ps_set (i := 2) sc_fold_expression.nd rfl (Or.inl rfl) (pe_ix ix_tup (pv 0) pe_int (fun _ _ => rfl)))
      (pss_cons (ps_if (pt_cmpR op_eq (pv 2) pe_str (nomark _))
        (pss_one (ps_ret (pe_call IH (hr.mono (by omega)) rfl T.m_fold_expression T.F_fold_expression.kp T.b_fold_expression .nil pass0 (pa_cons (pe_ifExp (pt_val (pe_dget (hu_of hr) (pv 1) (pe_ix ix_tup (pv 0) pe_int (fun _ _ => rfl)) (fun _ _ => rfl))) (pe_ix ix_tup (pv 0) pe_int (fun _ _ => rfl)) (pe_ix ix_tup (pv 0) pe_int (fun _ _ => rfl))) (pa_cons (pv 1) pa_nil)))))
        pss_nil)
      (pss_cons (ps_if (pt_cmpR op_eq (pv 2) pe_str (nomark _))
        (pss_one (ps_ret (pe_tup (pa_cons pe_str (pa_cons (pe_call IH (hr.mono (by omega)) rfl T.m_fold_expression T.F_fold_expression.kp T.b_fold_expression .nil pass0 (pa_cons (pe_ix ix_tup (pv 0) pe_int (fun _ _ => rfl)) (pa_cons (pv 1) pa_nil))) pa_nil)))))
        pss_nil)
      (pss_cons (ps_if (pt_cmpR op_in_seq (pv 2) (pe_glob (v := .ref A.k_SIGNS) rfl T.m_SIGNS rfl) (by rfl))
        (pss_one (ps_ret (pe_call (G_fold_pair T) (hr.mono (by omega)) rfl T.m_fold_pair T.F_fold_pair.kp T.b_fold_pair .nil pass0 (pa_cons (pv 2) (pa_cons (pe_call IH (hr.mono (by omega)) rfl T.m_fold_expression T.F_fold_expression.kp T.b_fold_expression .nil pass0 (pa_cons (pe_ix ix_tup (pv 0) pe_int (fun _ _ => rfl)) (pa_cons (pv 1) pa_nil))) (pa_cons (pe_call IH (hr.mono (by omega)) rfl T.m_fold_expression T.F_fold_expression.kp T.b_fold_expression .nil pass0 (pa_cons (pe_ix ix_tup (pv 0) pe_int (fun _ _ => rfl)) (pa_cons (pv 1) pa_nil))) pa_nil))))))
        pss_nil)
      (pss_one (ps_ret (pv 0))))))), ?_⟩
      try dsimp only [cxOf, Cx.nox, Cx.wish]
      cases e with
      | num k =>
        obtain ⟨a, xs, rfl, ha, hx⟩ := dp_tup hv
        obtain ⟨x, y, rfl, h1, h2⟩ := dp2 hx
        cases dpS h1
        cases dpI h2
        walk_at "go"
        refine go_inStrs (ks := signsS) (.inr (T.kt_SIGNS _)) ?_
        rw [show (signsS.any fun k => k == Str.ofString "number") = false by decide +kernel]
        walk_at "go"
        exact q _ _ (Same.refl _) hv
      | var x =>
        obtain ⟨a, xs, rfl, ha, hx⟩ := dp_tup hv
        obtain ⟨x1, y, rfl, h1, h2⟩ := dp2 hx
        cases dpS h1
        cases dpS h2
        walk_at "go"
        refine go_inStrs (ks := signsS) (.inr (T.kt_SIGNS _)) ?_
        rw [show (signsS.any fun k => k == Str.ofString "variable") = false by decide +kernel]
        walk_at "go"
        exact q _ _ (Same.refl _) hv
      | long =>
        obtain ⟨a, xs, rfl, ha, hx⟩ := dp_tup hv
        obtain ⟨x1, rfl, h1⟩ := dp1 hx
        cases dpS h1
        walk_at "go"
        refine go_inStrs (ks := signsS) (.inr (T.kt_SIGNS _)) ?_
        rw [show (signsS.any fun k => k == Str.ofString "long") = false by decide +kernel]
        walk_at "go"
        exact q _ _ (Same.refl _) hv
      | view e =>
        obtain ⟨a, xs, rfl, ha, hx⟩ := dp_tup hv
        obtain ⟨x1, y, rfl, h1, h2⟩ := dp2 hx
        cases dpS h1
        walk_at "go"
        refine ⟨y, o, e, ns, ps, on, rfl, h2, hin, ho, by omega, hns, hps, fun v' H1 s1 hv' => ?_⟩
        walk_at "go"
        refine ⟨by show 2 ≤ sizeLine; decide, fun u nu => ?_⟩
        exact q _ _ (s1.trans (same_new nu)) (.tup (.inl (.inl upd_same)) (.cons (.str _) (.cons (dp_same (same_new nu) _ _ hv') .nil)))
      | pick x e1 e2 =>
        obtain ⟨a, xs, rfl, ha, hx⟩ := dp_tup hv
        obtain ⟨x1, y, z1, z2, rfl, h1, h2, h3, h4⟩ := dp4 hx
        cases dpS h1
        cases dpS h2
        have q2 : ∀ v' H', Same H H' → Dp K H' v' (exD (if on x = true then foldE on e1 else foldE on e2)) → Q v' H' := q
        walk_at "go"
        refine go_dgetS eo (eov x hin.1) ?_
        walk_at "go"
        walk_at "br"
        · intro h
          rw [if_pos h] at q2
          walk_at "go"
          exact ⟨z1, o, e1, ns, ps, on, rfl, h3, hin.2.1, ho, by omega, hns, hps, q2⟩
        · intro h
          rw [if_neg (by rw [h]; exact Bool.false_ne_true)] at q2
          walk_at "go"
          exact ⟨z2, o, e2, ns, ps, on, rfl, h4, hin.2.2, ho, by omega, hns, hps, q2⟩

      | op k e1 e2 =>
        obtain ⟨a, xs, rfl, ha, hx⟩ := dp_tup hv
        obtain ⟨x1, y, z, rfl, h1, h2, h3⟩ := dp3 hx
        cases dpS h1
        obtain ⟨n1, n2, n3, n4, n5⟩ := sign_ne hin.1

        walk_at "go"
        rw [decide_eq_false n5]
        walk_at "go"
        rw [decide_eq_false n4]
        walk_at "go"
        refine go_inStrs (ks := signsS) (.inr (T.kt_SIGNS _)) ?_
        rw [in_signs hin.1]
        walk_at "go"

        refine ⟨y, o, e1, ns, ps, on, rfl, h2, hin.2.1, ho, by omega, hns, hps, fun v1 H1 s1 hv1 => ?_⟩
        have ha1 := same_sqT s1 ha
        walk_at "go"
        refine ⟨z, o, e2, ns, ps, on, rfl, dp_same s1 _ _ h3, hin.2.2, ho.same s1, by omega, hns, hps, fun v2 H2 s2 hv2 => ?_⟩
        walk_at "go"
        exact ⟨k, v1, v2, foldE on e1, foldE on e2, ns, ps, n, rfl, hin.1, dp_same s2 _ _ hv1, hv2, foldE_in n e1 hin.2.1, foldE_in n e2 hin.2.2, by omega, hns, hps, fun v' H' s' hv' => q _ _ ((s1.trans s2).trans s') hv'⟩
end
end K24

namespace K24
open PySem PySem.Spec PyProof.Rows L2 Gx
section
variable {P : Program} {w : World} {K : PySem.W.Frag} {mg : Str → Option Value} {base : Heap} {A : Ad}
def sp__law_expression (K : PySem.W.Frag) (n : Nat) : Sp := fun vs H Q _ => ∃ (p : Pl) (b : Int) (nl pl : Addr) (ns ps : List Str) (d : Int), vs = [.ref p.a, .ref nl, .ref pl, .int d] ∧ Pool H p b ∧ H nl = some (.lst (ns.map V.str)) ∧ H pl = some (.lst (ps.map V.str)) ∧ nl ≠ p.a ∧ pl ≠ p.a ∧ ns.length ≤ 100 ∧ ps.length ≤ 100 ∧ d = n ∧ 0 < n ∧ ∀ v e b' H', ExIn ns ps n e → Dp K H' v (exD e) → Turn p b' H H' → Q v H'
theorem Z__law_expression {n : Nat} (K : PySem.W.Frag) {vs : List V} {H : Hp} {Q : VK} {E : XK} (hn : n = 0) (h : sp__law_expression K n vs H Q E) : False := by
  subst hn
  obtain ⟨p, b, nl, pl, ns, ps, d, _, _, _, _, _, _, _, _, _, h0, _⟩ := h
  exact absurd h0 (by decide)
theorem R__law_expression (T : Txt P K mg A) : ∀ n : Nat, FnOk P w K mg base CX0 (n + 2) A.f__law_expression A.d__law_expression ["_law_pool_here", "_law_names_here", "_law_picks", "_law_deep"] (sp__law_expression K n)
  | 0 => ⟨fun vs H Q E h => (Z__law_expression K rfl h).elim, fun _ _ _ _ _ _ _ _ _ _ _ _ _ h => (Z__law_expression K rfl h).elim⟩
  | n + 1 => by
    have IH := R__law_expression T n
    refine (T.F__law_expression.ok (k := n + 2) sc__law_expression (fun vs H Q E h => ?_) (fun cdv Ar outer s H vs Q E hr h => ?_))
    · obtain ⟨p, b, nl, pl, ns, ps, d, rfl, _⟩ := h
      rfl
    · obtain ⟨p, b, nl, pl, ns, ps, d, rfl, hp, hnl, hpl, na, pa, hns, hps, hd, hn0, q⟩ := h
      refine ⟨_, (pss_cons (ps_set (i := 4) sc__law_expression.nd rfl (Or.inl rfl) (pe_call (G__law_draw T) (hr.mono (by omega)) rfl T.m__law_draw T.F__law_draw.kp T.b__law_draw .nil pass0 (pa_cons (pv 0) (pa_cons pe_int pa_nil))))
      (Evl.pss_cut (ps_if (PW.pt (pw_and (pt_cmpR op_gt (pv 3) pe_int (nomark _)) (pw_and (pt_cmpR op_lt (pv 4) pe_int (nomark _)) (pw_and1 (pt_val (pe_call (G__law_spend T) (hr.mono (by omega)) rfl T.m__law_spend T.F__law_spend.kp T.b__law_spend .nil pass0 (pa_cons (pv 0) pa_nil)))))))
        (Evl.pss_cut (ps_if (PW.pt (pw_and (pt_cmpR op_gt (pv 4) pe_int (nomark _)) (pw_and1 (p_truthK (K := K) rfl (pv 2) (by intro _; rfl)))))
        (pss_cons (ps_set (i := 5) sc__law_expression.nd rfl (Or.inl rfl) (pe_ix ix_list (pv 2) (pe_call (G__law_draw T) (hr.mono (by omega)) rfl T.m__law_draw T.F__law_draw.kp T.b__law_draw .nil pass0 (pa_cons (pv 0) (pa_cons (pe_callB k_len (by rfl) T.n_len (by decide +kernel) (pa_cons (pv 2) pa_nil)) pa_nil))) (fun _ _ => rfl)))
      (pss_cons (ps_set (i := 6) sc__law_expression.nd rfl (Or.inl rfl) (pe_call IH (hr.mono (by omega)) rfl T.m__law_expression T.F__law_expression.kp T.b__law_expression .nil pass0 (pa_cons (pv 0) (pa_cons (pv 1) (pa_cons (pv 2) (pa_cons (pe_op op_sub (pv 3) pe_int) pa_nil))))))
      (pss_one (ps_ret (pe_tup (pa_cons pe_str (pa_cons (pv 5) (pa_cons (pv 6) (pa_cons (pe_call IH (hr.mono (by omega)) rfl T.m__law_expression T.F__law_expression.kp T.b__law_expression .nil pass0 (pa_cons (pv 0) (pa_cons (pv 1) (pa_cons (pv 2) (pa_cons (pe_op op_sub (pv 3) pe_int) pa_nil))))) pa_nil)))))))))
        pss_nil)
      (pss_cons (ps_set (i := 7) sc__law_expression.nd rfl (Or.inl rfl) (pe_ix ix_tup (pe_tup (pa_cons pe_str (pa_cons pe_str (pa_cons pe_str (pa_cons pe_str (pa_cons pe_str (pa_cons pe_str (pa_cons pe_str (pa_cons pe_str (pa_cons pe_str (pa_cons pe_str (pa_cons pe_str pa_nil)))))))))))) (pv 4) (fun _ _ => rfl)))
      (pss_cons (ps_set (i := 6) sc__law_expression.nd rfl (Or.inl rfl) (pe_call IH (hr.mono (by omega)) rfl T.m__law_expression T.F__law_expression.kp T.b__law_expression .nil pass0 (pa_cons (pv 0) (pa_cons (pv 1) (pa_cons (pv 2) (pa_cons (pe_op op_sub (pv 3) pe_int) pa_nil))))))
      (pss_cons (ps_if (pt_cmpR op_eq (pe_call (G__law_draw T) (hr.mono (by omega)) rfl T.m__law_draw T.F__law_draw.kp T.b__law_draw .nil pass0 (pa_cons (pv 0) (pa_cons pe_int pa_nil))) pe_int (nomark _))
        (pss_one (ps_ret (pe_tup (pa_cons (pv 7) (pa_cons (pv 6) (pa_cons (pv 6) pa_nil))))))
        pss_nil)
      (pss_one (ps_ret (pe_tup (pa_cons (pv 7) (pa_cons (pv 6) (pa_cons (pe_call IH (hr.mono (by omega)) rfl T.m__law_expression T.F__law_expression.kp T.b__law_expression .nil pass0 (pa_cons (pv 0) (pa_cons (pv 1) (pa_cons (pv 2) (pa_cons (pe_op op_sub (pv 3) pe_int) pa_nil))))) pa_nil))))))))))
        pss_nil)
      (Evl.pss_cut (ps_if (PW.pt (pw_and (p_truthK (K := K) rfl (pv 1) (by intro _; rfl)) (pw_and1 (pt_cmpR op_eq (pe_op op_mod (pe_callTy k_int1 (by rfl) T.n_int (by decide +kernel) (pa_cons (pv 4) pa_nil)) pe_int) pe_int (nomark _)))))
        (pss_one (ps_ret (pe_tup (pa_cons pe_str (pa_cons (pe_ix ix_list (pv 1) (pe_call (G__law_draw T) (hr.mono (by omega)) rfl T.m__law_draw T.F__law_draw.kp T.b__law_draw .nil pass0 (pa_cons (pv 0) (pa_cons (pe_callB k_len (by rfl) T.n_len (by decide +kernel) (pa_cons (pv 1) pa_nil)) pa_nil))) (fun _ _ => rfl)) pa_nil)))))
        pss_nil)
      (pss_cons (ps_if (pt_cmpR op_lt (pv 4) pe_int (nomark _))
        (pss_one (ps_ret (pe_tup (pa_cons pe_str (pa_cons (pe_call (G__law_draw T) (hr.mono (by omega)) rfl T.m__law_draw T.F__law_draw.kp T.b__law_draw .nil pass0 (pa_cons (pv 0) (pa_cons pe_int pa_nil))) pa_nil)))))
        pss_nil)
      (pss_one (ps_ret (pe_tup (pa_cons pe_str (pa_cons (pe_call (G__law_number T) (hr.mono (by omega)) rfl T.m__law_number T.F__law_number.kp T.b__law_number .nil pass0 (pa_cons (pv 0) pa_nil)) pa_nil))))))))), ?_⟩
      try dsimp only [cxOf, Cx.nox, Cx.wish]
      walk_at "go"
      refine ⟨p, b, 16, rfl, hp, by decide, by decide, fun k H1 hk0 hk1 t1 => ?_⟩
      walk_at "go"
      refine go_cut (fun σ' H' => ∃ b', σ' = [some (.ref p.a), some (.ref nl), some (.ref pl), some (.int d), some (.int k), none, none, none] ∧ Turn p b' H H') ?_ ?_
      · walk_at "go"
        have out : ∀ b' H', Turn p b' H H' → ∃ b', [some (V.ref p.a), some (.ref nl), some (.ref pl), some (.int d), some (.int k), none, none, none] = [some (V.ref p.a), some (.ref nl), some (.ref pl), some (.int d), some (.int k), none, none, none] ∧ Turn p b' H H' := fun b' H' t => ⟨b', rfl, t⟩
        walk_at "br"
        · intro h1
          walk_at "go"
          walk_at "br"
          · intro h2
            walk_at "go"
            refine ⟨p, b, rfl, t1.pool, fun r H2 t2 => ?_⟩
            have t12 := t1.trans t2
            have e2 := t12.but _ _ na hnl
            have f2 := t12.but _ _ pa hpl
            walk_at "go"
            walk_at "br"
            · intro _
              walk_at "go"
              refine go_cut (fun σ' H' => ∃ b', σ' = [some (.ref p.a), some (.ref nl), some (.ref pl), some (.int d), some (.int k), none, none, none] ∧ Turn p b' H H') ?_ ?_
              · walk_at "go"
                walk_at "br"
                · intro h4
                  walk_at "go"
                  refine go_truL (.of f2) ?_
                  walk_at "br"
                  · intro h5
                    have h6 : 0 < ps.length := by
                      cases ps with
                      | nil => simp at h5
                      | cons _ _ => simp
                    walk_at "go"
                    refine go_lenL (.of f2) ?_
                    rw [List.length_map]
                    walk_at "go"
                    refine ⟨p, _, _, rfl, t12.pool, by omega, by omega, fun j H3 hj0 hj1 t3 => ?_⟩
                    obtain ⟨x, hx, ex⟩ := strs_pick hj0 hj1
                    have t13 := t12.trans t3
                    have f3 := t13.but _ _ pa hpl
                    walk_at "go"
                    refine go_ixL (.of f3) ex ?_
                    walk_at "go"
                    refine ⟨p, _, nl, pl, ns, ps, d - 1, rfl, t13.pool, t13.but _ _ na hnl, f3, na, pa, hns, hps, by omega, by omega, fun v1 e1 b4 H4 hin1 hv1 t4 => ?_⟩
                    have t14 := t13.trans t4
                    walk_at "go"
                    refine ⟨p, _, nl, pl, ns, ps, d - 1, rfl, t14.pool, t14.but _ _ na hnl, t14.but _ _ pa hpl, na, pa, hns, hps, by omega, by omega, fun v2 e2 b5 H5 hin2 hv2 t5 => ?_⟩
                    walk_at "go"
                    refine ⟨by show 4 ≤ sizeLine; decide, fun u nu => ?_⟩
                    exact q _ (.pick x e1 e2) _ _ ⟨hx, hin1, hin2⟩ (.tup (.inl (.inl upd_same)) (.cons (.str _) (.cons (.str _) (.cons (dp_same (same_new nu) _ _ (t5.dp t14.pool (exD_noL e1) hv1)) (.cons (dp_same (same_new nu) _ _ hv2) .nil))))) ((t14.trans t5).new nu)
                  · intro _
                    walk_at "go"
                    exact ⟨_, rfl, t12⟩
                · intro _
                  walk_at "go"
                  exact ⟨_, rfl, t12⟩
              rintro σ' H3 ⟨b3, rfl, t3⟩
              walk_at "go"
              refine ⟨by show 11 ≤ sizeLine; decide, fun u nu => ?_⟩
              obtain ⟨s, hs, es⟩ := at_sign11 hk0 h2
              walk_at "go"
              refine go_ixT (.inl (.inl upd_same)) es ?_
              have t4 := t3.new (o := .tup [.str "+", .str "-", .str "*", .str "/", .str "mod", .str "<", .str "=", .str "+", .str "-", .str "*", .str "/"]) nu
              generalize upd H3 u (.tup [.str "+", .str "-", .str "*", .str "/", .str "mod", .str "<", .str "=", .str "+", .str "-", .str "*", .str "/"]) = H4 at *
              walk_at "go"
              refine ⟨p, _, nl, pl, ns, ps, d - 1, rfl, t4.pool, t4.but _ _ na hnl, t4.but _ _ pa hpl, na, pa, hns, hps, by omega, by omega, fun v1 e1 b5 H5 hin1 hv1 t5 => ?_⟩
              have t15 := t4.trans t5
              walk_at "go"
              refine ⟨p, _, 5, rfl, t15.pool, by decide, by decide, fun w H6 _ _ t6 => ?_⟩
              have t16 := t15.trans t6
              have hv1' := t6.dp t15.pool (exD_noL e1) hv1
              walk_at "go"
              walk_at "br"
              · intro _
                walk_at "go"
                refine ⟨by show 3 ≤ sizeLine; decide, fun u2 nu2 => ?_⟩
                exact q _ (.op s e1 e1) _ _ ⟨hs, hin1, hin1⟩ (.tup (.inl (.inl upd_same)) (.cons (.str _) (.cons (dp_same (same_new nu2) _ _ hv1') (.cons (dp_same (same_new nu2) _ _ hv1') .nil)))) (t16.new nu2)
              intro _
              walk_at "go"
              refine ⟨p, _, nl, pl, ns, ps, d - 1, rfl, t16.pool, t16.but _ _ na hnl, t16.but _ _ pa hpl, na, pa, hns, hps, by omega, by omega, fun v2 e2 b7 H7 hin2 hv2 t7 => ?_⟩
              walk_at "go"
              refine ⟨by show 3 ≤ sizeLine; decide, fun u2 nu2 => ?_⟩
              exact q _ (.op s e1 e2) _ _ ⟨hs, hin1, hin2⟩ (.tup (.inl (.inl upd_same)) (.cons (.str _) (.cons (dp_same (same_new nu2) _ _ (t7.dp t16.pool (exD_noL e1) hv1')) (.cons (dp_same (same_new nu2) _ _ hv2) .nil)))) ((t16.trans t7).new nu2)
            · intro _
              walk_at "go"
              exact out _ _ t12
          · intro _
            walk_at "go"
            exact out _ _ t1
        · intro _
          walk_at "go"
          exact out _ _ t1
      rintro σ' H2 ⟨b2, rfl, t2⟩
      have e2 := t2.but _ _ na hnl
      walk_at "go"
      refine go_cut (fun σ' H' => σ' = [some (.ref p.a), some (.ref nl), some (.ref pl), some (.int d), some (.int k), none, none, none] ∧ H' = H2) ?_ ?_
      · walk_at "go"
        refine go_truL (.of e2) ?_
        walk_at "br"
        · intro h5
          have h6 : 0 < ns.length := by
            cases ns with
            | nil => simp at h5
            | cons _ _ => simp
          walk_at "go"
          walk_at "br"
          · intro _
            walk_at "go"
            refine go_lenL (.of e2) ?_
            rw [List.length_map]
            walk_at "go"
            refine ⟨p, _, _, rfl, t2.pool, by omega, by omega, fun j H3 hj0 hj1 t3 => ?_⟩
            obtain ⟨x, hx, ex⟩ := strs_pick hj0 hj1
            have t13 := t2.trans t3
            walk_at "go"
            refine go_ixL (.of (t13.but _ _ na hnl)) ex ?_
            walk_at "go"
            refine ⟨by show 2 ≤ sizeLine; decide, fun u nu => ?_⟩
            exact q _ (.var x) _ _ hx (.tup (.inl (.inl upd_same)) (.cons (.str _) (.cons (.str _) .nil))) (t13.new nu)
          · intro _
            walk_at "go"
            exact ⟨rfl, rfl⟩
        · intro _
          walk_at "go"
          exact ⟨rfl, rfl⟩
      rintro σ' H3 ⟨rfl, rfl⟩
      walk_at "go"
      walk_at "br"
      · intro _
        walk_at "go"
        refine ⟨p, _, 3, rfl, t2.pool, by decide, by decide, fun v H3 h0 h1 t3 => ?_⟩
        walk_at "go"
        refine ⟨by show 2 ≤ sizeLine; decide, fun u nu => ?_⟩
        exact q _ (.num v) _ _ ⟨h0, by omega⟩ (.tup (.inl (.inl upd_same)) (.cons (.str _) (.cons (.int _) .nil))) ((t2.trans t3).new nu)
      · intro _
        walk_at "go"
        refine ⟨p, _, rfl, t2.pool, fun v H3 h0 h1 t3 => ?_⟩
        walk_at "go"
        refine ⟨by show 2 ≤ sizeLine; decide, fun u nu => ?_⟩
        exact q _ (.num v) _ _ ⟨h0, h1⟩ (.tup (.inl (.inl upd_same)) (.cons (.str _) (.cons (.int _) .nil))) ((t2.trans t3).new nu)
end
end K24

namespace K24
open PySem PySem.Spec PyProof.Rows L2 Gx
section
variable {P : Program} {w : World} {K : PySem.W.Frag} {mg : Str → Option Value} {base : Heap} {A : Ad}
def sp__law_fold (K : PySem.W.Frag) (n : Nat) : Sp := fun vs H Q _ => ∃ (v : V) (o : Addr) (e : Ex) (ns ps : List Str) (on : Str → Bool), vs = [v, .ref o] ∧ Dp K H v (exD e) ∧ ExIn ns ps n e ∧ OnOk H o ps on ∧ n ≤ 40 ∧ (∀ x ∈ ns, PyData.strOk x = true) ∧ (∀ x ∈ ps, PyData.strOk x = true) ∧ ∀ v' H', Same H H' → Dp K H' v' (exD (foldE on e)) → Q v' H'
theorem Z__law_fold {n : Nat} (K : PySem.W.Frag) {vs : List V} {H : Hp} {Q : VK} {E : XK} (hn : n = 0) (h : sp__law_fold K n vs H Q E) : False := by
  subst hn
  obtain ⟨v, o, e, ns, ps, on, rfl, _, hin, _⟩ := h
  exact hin.elim
theorem R__law_fold (T : Txt P K mg A) : ∀ n : Nat, FnOk P w K mg base CX0 (n + 2) A.f__law_fold A.d__law_fold ["_law_due", "_law_on"] (sp__law_fold K n)
  | 0 => ⟨fun vs H Q E h => (Z__law_fold K rfl h).elim, fun _ _ _ _ _ _ _ _ _ _ _ _ _ h => (Z__law_fold K rfl h).elim⟩
  | n + 1 => by
    have IH := R__law_fold T n
    refine (T.F__law_fold.ok (k := n + 2) sc__law_fold (fun vs H Q E h => ?_) (fun cdv Ar outer s H vs Q E hr h => ?_))
    · obtain ⟨v, o, e, ns, ps, on, rfl, _⟩ := h
      rfl
    · obtain ⟨v, o, e, ns, ps, on, rfl, hv, hin, ho, hn40, hns, hps, q⟩ := h
      obtain ⟨ok, eo, _, eov⟩ := id ho
      refine ⟨_, (pss_cons (ps_if (PW.pt (pw_or (pt_cmpR op_eq (pe_ix ix_tup (pv 0) pe_int (fun _ _ => rfl)) pe_str (nomark _)) (pw_or (pt_cmpR op_eq (pe_ix ix_tup (pv 0) pe_int (fun _ _ => rfl)) pe_str (nomark _)) (pw_or1 (pt_cmpR op_eq (pe_ix ix_tup (pv 0) pe_int (fun _ _ => rfl)) pe_str (nomark _))))))
        (pss_one (ps_ret (pv 0)))
        pss_nil)
      (pss_cons (ps_if (pt_cmpR op_eq (pe_ix ix_tup (pv 0) pe_int (fun _ _ => rfl)) pe_str (nomark _))
        (pss_one (ps_ret (pe_call IH (hr.mono (by omega)) rfl T.m__law_fold T.F__law_fold.kp T.b__law_fold .nil pass0 (pa_cons (pe_ix ix_tup (pv 0) (pe_op op_sub pe_int (pe_callTy k_int1 (by rfl) T.n_int (by decide +kernel) (pa_cons (pe_dget (hu_of hr) (pv 1) (pe_ix ix_tup (pv 0) pe_int (fun _ _ => rfl)) (fun _ _ => rfl)) pa_nil))) (fun _ _ => rfl)) (pa_cons (pv 1) pa_nil)))))
        pss_nil)
      (pss_cons (ps_if (pt_cmpR op_eq (pe_ix ix_tup (pv 0) pe_int (fun _ _ => rfl)) pe_str (nomark _))
        (pss_one (ps_ret (pe_tup (pa_cons pe_str (pa_cons (pe_call IH (hr.mono (by omega)) rfl T.m__law_fold T.F__law_fold.kp T.b__law_fold .nil pass0 (pa_cons (pe_ix ix_tup (pv 0) pe_int (fun _ _ => rfl)) (pa_cons (pv 1) pa_nil))) pa_nil)))))
        pss_nil)
      (pss_one (ps_ret (pe_call (G__law_fold_pair T) (hr.mono (by omega)) rfl T.m__law_fold_pair T.F__law_fold_pair.kp T.b__law_fold_pair .nil pass0 (pa_cons (pe_ix ix_tup (pv 0) pe_int (fun _ _ => rfl)) (pa_cons (pe_call IH (hr.mono (by omega)) rfl T.m__law_fold T.F__law_fold.kp T.b__law_fold .nil pass0 (pa_cons (pe_ix ix_tup (pv 0) pe_int (fun _ _ => rfl)) (pa_cons (pv 1) pa_nil))) (pa_cons (pe_call IH (hr.mono (by omega)) rfl T.m__law_fold T.F__law_fold.kp T.b__law_fold .nil pass0 (pa_cons (pe_ix ix_tup (pv 0) pe_int (fun _ _ => rfl)) (pa_cons (pv 1) pa_nil))) pa_nil))))))))), ?_⟩
      try dsimp only [cxOf, Cx.nox, Cx.wish]
      cases e with
      | num k =>
        obtain ⟨a, xs, rfl, ha, hx⟩ := dp_tup hv
        obtain ⟨x, y, rfl, h1, h2⟩ := dp2 hx
        cases dpS h1
        cases dpI h2
        walk_at "go"
        exact q _ _ (Same.refl _) hv
      | var x =>
        obtain ⟨a, xs, rfl, ha, hx⟩ := dp_tup hv
        obtain ⟨x1, y, rfl, h1, h2⟩ := dp2 hx
        cases dpS h1
        cases dpS h2
        walk_at "go"
        exact q _ _ (Same.refl _) hv
      | long =>
        obtain ⟨a, xs, rfl, ha, hx⟩ := dp_tup hv
        obtain ⟨x1, rfl, h1⟩ := dp1 hx
        cases dpS h1
        walk_at "go"
        exact q _ _ (Same.refl _) hv
      | view e =>
        obtain ⟨a, xs, rfl, ha, hx⟩ := dp_tup hv
        obtain ⟨x1, y, rfl, h1, h2⟩ := dp2 hx
        cases dpS h1
        walk_at "go"
        refine ⟨y, o, e, ns, ps, on, rfl, h2, hin, ho, by omega, hns, hps, fun v' H1 s1 hv' => ?_⟩
        walk_at "go"
        refine ⟨by show 2 ≤ sizeLine; decide, fun u nu => ?_⟩
        exact q _ _ (s1.trans (same_new nu)) (.tup (.inl (.inl upd_same)) (.cons (.str _) (.cons (dp_same (same_new nu) _ _ hv') .nil)))
      | pick x e1 e2 =>
        obtain ⟨a, xs, rfl, ha, hx⟩ := dp_tup hv
        obtain ⟨x1, y, z1, z2, rfl, h1, h2, h3, h4⟩ := dp4 hx
        cases dpS h1
        cases dpS h2
        have q2 : ∀ v' H', Same H H' → Dp K H' v' (exD (if on x = true then foldE on e1 else foldE on e2)) → Q v' H' := q
        walk_at "go"
        refine go_dgetS eo (eov x hin.1) ?_
        walk_at "go"
        cases hon : on x with
        | true =>
          rw [hon] at q2
          refine go_ixT ha (k := 2) (v := z1) rfl ?_
          walk_at "go"
          exact ⟨z1, o, e1, ns, ps, on, rfl, h3, hin.2.1, ho, by omega, hns, hps, q2⟩
        | false =>
          rw [hon] at q2
          refine go_ixT ha (k := 3) (v := z2) rfl ?_
          walk_at "go"
          exact ⟨z2, o, e2, ns, ps, on, rfl, h4, hin.2.2, ho, by omega, hns, hps, q2⟩

      | op k e1 e2 =>
        obtain ⟨a, xs, rfl, ha, hx⟩ := dp_tup hv
        obtain ⟨x1, y, z, rfl, h1, h2, h3⟩ := dp3 hx
        cases dpS h1
        obtain ⟨n1, n2, n3, n4, n5⟩ := sign_ne hin.1

        walk_at "go"
        rw [decide_eq_false n1]
        walk_at "go"
        rw [decide_eq_false n2]
        walk_at "go"
        rw [decide_eq_false n3]
        walk_at "go"
        rw [decide_eq_false n5]
        walk_at "go"
        rw [decide_eq_false n4]
        walk_at "go"

        refine ⟨y, o, e1, ns, ps, on, rfl, h2, hin.2.1, ho, by omega, hns, hps, fun v1 H1 s1 hv1 => ?_⟩
        have ha1 := same_sqT s1 ha
        walk_at "go"
        refine ⟨z, o, e2, ns, ps, on, rfl, dp_same s1 _ _ h3, hin.2.2, ho.same s1, by omega, hns, hps, fun v2 H2 s2 hv2 => ?_⟩
        walk_at "go"
        exact ⟨k, v1, v2, foldE on e1, foldE on e2, ns, ps, n, rfl, hin.1, dp_same s2 _ _ hv1, hv2, foldE_in n e1 hin.2.1, foldE_in n e2 hin.2.2, by omega, hns, hps, fun v' H' s' hv' => q _ _ ((s1.trans s2).trans s') hv'⟩
end
end K24

namespace K24
open PySem PySem.Spec PyProof.Rows L2 Gx
section
variable {P : Program} {w : World} {K : PySem.W.Frag} {mg : Str → Option Value} {base : Heap} {A : Ad}
def sp__law_same (K : PySem.W.Frag) : Nat → Sp
  | 0 => fun _ _ _ _ => False
  | n + 1 => fun vs H Q _ => ∃ (x y : V), vs = [x, y] ∧ Eqd K H n x y ∧ Q (.bl true) H
theorem R__law_same (T : Txt P K mg A) : ∀ n : Nat, FnOk P w K mg base CX0 (n + 0) A.f__law_same A.d__law_same ["_law_actual", "_law_due"] (sp__law_same K n)
  | 0 => ⟨fun vs H Q E h => False.elim h, fun _ _ _ _ _ _ _ _ _ _ _ _ _ h => False.elim h⟩
  | n + 1 => by
    have IH := R__law_same T n
    refine (T.F__law_same.ok (k := n + 0) sc__law_same (fun vs H Q E h => ?_) (fun cdv Ar outer s H vs Q E hr h => ?_))
    · obtain ⟨x, y, rfl, _⟩ := h
      rfl
    · obtain ⟨x, y, rfl, hxy, q⟩ := h
      refine ⟨_, (pss_cons (ps_if (PW.pt (pw_or (pt_val (pe_callB call_isi (by rfl) T.n_isinstance (by decide +kernel) (pa_cons (pv 1) (pa_cons (pe_bltn (v := .ty "tuple") (by rfl) T.n_tuple (by decide +kernel) rfl) pa_nil)))) (pw_or1 (pt_val (pe_callB call_isi (by rfl) T.n_isinstance (by decide +kernel) (pa_cons (pv 1) (pa_cons (pe_bltn (v := .ty "list") (by rfl) T.n_list (by decide +kernel) rfl) pa_nil)))))))
        (pss_cons (ps_if (PW.pt (pw_or (pt_cmpR op_ne (pe_callB call_isi (by rfl) T.n_isinstance (by decide +kernel) (pa_cons (pv 1) (pa_cons (pe_bltn (v := .ty "tuple") (by rfl) T.n_tuple (by decide +kernel) rfl) pa_nil))) (pe_callB call_isi (by rfl) T.n_isinstance (by decide +kernel) (pa_cons (pv 0) (pa_cons (pe_bltn (v := .ty "tuple") (by rfl) T.n_tuple (by decide +kernel) rfl) pa_nil))) (nomark _)) (pw_or1 (pt_cmpR op_ne (pe_callB call_isi (by rfl) T.n_isinstance (by decide +kernel) (pa_cons (pv 1) (pa_cons (pe_bltn (v := .ty "list") (by rfl) T.n_list (by decide +kernel) rfl) pa_nil))) (pe_callB call_isi (by rfl) T.n_isinstance (by decide +kernel) (pa_cons (pv 0) (pa_cons (pe_bltn (v := .ty "list") (by rfl) T.n_list (by decide +kernel) rfl) pa_nil))) (nomark _)))))
        (pss_one (ps_ret pe_bl))
        pss_nil)
      (pss_cons (ps_if (pt_cmpR op_ne (pe_callB k_len (by rfl) T.n_len (by decide +kernel) (pa_cons (pv 0) pa_nil)) (pe_callB k_len (by rfl) T.n_len (by decide +kernel) (pa_cons (pv 1) pa_nil)) (nomark _))
        (pss_one (ps_ret pe_bl))
        pss_nil)
      (pss_cons (ps_for PassesOwn.never rfl (pi_range1 rfl T.n_range (pa_cons (pe_callB k_len (by rfl) T.n_len (by decide +kernel) (pa_cons (pv 1) pa_nil)) pa_nil)) (pg_name (i := 2) sc__law_same.nd rfl (Or.inl rfl))
        (pss_one (ps_if (pt_not (pt_val (pe_call IH (hr.mono (by omega)) rfl T.m__law_same T.F__law_same.kp T.b__law_same .nil pass0 (pa_cons (pe_ix ix_seq (pv 0) (pv 2) (fun _ _ => rfl)) (pa_cons (pe_ix ix_seq (pv 1) (pv 2) (fun _ _ => rfl)) pa_nil)))))
        (pss_one (ps_ret pe_bl))
        pss_nil)))
      (pss_one (ps_ret pe_bl)))))
        pss_nil)
      (pss_cons (ps_if (PW.pt (pw_or (pt_cmpR o_isN (pv 1) pe_non (nomark _)) (pw_or1 (pt_val (pe_callB call_isi (by rfl) T.n_isinstance (by decide +kernel) (pa_cons (pv 1) (pa_cons (pe_bltn (v := .ty "bool") (by rfl) T.n_bool (by decide +kernel) rfl) pa_nil)))))))
        (pss_one (ps_ret (pe_and (pe_cmpR op_eq (pe_cmpR o_isN (pv 0) pe_non (nomark _)) (pe_cmpR o_isN (pv 1) pe_non (nomark _)) (nomark _)) (pe_and (pe_or (pe_cmpR o_isN (pv 1) pe_non (nomark _)) (pe_one (pe_callB call_isi (by rfl) T.n_isinstance (by decide +kernel) (pa_cons (pv 0) (pa_cons (pe_bltn (v := .ty "bool") (by rfl) T.n_bool (by decide +kernel) rfl) pa_nil))))) (pe_one (pe_cmpR op_eq (pv 0) (pv 1) (nomark _)))))))
        pss_nil)
      (pss_cons (ps_if (pt_val (pe_callB call_isi (by rfl) T.n_isinstance (by decide +kernel) (pa_cons (pv 1) (pa_cons (pe_bltn (v := .ty "int") (by rfl) T.n_int (by decide +kernel) rfl) pa_nil))))
        (pss_one (ps_ret (pe_and (pe_callB call_isi (by rfl) T.n_isinstance (by decide +kernel) (pa_cons (pv 0) (pa_cons (pe_bltn (v := .ty "int") (by rfl) T.n_int (by decide +kernel) rfl) pa_nil))) (pe_and (pe_not (pe_callB call_isi (by rfl) T.n_isinstance (by decide +kernel) (pa_cons (pv 0) (pa_cons (pe_bltn (v := .ty "bool") (by rfl) T.n_bool (by decide +kernel) rfl) pa_nil)))) (pe_one (pe_cmpR op_eq (pv 0) (pv 1) (nomark _)))))))
        pss_nil)
      (pss_one (ps_ret (pe_and (pe_callB call_isi (by rfl) T.n_isinstance (by decide +kernel) (pa_cons (pv 0) (pa_cons (pe_bltn (v := .ty "str") (by rfl) T.n_str (by decide +kernel) rfl) pa_nil))) (pe_one (pe_cmpR op_eq (pv 0) (pv 1) (nomark _))))))))), ?_⟩
      try dsimp only [cxOf, Cx.nox, Cx.wish]
      walk_at "go"
      cases hxy with
      | non => walk_at "go"; exact q
      | bl b => walk_at "go"; (rw [decide_eq_true rfl]; exact q)
      | int i => walk_at "go"; (rw [decide_eq_true rfl]; exact q)
      | str z => walk_at "go"; (rw [decide_eq_true rfl]; exact q)
      | @lst m a b xs ys h1 h2 hl hz hall =>
        walk_at "go"
        rw [decide_eq_true rfl]
        walk_at "go"
        rw [decide_eq_true rfl]
        walk_at "go"
        refine go_lenL h1 ?_
        walk_at "go"
        refine go_lenL h2 ?_
        walk_at "go"
        rw [decide_eq_true (by omega : (xs.length : Int) = ys.length)]
        walk_at "go"
        refine go_lenL h2 ?_
        walk_at "go"
        refine foR1 (fun i σ' H' => ∃ v, σ' = [some (.ref a), some (.ref b), v] ∧ H' = H) (by omega) ⟨_, rfl, rfl⟩ ?_ ?_
        · rintro i σ' H' hi ⟨v, rfl, rfl⟩
          walk_at "go"
          have hi2 : i < ys.length := by omega
          have hi1 : i < xs.length := by omega
          refine go_ixQL h1 (at_nat (List.getElem?_eq_getElem hi1)) ?_
          walk_at "go"
          refine go_ixQL h2 (at_nat (List.getElem?_eq_getElem hi2)) ?_
          walk_at "go"
          refine ⟨_, _, rfl, hall i _ _ (List.getElem?_eq_getElem hi1) (List.getElem?_eq_getElem hi2), ?_⟩
          walk_at "go"
          exact ⟨_, rfl, rfl⟩
        · rintro σ' H' ⟨v, rfl, rfl⟩
          walk_at "go"
          exact q
      | @tup m a b xs ys h1 h2 hl hz hall =>
        walk_at "go"
        rw [decide_eq_true rfl]
        walk_at "go"
        rw [decide_eq_true rfl]
        walk_at "go"
        refine go_lenT h1 ?_
        walk_at "go"
        refine go_lenT h2 ?_
        walk_at "go"
        rw [decide_eq_true (by omega : (xs.length : Int) = ys.length)]
        walk_at "go"
        refine go_lenT h2 ?_
        walk_at "go"
        refine foR1 (fun i σ' H' => ∃ v, σ' = [some (.ref a), some (.ref b), v] ∧ H' = H) (by omega) ⟨_, rfl, rfl⟩ ?_ ?_
        · rintro i σ' H' hi ⟨v, rfl, rfl⟩
          walk_at "go"
          have hi2 : i < ys.length := by omega
          have hi1 : i < xs.length := by omega
          refine go_ixQT h1 (at_nat (List.getElem?_eq_getElem hi1)) ?_
          walk_at "go"
          refine go_ixQT h2 (at_nat (List.getElem?_eq_getElem hi2)) ?_
          walk_at "go"
          refine ⟨_, _, rfl, hall i _ _ (List.getElem?_eq_getElem hi1) (List.getElem?_eq_getElem hi2), ?_⟩
          walk_at "go"
          exact ⟨_, rfl, rfl⟩
        · rintro σ' H' ⟨v, rfl, rfl⟩
          walk_at "go"
          exact q
end
end K24

namespace K24
open PySem PySem.Spec PyProof.Rows L2 Gx
section
variable {P : Program} {w : World} {K : PySem.W.Frag} {mg : Str → Option Value} {base : Heap} {A : Ad}
theorem S__law_statement (T : Txt P K mg A) (n : Nat) (IHb : FnOk P w K mg base CX0 (2 * n + 12) A.f__law_block A.d__law_block ["_law_pool_here", "_law_names_here", "_law_picks", "_law_deep", "_law_state"] (sp__law_block K n)) : FnOk P w K mg base CX0 (2 * n + 12 + 1) A.f__law_statement A.d__law_statement ["_law_pool_here", "_law_names_here", "_law_picks", "_law_deep", "_law_state"] (sp__law_statement K (n + 1)) := by
  refine (T.F__law_statement.ok (k := 2 * n + 12) sc__law_statement (fun vs H Q E h => ?_) (fun cdv Ar outer s H vs Q E hr h => ?_))
  · obtain ⟨p, b, nl, pl, st, ns, ps, d, rfl, _⟩ := h
    rfl
  · obtain ⟨p, b, nl, pl, st, ns, ps, d, rfl, hp, hnl, hpl, hne, h2, hns, hps, hd, hd0, q⟩ := h
    obtain ⟨na, pa, n2, p2, sa, sl⟩ := id hne
    refine ⟨_, (pss_cons (ps_set (i := 5) sc__law_statement.nd rfl (Or.inl rfl) (pe_call (G__law_draw T) (hr.mono (by omega)) rfl T.m__law_draw T.F__law_draw.kp T.b__law_draw .nil pass0 (pa_cons (pv 0) (pa_cons pe_int pa_nil))))
      (Evl.pss_cut (ps_if (PW.pt (pw_and (pt_cmpR op_lt (pv 5) pe_int (nomark _)) (pw_and1 (pt_cmpR op_gt (pv 3) pe_int (nomark _)))))
        (pss_cons (ps_set (i := 6) sc__law_statement.nd rfl (Or.inl rfl) (pe_ix ix_list (pv 4) pe_int (fun _ _ => rfl)))
      (pss_cons (ps_set (i := 7) sc__law_statement.nd rfl (Or.inl rfl) (pe_call IHb (hr.mono (by omega)) rfl T.m__law_block T.F__law_block.kp T.b__law_block .nil pass0 (pa_cons (pv 0) (pa_cons (pv 1) (pa_cons (pv 2) (pa_cons (pe_op op_sub (pv 3) pe_int) (pa_cons (pv 4) pa_nil)))))))
      (pss_cons (ps_set (i := 8) sc__law_statement.nd rfl (Or.inl rfl) (pv 7))
      (Evl.pss_cut (ps_if (PW.pt (pw_or (pt_cmpR op_ne (pv 5) pe_int (nomark _)) (pw_or1 (pt_cmpR op_gt (pe_ix ix_list (pv 4) pe_int (fun _ _ => rfl)) (pv 6) (nomark _)))))
        (pss_one (ps_set (i := 8) sc__law_statement.nd rfl (Or.inl rfl) (pe_call IHb (hr.mono (by omega)) rfl T.m__law_block T.F__law_block.kp T.b__law_block .nil pass0 (pa_cons (pv 0) (pa_cons (pv 1) (pa_cons (pv 2) (pa_cons (pe_op op_sub (pv 3) pe_int) (pa_cons (pv 4) pa_nil))))))))
        pss_nil)
      (pss_cons (ps_if (PW.pt (pw_and (pt_cmpR op_lt (pv 5) pe_int (nomark _)) (pw_and1 (p_truthK (K := K) rfl (pv 2) (by intro _; rfl)))))
        (pss_one (ps_ret (pe_tup (pa_cons pe_str (pa_cons (pe_ix ix_list (pv 2) (pe_call (G__law_draw T) (hr.mono (by omega)) rfl T.m__law_draw T.F__law_draw.kp T.b__law_draw .nil pass0 (pa_cons (pv 0) (pa_cons (pe_callB k_len (by rfl) T.n_len (by decide +kernel) (pa_cons (pv 2) pa_nil)) pa_nil))) (fun _ _ => rfl)) (pa_cons (pv 7) (pa_cons (pv 8) pa_nil)))))))
        pss_nil)
      (pss_one (ps_ret (pe_tup (pa_cons pe_str (pa_cons (pe_call (R__law_expression T 4) (hr.mono (by omega)) rfl T.m__law_expression T.F__law_expression.kp T.b__law_expression .nil pass0 (pa_cons (pv 0) (pa_cons (pv 1) (pa_cons (pv 2) (pa_cons pe_int pa_nil))))) (pa_cons (pv 7) (pa_cons (pv 8) pa_nil))))))))))))
        pss_nil)
      (Evl.pss_cut (ps_if (PW.pt (pw_and (pt_cmpR op_lt (pv 5) pe_int (nomark _)) (pw_and1 (p_truthK (K := K) rfl (pv 1) (by intro _; rfl)))))
        (pss_cons (ps_set (i := 9) sc__law_statement.nd rfl (Or.inl rfl) (pe_ix ix_list (pv 1) (pe_call (G__law_draw T) (hr.mono (by omega)) rfl T.m__law_draw T.F__law_draw.kp T.b__law_draw .nil pass0 (pa_cons (pv 0) (pa_cons (pe_callB k_len (by rfl) T.n_len (by decide +kernel) (pa_cons (pv 1) pa_nil)) pa_nil))) (fun _ _ => rfl)))
      (Evl.pss_cut (ps_if (PW.pt (pw_and (pt_cmpR op_eq (pv 5) pe_int (nomark _)) (pw_and1 (pt_cmpR op_lt (pe_ix ix_list (pv 4) pe_int (fun _ _ => rfl)) pe_int (nomark _)))))
        (pss_cons (ps_asg (pe_op op_add (pe_ix ix_list (pv 4) pe_int (fun _ _ => rfl)) pe_int) (pg_sub (pv 4) pe_int set_list))
      (pss_cons (ps_asg (pe_op op_add (pe_ix ix_list (pv 4) pe_int (fun _ _ => rfl)) pe_int) (pg_sub (pv 4) pe_int set_list))
      (pss_one (ps_ret (pe_tup (pa_cons pe_str (pa_cons (pe_op op_add pe_int (pe_call (G__law_draw T) (hr.mono (by omega)) rfl T.m__law_draw T.F__law_draw.kp T.b__law_draw .nil pass0 (pa_cons (pv 0) (pa_cons pe_int pa_nil)))) (pa_cons (pv 9) (pa_cons (pe_op op_add pe_int (pe_call (G__law_draw T) (hr.mono (by omega)) rfl T.m__law_draw T.F__law_draw.kp T.b__law_draw .nil pass0 (pa_cons (pv 0) (pa_cons pe_int pa_nil)))) (pa_cons (pe_op op_sub (pe_ix ix_list (pv 4) pe_int (fun _ _ => rfl)) pe_int) pa_nil))))))))))
        pss_nil)
      (pss_cons (ps_if (pt_cmpR op_eq (pe_call (G__law_draw T) (hr.mono (by omega)) rfl T.m__law_draw T.F__law_draw.kp T.b__law_draw .nil pass0 (pa_cons (pv 0) (pa_cons pe_int pa_nil))) pe_int (nomark _))
        (pss_one (ps_ret (pe_tup (pa_cons pe_str (pa_cons (pv 9) (pa_cons (pe_tup (pa_cons pe_str (pa_cons (pv 9) pa_nil))) pa_nil))))))
        pss_nil)
      (pss_one (ps_ret (pe_tup (pa_cons pe_str (pa_cons (pv 9) (pa_cons (pe_call (R__law_expression T 4) (hr.mono (by omega)) rfl T.m__law_expression T.F__law_expression.kp T.b__law_expression .nil pass0 (pa_cons (pv 0) (pa_cons (pv 1) (pa_cons (pv 2) (pa_cons pe_int pa_nil))))) pa_nil)))))))))
        pss_nil)
      (Evl.pss_cut (ps_if (pt_cmpR op_eq (pv 5) pe_int (nomark _))
        (pss_one (ps_ret (pe_tup (pa_cons pe_str (pa_cons (pe_call (G__law_draw T) (hr.mono (by omega)) rfl T.m__law_draw T.F__law_draw.kp T.b__law_draw .nil pass0 (pa_cons (pv 0) (pa_cons pe_int pa_nil))) (pa_cons (pe_call (R__law_expression T 4) (hr.mono (by omega)) rfl T.m__law_expression T.F__law_expression.kp T.b__law_expression .nil pass0 (pa_cons (pv 0) (pa_cons (pv 1) (pa_cons (pv 2) (pa_cons pe_int pa_nil))))) pa_nil))))))
        pss_nil)
      (Evl.pss_cut (ps_if (PW.pt (pw_and (pt_cmpR op_eq (pv 5) pe_int (nomark _)) (pw_and (p_truthK (K := K) rfl (pv 1) (by intro _; rfl)) (pw_and1 (pt_cmpR op_lt (pe_ix ix_list (pv 4) pe_int (fun _ _ => rfl)) pe_int (nomark _))))))
        (pss_cons (ps_asg (pe_op op_add (pe_ix ix_list (pv 4) pe_int (fun _ _ => rfl)) pe_int) (pg_sub (pv 4) pe_int set_list))
      (pss_one (ps_ret (pe_tup (pa_cons pe_str (pa_cons (pe_ix ix_list (pv 1) (pe_call (G__law_draw T) (hr.mono (by omega)) rfl T.m__law_draw T.F__law_draw.kp T.b__law_draw .nil pass0 (pa_cons (pv 0) (pa_cons (pe_callB k_len (by rfl) T.n_len (by decide +kernel) (pa_cons (pv 1) pa_nil)) pa_nil))) (fun _ _ => rfl)) (pa_cons (pe_op op_add pe_int (pe_call (G__law_draw T) (hr.mono (by omega)) rfl T.m__law_draw T.F__law_draw.kp T.b__law_draw .nil pass0 (pa_cons (pv 0) (pa_cons pe_int pa_nil)))) pa_nil)))))))
        pss_nil)
      (pss_one (ps_ret (pe_tup (pa_cons (pe_ix ix_tup (pe_tup (pa_cons pe_str (pa_cons pe_str pa_nil))) (pe_op op_mod (pe_callTy k_int1 (by rfl) T.n_int (by decide +kernel) (pa_cons (pv 5) pa_nil)) pe_int) (fun _ _ => rfl)) (pa_cons (pe_call (R__law_expression T 4) (hr.mono (by omega)) rfl T.m__law_expression T.F__law_expression.kp T.b__law_expression .nil pass0 (pa_cons (pv 0) (pa_cons (pv 1) (pa_cons (pv 2) (pa_cons pe_int pa_nil))))) pa_nil)))))))))), ?_⟩
    try dsimp only [cxOf, Cx.nox, Cx.wish]

    walk_at "go"
    have hW : 1 ≤ 5 ^ n := Nat.pow_pos (by decide)
    have eW : 5 ^ (n + 1) = 5 ^ n * 5 := by rfl
    have one : ∀ s : Stm, cnt s = 1 → 5 * cnt s ≤ 5 ^ (n + 1) := fun s h => by rw [h, eW]; omega
    refine ⟨p, b, 12, rfl, hp, by decide, by decide, fun k H1 hk0 hk1 t1 => ?_⟩
    have t1 := (T2.refl hp h2).turn sa t1
    walk_at "go"
    refine go_cut (fun σ' H' => ∃ b', σ' = [some (.ref p.a), some (.ref nl), some (.ref pl), some (.int d), some (.ref st), some (.int k), none, none, none, none] ∧ T2 p st b' H H') ?_ ?_

    · walk_at "go"
      walk_at "br"
      · intro h1
        walk_at "go"
        walk_at "br"
        · intro hd1
          obtain ⟨i1, j1, e1⟩ := t1.two
          walk_at "go"
          refine ⟨p, _, nl, pl, st, ns, ps, d - 1, rfl, t1.pool, t1.but _ _ na n2 hnl, t1.but _ _ pa p2 hpl, hne, t1.two, hns, hps, by omega, by omega, fun v2 s2 b2 H2 hin2 hc2 hv2 t2 => ?_⟩
          have t12 := t1.trans t2
          obtain ⟨i2, j2, e2⟩ := t2.two
          walk_at "go"
          refine go_cut (fun σ' H' => ∃ (b' : Int) (v3 : V) (s3 : List Stm), σ' = [some (.ref p.a), some (.ref nl), some (.ref pl), some (.int d), some (.ref st), some (.int k), some (.int j1), some v2, some v3, none] ∧ T2 p st b' H H' ∧ Dp K H' v2 (blD s2) ∧ Dp K H' v3 (blD s3) ∧ (∀ s ∈ s3, StIn ns ps n s) ∧ cnts s3 ≤ 5 ^ n) ?_ ?_
          · have same : ∃ (b' : Int) (v3 : V) (s3 : List Stm), [some (V.ref p.a), some (.ref nl), some (.ref pl), some (.int d), some (.ref st), some (.int k), some (.int j1), some v2, some v2, none] = [some (V.ref p.a), some (.ref nl), some (.ref pl), some (.int d), some (.ref st), some (.int k), some (.int j1), some v2, some v3, none] ∧ T2 p st b' H H2 ∧ Dp K H2 v2 (blD s2) ∧ Dp K H2 v3 (blD s3) ∧ (∀ s ∈ s3, StIn ns ps n s) ∧ cnts s3 ≤ 5 ^ n := ⟨_, v2, s2, rfl, t12, hv2, hv2, hin2, hc2⟩
            have other : ∀ Q0 : Hp → Prop, True := fun _ => trivial
            walk_at "go"
            walk_at "br"
            · intro _
              walk_at "go"
              refine ⟨p, _, nl, pl, st, ns, ps, d - 1, rfl, t12.pool, t12.but _ _ na n2 hnl, t12.but _ _ pa p2 hpl, hne, t12.two, hns, hps, by omega, by omega, fun v3 s3 b3 H3 hin3 hc3 hv3 t3 => ?_⟩
              walk_at "go"
              exact ⟨_, v3, s3, rfl, t12.trans t3, t3.dp t12.pool t12.two (blD_noL _) hv2, hv3, hin3, hc3⟩
            · intro _
              walk_at "go"
              walk_at "br"
              · intro _
                walk_at "go"
                refine ⟨p, _, nl, pl, st, ns, ps, d - 1, rfl, t12.pool, t12.but _ _ na n2 hnl, t12.but _ _ pa p2 hpl, hne, t12.two, hns, hps, by omega, by omega, fun v3 s3 b3 H3 hin3 hc3 hv3 t3 => ?_⟩
                walk_at "go"
                exact ⟨_, v3, s3, rfl, t12.trans t3, t3.dp t12.pool t12.two (blD_noL _) hv2, hv3, hin3, hc3⟩
              · intro _
                walk_at "go"
                exact same
          rintro σ' H3 ⟨b3, v3, s3, rfl, t3, hv2, hv3, hin3, hc3⟩
          have pn : 0 < n := by omega
          have lim : ∀ s : Stm, cnt s = max 1 (max (cnts s2) (cnts s3)) → 5 * cnt s ≤ 5 ^ (n + 1) := fun s h => by rw [h, eW]; omega
          have ifp : ∀ H', H' = H3 → tRet (tTup (tCons (tC (V.str "if")) (tCons (tCall (sp__law_expression K 4) [] E0 (tCons (tVar 0) (tCons (tVar 1) (tCons (tVar 2) (tCons (tC (.int 4)) tNil))))) (tCons (tVar 7) (tCons (tVar 8) tNil))))) { nx := fun σ' H' => ∃ b', σ' = [some (.ref p.a), some (.ref nl), some (.ref pl), some (.int d), some (.ref st), some (.int k), none, none, none, none] ∧ T2 p st b' H H', rt := Q } [some (.ref p.a), some (.ref nl), some (.ref pl), some (.int d), some (.ref st), some (.int k), some (.int j1), some v2, some v3, none] H' := by
            rintro H' rfl
            walk_at "go"
            refine ⟨p, _, nl, pl, ns, ps, 4, rfl, t3.pool, t3.but _ _ na n2 hnl, t3.but _ _ pa p2 hpl, na, pa, hns, hps, rfl, by decide, fun ev e b8 H8 hine hve t8 => ?_⟩
            have t9 := t3.turn sa t8
            walk_at "go"
            refine ⟨by show 4 ≤ sizeLine; decide, fun u nu => ?_⟩
            exact q _ (.iff e s2 s3) _ _ ⟨pn, hine, hin2, hin3⟩ (lim _ rfl) (.tup (.inl (.inl upd_same)) (.cons (.str _) (.cons (dp_same (same_new nu) _ _ hve) (.cons (dp_same (same_new nu) _ _ (t8.dp t3.pool (blD_noL _) hv2)) (.cons (dp_same (same_new nu) _ _ (t8.dp t3.pool (blD_noL _) hv3)) .nil))))) (t9.new nu)
          walk_at "go"
          walk_at "br"
          · intro _
            walk_at "go"
            have f3 := t3.but _ _ pa p2 hpl
            refine go_truL (.of f3) ?_
            walk_at "br"
            · intro h5
              have h6 : 0 < ps.length := by
                cases ps with
                | nil => simp at h5
                | cons _ _ => simp
              walk_at "go"
              refine go_lenL (.of f3) ?_
              rw [List.length_map]
              walk_at "go"
              refine ⟨p, _, _, rfl, t3.pool, by omega, by omega, fun j H4 hj0 hj1 t4 => ?_⟩
              obtain ⟨x, hx, ex⟩ := strs_pick hj0 hj1
              walk_at "go"
              refine go_ixL (.of (t4.but _ _ pa f3)) ex ?_
              walk_at "go"
              refine ⟨by show 4 ≤ sizeLine; decide, fun u nu => ?_⟩
              exact q _ (.whn x s2 s3) _ _ ⟨pn, hx, hin2, hin3⟩ (lim _ rfl) (.tup (.inl (.inl upd_same)) (.cons (.str _) (.cons (.str _) (.cons (dp_same (same_new nu) _ _ (t4.dp t3.pool (blD_noL _) hv2)) (.cons (dp_same (same_new nu) _ _ (t4.dp t3.pool (blD_noL _) hv3)) .nil))))) ((t3.turn sa t4).new nu)
            · intro _
              exact ifp _ rfl
          · intro _
            exact ifp _ rfl
        · intro _
          walk_at "go"
          exact ⟨_, rfl, t1⟩
      · intro _
        walk_at "go"
        exact ⟨_, rfl, t1⟩
    clear t1
    rintro σ' H1 ⟨b1, rfl, t1⟩
    have e1 := t1.but _ _ na n2 hnl
    walk_at "go"
    refine go_cut (fun σ' H' => ∃ b', σ' = [some (.ref p.a), some (.ref nl), some (.ref pl), some (.int d), some (.ref st), some (.int k), none, none, none, none] ∧ T2 p st b' H H') ?_ ?_

    · walk_at "go"
      walk_at "br"
      · intro h1
        walk_at "go"
        refine go_truL (.of e1) ?_
        walk_at "br"
        · intro h5
          have h6 : 0 < ns.length := by
            cases ns with
            | nil => simp at h5
            | cons _ _ => simp
          walk_at "go"
          refine go_lenL (.of e1) ?_
          rw [List.length_map]
          walk_at "go"
          refine ⟨p, _, _, rfl, t1.pool, by omega, by omega, fun j H2 hj0 hj1 t2 => ?_⟩
          obtain ⟨x, hx, ex⟩ := strs_pick hj0 hj1
          have t12 := t1.turn sa t2
          walk_at "go"
          refine go_ixL (.of (t2.but _ _ na e1)) ex ?_
          walk_at "go"
          refine go_cut (fun σ' H' => σ' = [some (V.ref p.a), some (.ref nl), some (.ref pl), some (.int d), some (.ref st), some (.int k), none, none, none, some (.str x)] ∧ H' = H2) ?_ ?_
          · walk_at "go"
            walk_at "br"
            · intro _
              obtain ⟨i2, j2, e2⟩ := t12.two
              walk_at "go"
              walk_at "br"
              · intro _
                walk_at "go"
                have t3 : T2 p st b1 H (upd H2 st (.lst [.int (i2 + 1), .int (j2 + 1)])) := t12.put sa sl
                refine ⟨p, _, 2, rfl, t3.pool, by decide, by decide, fun w H4 _ _ t4 => ?_⟩
                have t14 := t3.turn sa t4
                walk_at "go"
                refine ⟨p, _, 8, rfl, t14.pool, by decide, by decide, fun w2 H5 _ _ t5 => ?_⟩
                have t15 := t14.turn sa t5
                obtain ⟨i3, j3, e3⟩ := t15.two
                walk_at "go"
                refine ⟨by show 5 ≤ sizeLine; decide, fun u nu => ?_⟩
                exact q _ (.mov (1 + w) x (1 + w2) (i3 - 1)) _ _ hx (one _ rfl) (.tup (.inl (.inl upd_same)) (.cons (.str _) (.cons (.int _) (.cons (.str _) (.cons (.int _) (.cons (.int _) .nil)))))) (t15.new nu)
              · intro _
                walk_at "go"
                exact ⟨rfl, rfl⟩
            · intro _
              walk_at "go"
              exact ⟨rfl, rfl⟩
          rintro σ' H3 ⟨rfl, rfl⟩
          walk_at "go"
          refine ⟨p, _, 4, rfl, t12.pool, by decide, by decide, fun w H4 _ _ t4 => ?_⟩
          have t14 := t12.turn sa t4
          walk_at "go"
          walk_at "br"
          · intro _
            walk_at "go"
            refine ⟨by show 2 ≤ sizeLine; decide, fun u nu => ?_⟩
            walk_at "go"
            refine ⟨by show 3 ≤ sizeLine; decide, fun u2 nu2 => ?_⟩
            have s2 := same_new (o := .tup [.str "set", .str x, .ref u]) nu2
            exact q _ (.set x (.var x)) _ _ ⟨hx, hx⟩ (one _ rfl) (.tup (.inl (.inl upd_same)) (.cons (.str _) (.cons (.str _) (.cons (.tup (.inl (.inl (s2 _ _ upd_same))) (.cons (.str _) (.cons (.str _) .nil))) .nil)))) ((t14.new nu).new nu2)
          · intro _
            walk_at "go"
            refine ⟨p, _, nl, pl, ns, ps, 4, rfl, t14.pool, t14.but _ _ na n2 hnl, t14.but _ _ pa p2 hpl, na, pa, hns, hps, rfl, by decide, fun ev e b8 H8 hine hve t8 => ?_⟩
            have t9 := t14.turn sa t8
            walk_at "go"
            refine ⟨by show 3 ≤ sizeLine; decide, fun u nu => ?_⟩
            exact q _ (.set x e) _ _ ⟨hx, hine⟩ (one _ rfl) (.tup (.inl (.inl upd_same)) (.cons (.str _) (.cons (.str _) (.cons (dp_same (same_new nu) _ _ hve) .nil)))) (t9.new nu)
        · intro _
          walk_at "go"
          exact ⟨_, rfl, t1⟩
      · intro _
        walk_at "go"
        exact ⟨_, rfl, t1⟩
    clear t1 e1
    rintro σ' H1 ⟨b1, rfl, t1⟩
    have e1 := t1.but _ _ na n2 hnl
    walk_at "go"
    refine go_cut (fun σ' H' => ∃ b', σ' = [some (.ref p.a), some (.ref nl), some (.ref pl), some (.int d), some (.ref st), some (.int k), none, none, none, none] ∧ T2 p st b' H H') ?_ ?_

    · walk_at "go"
      walk_at "br"
      · intro _
        walk_at "go"
        refine ⟨p, _, 3, rfl, t1.pool, by decide, by decide, fun w H4 _ _ t4 => ?_⟩
        have t14 := t1.turn sa t4
        walk_at "go"
        refine ⟨p, _, nl, pl, ns, ps, 4, rfl, t14.pool, t14.but _ _ na n2 hnl, t14.but _ _ pa p2 hpl, na, pa, hns, hps, rfl, by decide, fun ev e b8 H8 hine hve t8 => ?_⟩
        have t9 := t14.turn sa t8
        walk_at "go"
        refine ⟨by show 3 ≤ sizeLine; decide, fun u nu => ?_⟩
        exact q _ (.shw w e) _ _ hine (one _ rfl) (.tup (.inl (.inl upd_same)) (.cons (.str _) (.cons (.int _) (.cons (dp_same (same_new nu) _ _ hve) .nil)))) (t9.new nu)
      · intro _
        walk_at "go"
        exact ⟨_, rfl, t1⟩
    clear t1 e1
    rintro σ' H1 ⟨b1, rfl, t1⟩
    have e1 := t1.but _ _ na n2 hnl
    walk_at "go"
    refine go_cut (fun σ' H' => ∃ b', σ' = [some (.ref p.a), some (.ref nl), some (.ref pl), some (.int d), some (.ref st), some (.int k), none, none, none, none] ∧ T2 p st b' H H') ?_ ?_

    · walk_at "go"
      walk_at "br"
      · intro _
        walk_at "go"
        refine go_truL (.of e1) ?_
        walk_at "br"
        · intro h5
          have h6 : 0 < ns.length := by
            cases ns with
            | nil => simp at h5
            | cons _ _ => simp
          obtain ⟨i2, j2, e2⟩ := t1.two
          walk_at "go"
          walk_at "br"
          · intro _
            walk_at "go"
            have t3 : T2 p st b1 H (upd H1 st (.lst [.int i2, .int (j2 + 1)])) := t1.put sa sl
            have e3 : upd H1 st (.lst [.int i2, .int (j2 + 1)]) nl = some (.lst (ns.map V.str)) := by rw [upd_ne n2]; exact e1
            refine go_lenL (.of e3) ?_
            rw [List.length_map]
            walk_at "go"
            refine ⟨p, _, _, rfl, t3.pool, by omega, by omega, fun j H4 hj0 hj1 t4 => ?_⟩
            obtain ⟨x, hx, ex⟩ := strs_pick hj0 hj1
            have t14 := t3.turn sa t4
            walk_at "go"
            refine go_ixL (.of (t4.but _ _ na e3)) ex ?_
            walk_at "go"
            refine ⟨p, _, 64, rfl, t14.pool, by decide, by decide, fun w2 H5 _ _ t5 => ?_⟩
            walk_at "go"
            refine ⟨by show 3 ≤ sizeLine; decide, fun u nu => ?_⟩
            exact q _ (.drw x (1 + w2)) _ _ hx (one _ rfl) (.tup (.inl (.inl upd_same)) (.cons (.str _) (.cons (.str _) (.cons (.int _) .nil)))) ((t14.turn sa t5).new nu)
          · intro _
            walk_at "go"
            exact ⟨_, rfl, t1⟩
        · intro _
          walk_at "go"
          exact ⟨_, rfl, t1⟩
      · intro _
        walk_at "go"
        exact ⟨_, rfl, t1⟩
    clear t1 e1
    rintro σ' H1 ⟨b1, rfl, t1⟩
    walk_at "go"
    refine ⟨by show 2 ≤ sizeLine; decide, fun u nu => ?_⟩
    walk_at "go"
    have t2 := t1.new (o := .tup [.str "pay", .str "take"]) nu
    have ek : ∃ kk : Bool, atI [V.str "pay", .str "take"] (k % 2) = some (.str (payS kk)) := by
      rcases (show k % 2 = 0 ∨ k % 2 = 1 by omega) with h | h
      · rw [h]
        exact ⟨false, rfl⟩
      · rw [h]
        exact ⟨true, rfl⟩
    obtain ⟨kk, ek⟩ := ek
    refine go_ixT (.inl (.inl upd_same)) ek ?_
    generalize upd H1 u (.tup [.str "pay", .str "take"]) = H2 at *
    walk_at "go"

    refine ⟨p, _, nl, pl, ns, ps, 4, rfl, t2.pool, t2.but _ _ na n2 hnl, t2.but _ _ pa p2 hpl, na, pa, hns, hps, rfl, by decide, fun ev e b8 H8 hine hve t8 => ?_⟩
    have t9 := t2.turn sa t8

    walk_at "go"
    refine ⟨by show 2 ≤ sizeLine; decide, fun u3 nu3 => ?_⟩
    exact q _ (.pay kk e) _ _ hine (one _ rfl) (.tup (.inl (.inl upd_same)) (.cons (.str _) (.cons (dp_same (same_new nu3) _ _ hve) .nil))) (t9.new nu3)
end
end K24

namespace K24
open PySem PySem.Spec PyProof.Rows L2 Gx
section
variable {P : Program} {w : World} {K : PySem.W.Frag} {mg : Str → Option Value} {base : Heap} {A : Ad}
theorem S__law_fold_statement (T : Txt P K mg A) (n : Nat) (IHb : FnOk P w K mg base CX0 (2 * n + 12) A.f__law_fold_block A.d__law_fold_block ["_law_block_here", "_law_on"] (sp__law_fold_block K n)) : FnOk P w K mg base CX0 (2 * n + 12 + 1) A.f__law_fold_statement A.d__law_fold_statement ["_law_due", "_law_on"] (sp__law_fold_statement K (n + 1)) := by
  refine (T.F__law_fold_statement.ok (k := 2 * n + 12) sc__law_fold_statement (fun vs H Q E h => ?_) (fun cdv Ar outer s H vs Q E hr h => ?_))
  · obtain ⟨v, o, s, ns, ps, on, rfl, _⟩ := h
    rfl
  · obtain ⟨v, o, s, ns, ps, on, rfl, hv, hin, hc, h8, ho, hns, hps, q⟩ := h
    obtain ⟨ok, eo, _, eov⟩ := id ho
    refine ⟨_, (pss_cons (ps_if (PW.pt (pw_or (pt_cmpR op_eq (pe_ix ix_tup (pv 0) pe_int (fun _ _ => rfl)) pe_str (nomark _)) (pw_or1 (pt_cmpR op_eq (pe_ix ix_tup (pv 0) pe_int (fun _ _ => rfl)) pe_str (nomark _)))))
        (pss_one (ps_ret (pe_tup (pa_cons (pv 0) pa_nil))))
        pss_nil)
      (pss_cons (ps_if (pt_cmpR op_eq (pe_ix ix_tup (pv 0) pe_int (fun _ _ => rfl)) pe_str (nomark _))
        (pss_one (ps_ret (pe_call IHb (hr.mono (by omega)) rfl T.m__law_fold_block T.F__law_fold_block.kp T.b__law_fold_block .nil pass0 (pa_cons (pe_ix ix_tup (pv 0) (pe_op op_sub pe_int (pe_callTy k_int1 (by rfl) T.n_int (by decide +kernel) (pa_cons (pe_dget (hu_of hr) (pv 1) (pe_ix ix_tup (pv 0) pe_int (fun _ _ => rfl)) (fun _ _ => rfl)) pa_nil))) (fun _ _ => rfl)) (pa_cons (pv 1) pa_nil)))))
        pss_nil)
      (pss_cons (ps_if (pt_cmpR op_eq (pe_ix ix_tup (pv 0) pe_int (fun _ _ => rfl)) pe_str (nomark _))
        (pss_cons (ps_set (i := 2) sc__law_fold_statement.nd rfl (Or.inl rfl) (pe_call (R__law_fold T 4) (hr.mono (by omega)) rfl T.m__law_fold T.F__law_fold.kp T.b__law_fold .nil pass0 (pa_cons (pe_ix ix_tup (pv 0) pe_int (fun _ _ => rfl)) (pa_cons (pv 1) pa_nil))))
      (pss_cons (ps_set (i := 3) sc__law_fold_statement.nd rfl (Or.inl rfl) (pe_call IHb (hr.mono (by omega)) rfl T.m__law_fold_block T.F__law_fold_block.kp T.b__law_fold_block .nil pass0 (pa_cons (pe_ix ix_tup (pv 0) pe_int (fun _ _ => rfl)) (pa_cons (pv 1) pa_nil))))
      (pss_cons (ps_set (i := 4) sc__law_fold_statement.nd rfl (Or.inl rfl) (pe_call IHb (hr.mono (by omega)) rfl T.m__law_fold_block T.F__law_fold_block.kp T.b__law_fold_block .nil pass0 (pa_cons (pe_ix ix_tup (pv 0) pe_int (fun _ _ => rfl)) (pa_cons (pv 1) pa_nil))))
      (pss_cons (ps_if (PW.pt (pw_or (PW.pt (pw_and (pt_cmpR op_eq (pe_ix ix_tup (pv 2) pe_int (fun _ _ => rfl)) pe_str (nomark _)) (pw_and1 (pt_cmpR op_eq (pe_ix ix_tup (pv 2) pe_int (fun _ _ => rfl)) pe_int (nomark _))))) (pw_or1 (pt_cmpR (op_eqD hr.units) (pv 3) (pv 4) (nomark _)))))
        (pss_one (ps_ret (pv 4)))
        pss_nil)
      (pss_cons (ps_if (pt_cmpR op_eq (pe_ix ix_tup (pv 2) pe_int (fun _ _ => rfl)) pe_str (nomark _))
        (pss_one (ps_ret (pv 3)))
        pss_nil)
      (pss_one (ps_ret (pe_tup (pa_cons (pe_tup (pa_cons pe_str (pa_cons (pv 2) (pa_cons (pv 3) (pa_cons (pv 4) pa_nil))))) pa_nil)))))))))
        pss_nil)
      (pss_cons (ps_set (i := 5) sc__law_fold_statement.nd rfl (Or.inl rfl) (pe_call (R__law_fold T 4) (hr.mono (by omega)) rfl T.m__law_fold T.F__law_fold.kp T.b__law_fold .nil pass0 (pa_cons (pe_ix ix_tup (pv 0) (pe_op op_sub (pe_callB k_len (by rfl) T.n_len (by decide +kernel) (pa_cons (pv 0) pa_nil)) pe_int) (fun _ _ => rfl)) (pa_cons (pv 1) pa_nil))))
      (pss_cons (ps_if (pt_cmpR op_eq (pe_ix ix_tup (pv 0) pe_int (fun _ _ => rfl)) pe_str (nomark _))
        (pss_one (ps_ret (pe_tup (pa_cons (pe_tup (pa_cons pe_str (pa_cons (pe_ix ix_tup (pv 0) pe_int (fun _ _ => rfl)) (pa_cons (pv 5) pa_nil)))) pa_nil))))
        pss_nil)
      (pss_cons (ps_if (pt_cmpR op_eq (pe_ix ix_tup (pv 0) pe_int (fun _ _ => rfl)) pe_str (nomark _))
        (pss_cons (ps_if (pt_cmpR (op_eqD hr.units) (pv 5) (pe_tup (pa_cons pe_str (pa_cons (pe_ix ix_tup (pv 0) pe_int (fun _ _ => rfl)) pa_nil))) (nomark _))
        (pss_one (ps_ret (pe_tup pa_nil)))
        pss_nil)
      (pss_one (ps_ret (pe_tup (pa_cons (pe_tup (pa_cons pe_str (pa_cons (pe_ix ix_tup (pv 0) pe_int (fun _ _ => rfl)) (pa_cons (pv 5) pa_nil)))) pa_nil)))))
        pss_nil)
      (pss_cons (ps_if (pt_cmpR (op_eqD hr.units) (pv 5) (pe_tup (pa_cons pe_str (pa_cons pe_int pa_nil))) (nomark _))
        (pss_one (ps_ret (pe_tup pa_nil)))
        pss_nil)
      (pss_one (ps_ret (pe_tup (pa_cons (pe_tup (pa_cons (pe_ix ix_tup (pv 0) pe_int (fun _ _ => rfl)) (pa_cons (pv 5) pa_nil))) pa_nil))))))))))), ?_⟩
    try dsimp only [cxOf, Cx.nox, Cx.wish]
    cases s with
    | drw x i =>
      obtain ⟨a, xs, rfl, ha, hx⟩ := dp_tup hv
      obtain ⟨x1, x2, x3, rfl, h1, h2, h3⟩ := dp3 hx
      cases dpS h1
      cases dpS h2

      walk_at "go"
      refine ⟨by show 1 ≤ sizeLine; decide, fun u nu => ?_⟩
      exact q _ _ (same_new nu) (.tup (.inl (.inl upd_same)) (.cons (dp_same (same_new nu) _ _ hv) .nil))
    | mov m x b c =>
      obtain ⟨a, xs, rfl, ha, hx⟩ := dp_tup hv
      cases hx with
      | cons h1 hx =>
        cases dpS h1
        walk_at "go"
        refine ⟨by show 1 ≤ sizeLine; decide, fun u nu => ?_⟩
        exact q _ _ (same_new nu) (.tup (.inl (.inl upd_same)) (.cons (dp_same (same_new nu) _ _ hv) .nil))
    | shw i e =>
      obtain ⟨a, xs, rfl, ha, hx⟩ := dp_tup hv
      obtain ⟨x1, x2, x3, rfl, h1, h2, h3⟩ := dp3 hx
      cases dpS h1
      cases dpI h2

      walk_at "go"
      refine go_lenT ha ?_
      walk_at "go"
      refine ⟨x3, o, e, ns, ps, on, rfl, h3, hin, ho, by decide, hns, hps, fun v1 H1 s1 hv1 => ?_⟩
      have ha1 := same_sqT s1 ha

      walk_at "go"
      refine ⟨by show 3 ≤ sizeLine; decide, fun u2 nu2 => ?_⟩
      walk_at "go"
      refine ⟨by show 1 ≤ sizeLine; decide, fun u3 nu3 => ?_⟩
      have t2 := same_new (o := .tup [.str "show", .int i, v1]) nu2
      have t3 := same_new (o := .tup [.ref u2]) nu3
      exact q _ _ ((s1.trans t2).trans t3) (.tup (.inl (.inl upd_same)) (.cons (.tup (.inl (.inl (t3 _ _ upd_same))) (.cons (.str _) (.cons (.int _) (.cons (dp_same (t2.trans t3) _ _ hv1) .nil)))) .nil))
    | set x e =>
      obtain ⟨a, xs, rfl, ha, hx⟩ := dp_tup hv
      obtain ⟨x1, x2, x3, rfl, h1, h2, h3⟩ := dp3 hx
      cases dpS h1
      cases dpS h2

      walk_at "go"
      refine go_lenT ha ?_
      walk_at "go"
      refine ⟨x3, o, e, ns, ps, on, rfl, h3, hin.2, ho, by decide, hns, hps, fun v1 H1 s1 hv1 => ?_⟩
      have ha1 := same_sqT s1 ha

      have hshape := exD_shaped hns hps (foldE_in (on := on) 4 e hin.2) (by decide)
      have hvar := exD_shaped (ns := ns) (ps := ps) hns hps (d := 1) (e := .var x) hin.1 (by decide)
      walk_at "go"
      refine ⟨by show 2 ≤ sizeLine; decide, fun u nu => ?_⟩
      walk_at "go"
      refine go_eqX (dp_same (same_new nu) _ _ hv1) (b := .var x) (.tup (.inl (.inl upd_same)) (.cons (.str _) (.cons (.str _) .nil))) hshape hvar ?_
      have s2 := s1.trans (same_new (o := .tup [.str "variable", .str x]) nu)
      have hv2 := dp_same (same_new (o := .tup [.str "variable", .str x]) nu) _ _ hv1
      have ha2 := same_sqT s2 ha
      generalize upd H1 u (.tup [.str "variable", .str x]) = H2 at *
      walk_at "go"
      walk_at "br"
      · intro h
        walk_at "go"
        refine ⟨by show 0 ≤ sizeLine; decide, fun u2 nu2 => ?_⟩
        refine q _ _ (s2.trans (same_new nu2)) ?_
        rw [show foldS on (.set x e) = [] from if_pos h]
        exact .tup (.inl (.inl upd_same)) .nil
      · intro h
        walk_at "go"
        refine ⟨by show 3 ≤ sizeLine; decide, fun u2 nu2 => ?_⟩
        walk_at "go"
        refine ⟨by show 1 ≤ sizeLine; decide, fun u3 nu3 => ?_⟩
        have t2 := same_new (o := .tup [.str "set", .str x, v1]) nu2
        have t3 := same_new (o := .tup [.ref u2]) nu3
        refine q _ _ ((s2.trans t2).trans t3) ?_
        rw [show foldS on (.set x e) = [.set x (foldE on e)] from if_neg (by rw [h]; exact Bool.false_ne_true)]
        exact .tup (.inl (.inl upd_same)) (.cons (.tup (.inl (.inl (t3 _ _ upd_same))) (.cons (.str _) (.cons (.str _) (.cons (dp_same (t2.trans t3) _ _ hv2) .nil)))) .nil)
    | pay k e =>
      cases k with
      | false =>
        obtain ⟨a, xs, rfl, ha, hx⟩ := dp_tup hv
        obtain ⟨x1, x2, rfl, h1, h2⟩ := dp2 hx
        cases dpS h1

        walk_at "go"
        refine go_lenT ha ?_
        walk_at "go"
        refine ⟨x2, o, e, ns, ps, on, rfl, h2, hin, ho, by decide, hns, hps, fun v1 H1 s1 hv1 => ?_⟩
        have ha1 := same_sqT s1 ha

        have hshape := exD_shaped hns hps (foldE_in (on := on) 4 e hin) (by decide)
        walk_at "go"

        refine ⟨by show 2 ≤ sizeLine; decide, fun u nu => ?_⟩
        walk_at "go"
        refine go_eqX (dp_same (same_new nu) _ _ hv1) (b := .num 0) (.tup (.inl (.inl upd_same)) (.cons (.str _) (.cons (.int _) .nil))) hshape shaped_num ?_
        have s2 := s1.trans (same_new (o := .tup [.str "number", .int 0]) nu)
        have hv2 := dp_same (same_new (o := .tup [.str "number", .int 0]) nu) _ _ hv1
        have ha2 := same_sqT s2 ha
        generalize upd H1 u (.tup [.str "number", .int 0]) = H2 at *

        walk_at "go"
        walk_at "br"
        · intro h
          walk_at "go"
          refine ⟨by show 0 ≤ sizeLine; decide, fun u2 nu2 => ?_⟩
          refine q _ _ (s2.trans (same_new nu2)) ?_
          rw [show foldS on (.pay false e) = [] from if_pos h]
          exact .tup (.inl (.inl upd_same)) .nil
        · intro h
          walk_at "go"
          refine ⟨by show 2 ≤ sizeLine; decide, fun u2 nu2 => ?_⟩
          walk_at "go"
          refine ⟨by show 1 ≤ sizeLine; decide, fun u3 nu3 => ?_⟩
          have t2 := same_new (o := .tup [.str "pay", v1]) nu2
          have t3 := same_new (o := .tup [.ref u2]) nu3
          refine q _ _ ((s2.trans t2).trans t3) ?_
          rw [show foldS on (.pay false e) = [.pay false (foldE on e)] from if_neg (by rw [h]; exact Bool.false_ne_true)]
          exact .tup (.inl (.inl upd_same)) (.cons (.tup (.inl (.inl (t3 _ _ upd_same))) (.cons (.str _) (.cons (dp_same (t2.trans t3) _ _ hv2) .nil))) .nil)
      | true =>
        obtain ⟨a, xs, rfl, ha, hx⟩ := dp_tup hv
        obtain ⟨x1, x2, rfl, h1, h2⟩ := dp2 hx
        cases dpS h1

        walk_at "go"
        refine go_lenT ha ?_
        walk_at "go"
        refine ⟨x2, o, e, ns, ps, on, rfl, h2, hin, ho, by decide, hns, hps, fun v1 H1 s1 hv1 => ?_⟩
        have ha1 := same_sqT s1 ha

        have hshape := exD_shaped hns hps (foldE_in (on := on) 4 e hin) (by decide)
        walk_at "go"

        refine ⟨by show 2 ≤ sizeLine; decide, fun u nu => ?_⟩
        walk_at "go"
        refine go_eqX (dp_same (same_new nu) _ _ hv1) (b := .num 0) (.tup (.inl (.inl upd_same)) (.cons (.str _) (.cons (.int _) .nil))) hshape shaped_num ?_
        have s2 := s1.trans (same_new (o := .tup [.str "number", .int 0]) nu)
        have hv2 := dp_same (same_new (o := .tup [.str "number", .int 0]) nu) _ _ hv1
        have ha2 := same_sqT s2 ha
        generalize upd H1 u (.tup [.str "number", .int 0]) = H2 at *

        walk_at "go"
        walk_at "br"
        · intro h
          walk_at "go"
          refine ⟨by show 0 ≤ sizeLine; decide, fun u2 nu2 => ?_⟩
          refine q _ _ (s2.trans (same_new nu2)) ?_
          rw [show foldS on (.pay true e) = [] from if_pos h]
          exact .tup (.inl (.inl upd_same)) .nil
        · intro h
          walk_at "go"
          refine ⟨by show 2 ≤ sizeLine; decide, fun u2 nu2 => ?_⟩
          walk_at "go"
          refine ⟨by show 1 ≤ sizeLine; decide, fun u3 nu3 => ?_⟩
          have t2 := same_new (o := .tup [.str "take", v1]) nu2
          have t3 := same_new (o := .tup [.ref u2]) nu3
          refine q _ _ ((s2.trans t2).trans t3) ?_
          rw [show foldS on (.pay true e) = [.pay true (foldE on e)] from if_neg (by rw [h]; exact Bool.false_ne_true)]
          exact .tup (.inl (.inl upd_same)) (.cons (.tup (.inl (.inl (t3 _ _ upd_same))) (.cons (.str _) (.cons (dp_same (t2.trans t3) _ _ hv2) .nil))) .nil)
    | whn x a1 b1 =>
      obtain ⟨a, xs, rfl, ha, hx⟩ := dp_tup hv
      obtain ⟨x1, x2, x3, x4, rfl, h1, h2, h3, h4⟩ := dp4 hx
      cases dpS h1
      cases dpS h2

      have hc' : max 1 (max (cnts a1) (cnts b1)) ≤ 20000 := hc
      have q2 : ∀ v' H', Same H H' → Dp K H' v' (blD (if on x = true then foldB on a1 else foldB on b1)) → Q v' H' := q
      walk_at "go"
      refine go_dgetS eo (eov x hin.2.1) ?_
      walk_at "go"

      cases hon : on x with
      | true =>
        rw [hon] at q2
        refine go_ixT ha (k := 2) (v := x3) rfl ?_
        walk_at "go"
        exact ⟨x3, o, a1, ns, ps, on, rfl, h3, hin.2.2.1, by omega, hin.1, by omega, ho, hns, hps, q2⟩
      | false =>
        rw [hon] at q2
        refine go_ixT ha (k := 3) (v := x4) rfl ?_
        walk_at "go"
        exact ⟨x4, o, b1, ns, ps, on, rfl, h4, hin.2.2.2, by omega, hin.1, by omega, ho, hns, hps, q2⟩
    | iff t a1 b1 =>
      obtain ⟨a, xs, rfl, ha, hx⟩ := dp_tup hv
      obtain ⟨x1, x2, x3, x4, rfl, h1, h2, h3, h4⟩ := dp4 hx
      cases dpS h1

      have hc' : max 1 (max (cnts a1) (cnts b1)) ≤ 20000 := hc
      walk_at "go"
      refine ⟨x2, o, t, ns, ps, on, rfl, h2, hin.2.1, ho, by decide, hns, hps, fun v1 H1 s1 hv1 => ?_⟩
      have ha1 := same_sqT s1 ha
      walk_at "go"
      refine ⟨x3, o, a1, ns, ps, on, rfl, dp_same s1 _ _ h3, hin.2.2.1, by omega, hin.1, by omega, ho.same s1, hns, hps, fun v2 H2 s2 hv2 => ?_⟩
      have ha2 := same_sqT s2 ha1
      have s12 := s1.trans s2
      walk_at "go"
      refine ⟨x4, o, b1, ns, ps, on, rfl, dp_same s12 _ _ h4, hin.2.2.2, by omega, hin.1, by omega, ho.same s12, hns, hps, fun v3 H3 s3 hv3 => ?_⟩
      have s123 := s12.trans s3
      have hA := dp_same s3 _ _ hv2
      have hT := dp_same (s2.trans s3) _ _ hv1
      have hinT := foldE_in (on := on) 4 t hin.2.1
      have shT := exD_shaped hns hps hinT (by decide)
      have shA := bl_shaped hns hps (foldB_in (on := on) hin.2.2.1) (by omega)
      have shB := bl_shaped hns hps (foldB_in (on := on) hin.2.2.2) (by omega)
      obtain ⟨p1, ts, rfl, hp1, hts⟩ := ex_tup hT
      have q2 : ∀ v' H', Same H H' → Dp K H' v' (blD (branchS (foldE on t) (foldB on a1) (foldB on b1))) → Q v' H' := q
      generalize foldB on a1 = A1 at *
      generalize foldB on b1 = B1 at *
      generalize foldE on t = T1 at *
      have fin : eqB A1 B1 = false → isNum T1 = false → ∀ u2 u3, H3 u2 = none → upd H3 u2 (.tup [.str "if", .ref p1, v2, v3]) u3 = none → Q (.ref u3) (upd (upd H3 u2 (.tup [.str "if", .ref p1, v2, v3])) u3 (.tup [.ref u2])) := fun e1 e2 u2 u3 nu2 nu3 => by
        have t2 := same_new (o := .tup [.str "if", .ref p1, v2, v3]) nu2
        have t3 := same_new (o := .tup [.ref u2]) nu3
        refine q2 _ _ ((s123.trans t2).trans t3) ?_
        have e : branchS T1 A1 B1 = [.iff T1 A1 B1] := by
          unfold branchS
          rw [e1, e2]
          rfl
        rw [e]
        exact .tup (.inl (.inl upd_same)) (.cons (.tup (.inl (.inl (t3 _ _ upd_same))) (.cons (.str _) (.cons (dp_same (t2.trans t3) _ _ hT) (.cons (dp_same (t2.trans t3) _ _ hA) (.cons (dp_same (t2.trans t3) _ _ hv3) .nil))))) .nil)
      walk_at "go"
      rw [head_num hinT]
      walk_at "br"

      · intro h
        obtain rfl := rest_num h hts
        have ez : eqX T1 (.num 0) = decide (numVal T1 = 0) := by
          cases T1 with
          | num n => exact eqX_nums
          | _ => exact absurd h Bool.false_ne_true
        walk_at "go"
        walk_at "br"
        · intro hz
          walk_at "go"
          refine q2 _ _ s123 ?_
          rw [show branchS T1 A1 B1 = B1 by unfold branchS; rw [h, ez, decide_eq_true hz]; rfl]
          exact hv3
        · intro hz
          walk_at "go"
          refine ⟨_, _, hA, hv3, shA, shB, ?_⟩
          walk_at "go"
          have eA : branchS T1 A1 B1 = A1 := by unfold branchS; rw [h, ez, decide_eq_false hz]; rfl
          walk_at "br"
          · intro hz2
            walk_at "go"
            refine q2 _ _ s123 ?_
            rw [eA, eqB_same hz2]
            exact hv3
          · intro hz2
            walk_at "go"
            rw [head_num hinT]
            walk_at "br"
            · intro _
              walk_at "go"
              refine q2 _ _ s123 ?_
              rw [eA]
              exact hA
            · intro h2
              exact absurd (h.symm.trans h2) (by decide)
      · intro h
        walk_at "go"
        refine ⟨_, _, hA, hv3, shA, shB, ?_⟩
        walk_at "go"
        walk_at "br"
        · intro hz
          walk_at "go"
          refine q2 _ _ s123 ?_
          rw [show branchS T1 A1 B1 = A1 by unfold branchS; rw [h, show eqB A1 B1 = true from hz]; rfl, eqB_same hz]
          exact hv3
        · intro hz
          walk_at "go"
          rw [head_num hinT]
          walk_at "br"
          · intro h2
            exact absurd (h.symm.trans h2) (by decide)
          intro _
          walk_at "go"
          refine ⟨by show 4 ≤ sizeLine; decide, fun u2 nu2 => ?_⟩
          walk_at "go"
          refine ⟨by show 1 ≤ sizeLine; decide, fun u3 nu3 => ?_⟩
          exact fin hz h u2 u3 nu2 nu3
end
end K24

namespace K24
open PySem PySem.Spec PyProof.Rows L2 Gx
section
variable {P : Program} {w : World} {K : PySem.W.Frag} {mg : Str → Option Value} {base : Heap} {A : Ad}
theorem S__law_block (T : Txt P K mg A) (n : Nat) (IHs : FnOk P w K mg base CX0 (2 * n + 13) A.f__law_statement A.d__law_statement ["_law_pool_here", "_law_names_here", "_law_picks", "_law_deep", "_law_state"] (sp__law_statement K (n + 1))) : FnOk P w K mg base CX0 (2 * n + 13 + 1) A.f__law_block A.d__law_block ["_law_pool_here", "_law_names_here", "_law_picks", "_law_deep", "_law_state"] (sp__law_block K (n + 1)) := by
  refine (T.F__law_block.ok (k := 2 * n + 13) sc__law_block (fun vs H Q E h => ?_) (fun cdv Ar outer s H vs Q E hr h => ?_))
  · obtain ⟨p, b, nl, pl, st, ns, ps, d, rfl, _⟩ := h
    rfl
  · obtain ⟨p, b, nl, pl, st, ns, ps, d, rfl, hp, hnl, hpl, hne, h2, hns, hps, hd, hd0, q⟩ := h
    obtain ⟨na, pa, n2, p2, sa, sl⟩ := id hne
    refine ⟨_, (pss_cons (ps_set (i := 5) sc__law_block.nd rfl (Or.inl rfl) (pe_lst pa_nil))
      (pss_cons (ps_for PassesOwn.never rfl (pi_range1 rfl T.n_range (pa_cons (pe_call (G__law_few T) (hr.mono (by omega)) rfl T.m__law_few T.F__law_few.kp T.b__law_few .nil pass0 (pa_cons (pv 0) (pa_cons pe_int pa_nil))) pa_nil)) (pg_name (i := 6) sc__law_block.nd rfl (Or.inl rfl))
        (pss_one (ps_if (pt_val (pe_call (G__law_spend T) (hr.mono (by omega)) rfl T.m__law_spend T.F__law_spend.kp T.b__law_spend .nil pass0 (pa_cons (pv 0) pa_nil)))
        (pss_one (ps_expr (pe_bm PySem.F.plainAttrs_list PySem.F.slot_list_append PySem.F.type_list_append mt_append (pv 5) (pa_cons (pe_call IHs (hr.mono (by omega)) rfl T.m__law_statement T.F__law_statement.kp T.b__law_statement .nil pass0 (pa_cons (pv 0) (pa_cons (pv 1) (pa_cons (pv 2) (pa_cons (pv 3) (pa_cons (pv 4) pa_nil)))))) pa_nil))))
        pss_nil)))
      (pss_one (ps_ret (pe_callTy k_tuple_of (by rfl) T.n_tuple (by decide +kernel) (pa_cons (pv 5) pa_nil)))))), ?_⟩
    try dsimp only [cxOf, Cx.nox, Cx.wish]

    walk_at "go"
    refine ⟨by show 0 ≤ sizeLine; decide, fun l nl0 => ?_⟩
    walk_at "go"
    have la := hp.nea nl0
    have ll := hp.nel nl0
    obtain ⟨i0, j0, e0⟩ := id h2
    have ls : l ≠ st := fun z => by
      rw [z, e0] at nl0
      cases nl0
    refine ⟨p, b, 5, rfl, hp.new nl0, by decide, by decide, fun k H1 hk0 hk1 t1 => ?_⟩
    walk_at "go"
    have tb : T2 p st b H (upd H l (.lst [])) := (T2.refl hp h2).new nl0
    have hW : 0 < 5 ^ (n + 1) := Nat.pow_pos (by decide)
    generalize hWe : 5 ^ (n + 1) = W at *
    refine foR1 (fun i σ' H' => ∃ (b' : Int) (xs : List V) (ss : List Stm) (v : Option V), σ' = [some (.ref p.a), some (.ref nl), some (.ref pl), some (.int d), some (.ref st), some (.ref l), v] ∧ H' l = some (.lst xs) ∧ DpAll K H' xs (stDs ss) ∧ (∀ s ∈ ss, StIn ns ps (n + 1) s) ∧ 5 * cnts ss ≤ i * W ∧ ss.length ≤ i ∧ T2 p st b' H H') (by omega)
      ⟨b, [], [], _, rfl, t1.but _ _ la upd_same, .nil, (fun _ h => nomatch h), Nat.zero_le _, Nat.le_refl _, tb.turn sa t1⟩ ?_ ?_
    · rintro i σ' H2 hi ⟨b', xs, ss, v, rfl, el, hx, hin, hc, hl, t2⟩
      have hlx : xs.length = ss.length := by rw [dpAll_len hx, stDs_len]
      have step : (i + 1) * W = i * W + W := Nat.succ_mul i W
      walk_at "go"
      refine ⟨p, b', rfl, t2.pool, fun r H3 t3 => ?_⟩
      have t23 := t2.turn sa t3
      have el3 := t3.but _ _ la el
      obtain ⟨zs, ez⟩ := t2.pool.there
      have hx3 := dpAll_but ez t3.but _ _ (plains_noL _ (stDs_plain ss)) hx
      walk_at "go"
      walk_at "br"
      · intro _
        walk_at "go"
        refine ⟨.inl ⟨rfl, _, .inl (.inl el3)⟩, ?_⟩
        walk_at "go"
        refine ⟨p, _, nl, pl, st, ns, ps, d, rfl, t23.pool, t23.but _ _ na n2 hnl, t23.but _ _ pa p2 hpl, hne, t23.two, hns, hps, hd, hd0, fun v s b4 H4 hin4 hc4 hv4 t4 => ?_⟩
        have el4 := t4.but _ _ la ls el3
        have hx4 := t4.dpAll t23.pool t23.two (plains_noL _ (stDs_plain ss)) hx3
        walk_at "go"
        refine go_append el4 (szlt (by omega)) ?_
        walk_at "go"
        have e5 : stDs (ss ++ [s]) = stDs ss ++ [stD s] := stDs_cat ss [s]
        have all5 : DpAll K H4 (xs ++ [v]) (stDs (ss ++ [s])) := by
          rw [e5]
          exact dpAll_cat hx4 (.cons hv4 .nil)
        refine ⟨b4, xs ++ [v], ss ++ [s], _, rfl, upd_same, dpAll_but el4 But.one _ _ (plains_noL _ (stDs_plain _)) all5, fun r hr => ?_, ?_, by rw [List.length_append, List.length_singleton]; omega, ?_⟩
        · rcases List.mem_append.mp hr with hr | hr
          · exact hin r hr
          · rw [List.mem_singleton.mp hr]
            exact hin4
        · rw [cnts_cat, step]
          have e6 : cnts [s] = cnt s := Nat.add_zero _
          rw [e6]
          have hc4' : 5 * cnt s ≤ W := by rw [← hWe]; exact hc4
          omega
        · exact T2.mut hp h2 nl0 (t23.trans t4)
      · intro _
        walk_at "go"
        exact ⟨_, xs, ss, _, rfl, el3, hx3, hin, by omega, by omega, t23⟩
    · rintro σ' H2 ⟨b', xs, ss, v, rfl, el, hx, hin, hc, hl, t2⟩
      walk_at "go"
      refine go_tupOfL (.of el) fun u nu => ?_
      have k5 : k.toNat * W ≤ 5 * W := Nat.mul_le_mul_right _ (by omega)
      exact q _ ss _ _ hin (by omega) (.tup (.inl (.inl upd_same)) (dpAll_same (same_new nu) _ _ hx)) (t2.new nu)
theorem Z__law_statement {n : Nat} {vs : List V} {H : Hp} {Q : VK} {E : XK} (hn : n = 0) (h : sp__law_statement K n vs H Q E) : False := by
  obtain ⟨p, b, nl, pl, st, ns, ps, d, rfl, _, _, _, _, _, _, _, hd, h0, _⟩ := h
  subst hn
  exact absurd hd (by omega)
theorem Z__law_block {n : Nat} {vs : List V} {H : Hp} {Q : VK} {E : XK} (hn : n = 0) (h : sp__law_block K n vs H Q E) : False := by
  obtain ⟨p, b, nl, pl, st, ns, ps, d, rfl, _, _, _, _, _, _, _, hd, h0, _⟩ := h
  subst hn
  exact absurd hd (by omega)
theorem R2__law_block (T : Txt P K mg A) : ∀ n : Nat, (FnOk P w K mg base CX0 (2 * n + 12) A.f__law_block A.d__law_block ["_law_pool_here", "_law_names_here", "_law_picks", "_law_deep", "_law_state"] (sp__law_block K n)) ∧ (FnOk P w K mg base CX0 (2 * n + 11) A.f__law_statement A.d__law_statement ["_law_pool_here", "_law_names_here", "_law_picks", "_law_deep", "_law_state"] (sp__law_statement K n))
  | 0 => ⟨⟨fun vs H Q E h => (Z__law_block rfl h).elim, fun _ _ _ _ _ _ _ _ _ _ _ _ _ h => (Z__law_block rfl h).elim⟩, ⟨fun vs H Q E h => (Z__law_statement rfl h).elim, fun _ _ _ _ _ _ _ _ _ _ _ _ _ h => (Z__law_statement rfl h).elim⟩⟩
  | n + 1 => by
    obtain ⟨hb, hs⟩ := R2__law_block T n
    have h2 := S__law_statement T n hb
    have h3 := S__law_block T n h2
    exact ⟨h3, h2⟩
theorem R__law_block (T : Txt P K mg A) (n : Nat) : FnOk P w K mg base CX0 (2 * n + 12) A.f__law_block A.d__law_block ["_law_pool_here", "_law_names_here", "_law_picks", "_law_deep", "_law_state"] (sp__law_block K n) := (R2__law_block T n).1
end
end K24

namespace K24
open PySem PySem.Spec PyProof.Rows L2 Gx
section
variable {P : Program} {w : World} {K : PySem.W.Frag} {mg : Str → Option Value} {base : Heap} {A : Ad}
theorem S__law_fold_block (T : Txt P K mg A) (n : Nat) (IHs : FnOk P w K mg base CX0 (2 * n + 13) A.f__law_fold_statement A.d__law_fold_statement ["_law_due", "_law_on"] (sp__law_fold_statement K (n + 1))) : FnOk P w K mg base CX0 (2 * n + 13 + 1) A.f__law_fold_block A.d__law_fold_block ["_law_block_here", "_law_on"] (sp__law_fold_block K (n + 1)) := by
  refine (T.F__law_fold_block.ok (k := 2 * n + 13) sc__law_fold_block (fun vs H Q E h => ?_) (fun cdv Ar outer s H vs Q E hr h => ?_))
  · obtain ⟨v, o, ss, ns, ps, on, rfl, _⟩ := h
    rfl
  · obtain ⟨v, o, ss, ns, ps, on, rfl, hv, hin, hc, h0, h8, ho, hns, hps, q⟩ := h
    obtain ⟨a, xs, rfl, ha, hx⟩ := dp_tup hv
    have hlen : xs.length = ss.length := by rw [dpAll_len hx, stDs_len]
    refine ⟨_, (pss_cons (ps_set (i := 2) sc__law_fold_block.nd rfl (Or.inl rfl) (pe_tup pa_nil))
      (pss_cons (ps_for PassesOwn.never rfl (pi_tup (pv 0)) (pg_name (i := 3) sc__law_fold_block.nd rfl (Or.inl rfl))
        (pss_one (ps_set (i := 2) sc__law_fold_block.nd rfl (Or.inl rfl) (pe_op op_catA (pv 2) (pe_call IHs (hr.mono (by omega)) rfl T.m__law_fold_statement T.F__law_fold_statement.kp T.b__law_fold_statement .nil pass0 (pa_cons (pv 3) (pa_cons (pv 1) pa_nil)))))))
      (pss_one (ps_ret (pv 2))))), ?_⟩
    try dsimp only [cxOf, Cx.nox, Cx.wish]
    walk_at "go"

    refine ⟨by show 0 ≤ sizeLine; decide, fun l nl => ?_⟩
    walk_at "go"
    refine foT xs (fun i σ' H' => ∃ (f : Addr) (ys : List V) (v1 : Option V), σ' = [some (.ref a), some (.ref o), some (.ref f), v1] ∧ SqT K H' f ys ∧ DpAll K H' ys (stDs (foldB on (ss.take i))) ∧ Same H H') ⟨l, [], _, rfl, .inl (.inl upd_same), .nil, same_new nl⟩ ?_ ?_ ?_
    · rintro i σ' H' _ ⟨f, ys, v1, rfl, _, _, s⟩
      exact same_sqT s ha
    · rintro i x σ' H' hxi ⟨f, ys, v1, rfl, e1, hy, s⟩
      have hi := (List.getElem?_eq_some_iff.mp hxi).1
      have es : ss[i]? = some ss[i] := List.getElem?_eq_getElem (by omega)
      obtain ⟨x', ex, hd⟩ := dpAll_get hx (stDs_at es)
      rw [hxi] at ex
      cases ex
      have hm : ss[i] ∈ ss := List.getElem_mem (by omega)
      have hcm := cnt_mem hm
      walk_at "go"
      refine ⟨x, o, ss[i], ns, ps, on, rfl, dp_same s _ _ hd, hin _ hm, by omega, h8, ho.same s, hns, hps, fun v' H1 s1 hv' => ?_⟩
      obtain ⟨b, zs, rfl, hb, hz⟩ := dp_tup hv'
      have e2 := same_sqT s1 e1
      have l1 : ys.length ≤ 20000 := by
        rw [dpAll_len hy, stDs_len]
        have k1 := len_cnts (foldB on (ss.take i))
        have k2 := foldB_cnt (on := on) (ss.take i)
        have k3 : cnts (ss.take i) ≤ cnts ss := by
          have := cnts_cat (ss.take i) (ss.drop i)
          rw [List.take_append_drop] at this
          omega
        omega
      have l2 : zs.length ≤ 20000 := by
        rw [dpAll_len hz, stDs_len]
        have k1 := len_cnts (foldS on ss[i])
        have k2 := foldS_cnt (on := on) ss[i]
        omega
      walk_at "go"
      refine go_catAny e2 hb (by omega) fun u H2 s2 e3 => ?_
      walk_at "go"
      refine ⟨u, ys ++ zs, _, rfl, e3, ?_, (s.trans s1).trans s2⟩
      rw [take_snoc es, foldB_cat, foldB_one, stDs_cat]
      exact dpAll_same s2 _ _ (dpAll_cat (dpAll_same s1 _ _ hy) hz)
    · rintro σ' H' ⟨f, ys, v1, rfl, e1, hy, s⟩
      rw [hlen, List.take_length] at hy
      walk_at "go"
      exact q _ _ s (.tup e1 hy)
theorem Z__law_fold_statement {n : Nat} {vs : List V} {H : Hp} {Q : VK} {E : XK} (hn : n = 0) (h : sp__law_fold_statement K n vs H Q E) : False := by
  obtain ⟨v, o, s, ns, ps, on, rfl, _, h0, _⟩ := h
  subst hn
  exact h0.elim
theorem Z__law_fold_block {n : Nat} {vs : List V} {H : Hp} {Q : VK} {E : XK} (hn : n = 0) (h : sp__law_fold_block K n vs H Q E) : False := by
  obtain ⟨v, o, ss, ns, ps, on, rfl, _, _, _, h0, _⟩ := h
  exact absurd h0 (by omega)
theorem R2__law_fold_block (T : Txt P K mg A) : ∀ n : Nat, (FnOk P w K mg base CX0 (2 * n + 12) A.f__law_fold_block A.d__law_fold_block ["_law_block_here", "_law_on"] (sp__law_fold_block K n)) ∧ (FnOk P w K mg base CX0 (2 * n + 11) A.f__law_fold_statement A.d__law_fold_statement ["_law_due", "_law_on"] (sp__law_fold_statement K n))
  | 0 => ⟨⟨fun vs H Q E h => (Z__law_fold_block rfl h).elim, fun _ _ _ _ _ _ _ _ _ _ _ _ _ h => (Z__law_fold_block rfl h).elim⟩, ⟨fun vs H Q E h => (Z__law_fold_statement rfl h).elim, fun _ _ _ _ _ _ _ _ _ _ _ _ _ h => (Z__law_fold_statement rfl h).elim⟩⟩
  | n + 1 => by
    obtain ⟨hb, hs⟩ := R2__law_fold_block T n
    have h2 := S__law_fold_statement T n hb
    have h3 := S__law_fold_block T n h2
    exact ⟨h3, h2⟩
theorem R__law_fold_block (T : Txt P K mg A) (n : Nat) : FnOk P w K mg base CX0 (2 * n + 12) A.f__law_fold_block A.d__law_fold_block ["_law_block_here", "_law_on"] (sp__law_fold_block K n) := (R2__law_fold_block T n).1
end
end K24

namespace K24
open PySem PySem.Spec PyProof.Rows L2 Gx
section
variable {P : Program} {w : World} {K : PySem.W.Frag} {mg : Str → Option Value} {base : Heap} {A : Ad}
theorem S_fold_branch (T : Txt P K mg A) (n : Nat) (IHb : FnOk P w K mg base CX0 (3 * n + 13) A.f_fold_block A.d_fold_block ["block", "on"] (sp_fold_block K n)) : FnOk P w K mg base CX0 (3 * n + 13 + 1) A.f_fold_branch A.d_fold_branch ["statement", "on"] (sp_fold_branch K (n + 1)) := by
  refine (T.F_fold_branch.ok (k := 3 * n + 13) sc_fold_branch (fun vs H Q E h => ?_) (fun cdv Ar outer s H vs Q E hr h => ?_))
  · obtain ⟨v, o, t, a, b, ns, ps, on, rfl, _⟩ := h
    rfl
  · obtain ⟨v, o, t, a1, b1, ns, ps, on, rfl, hv, hin, hc, h8, ho, hns, hps, q⟩ := h
    refine ⟨_, (pss_cons (ps_set (i := 2) sc_fold_branch.nd rfl (Or.inl rfl) (pe_call (R_fold_expression T 4) (hr.mono (by omega)) rfl T.m_fold_expression T.F_fold_expression.kp T.b_fold_expression .nil pass0 (pa_cons (pe_ix ix_tup (pv 0) pe_int (fun _ _ => rfl)) (pa_cons (pv 1) pa_nil))))
      (pss_cons (ps_set (i := 3) sc_fold_branch.nd rfl (Or.inl rfl) (pe_call IHb (hr.mono (by omega)) rfl T.m_fold_block T.F_fold_block.kp T.b_fold_block .nil pass0 (pa_cons (pe_ix ix_tup (pv 0) pe_int (fun _ _ => rfl)) (pa_cons (pv 1) pa_nil))))
      (pss_cons (ps_set (i := 4) sc_fold_branch.nd rfl (Or.inl rfl) (pe_call IHb (hr.mono (by omega)) rfl T.m_fold_block T.F_fold_block.kp T.b_fold_block .nil pass0 (pa_cons (pe_ix ix_tup (pv 0) pe_int (fun _ _ => rfl)) (pa_cons (pv 1) pa_nil))))
      (pss_cons (ps_if (pt_cmpR op_eq (pe_ix ix_tup (pv 2) pe_int (fun _ _ => rfl)) pe_str (nomark _))
        (pss_one (ps_ret (pe_ifExp (pt_cmpR (op_eqD hr.units) (pv 2) (pe_glob (v := .ref A.k_ZERO) rfl T.m_ZERO rfl) (nomark _)) (pv 4) (pv 3))))
        pss_nil)
      (pss_cons (ps_if (pt_cmpR (op_eqD hr.units) (pv 3) (pv 4) (nomark _))
        (pss_one (ps_ret (pv 3)))
        pss_nil)
      (pss_one (ps_ret (pe_tup (pa_cons (pe_tup (pa_cons pe_str (pa_cons (pv 2) (pa_cons (pv 3) (pa_cons (pv 4) pa_nil))))) pa_nil))))))))), ?_⟩
    try dsimp only [cxOf, Cx.nox, Cx.wish]
    obtain ⟨a, xs, rfl, ha, hx⟩ := dp_tup hv
    obtain ⟨x1, x2, x3, x4, rfl, h1, h2, h3, h4⟩ := dp4 hx
    cases dpS h1

    have hc' : max 1 (max (cnts a1) (cnts b1)) ≤ 20000 := hc
    walk_at "go"
    refine ⟨x2, o, t, ns, ps, on, rfl, h2, hin.2.1, ho, by decide, hns, hps, fun v1 H1 s1 hv1 => ?_⟩
    have ha1 := same_sqT s1 ha
    walk_at "go"
    refine ⟨x3, o, a1, ns, ps, on, rfl, dp_same s1 _ _ h3, hin.2.2.1, by omega, hin.1, by omega, ho.same s1, hns, hps, fun v2 H2 s2 hv2 => ?_⟩
    have ha2 := same_sqT s2 ha1
    have s12 := s1.trans s2
    walk_at "go"
    refine ⟨x4, o, b1, ns, ps, on, rfl, dp_same s12 _ _ h4, hin.2.2.2, by omega, hin.1, by omega, ho.same s12, hns, hps, fun v3 H3 s3 hv3 => ?_⟩
    have s123 := s12.trans s3
    have hA := dp_same s3 _ _ hv2
    have hT := dp_same (s2.trans s3) _ _ hv1
    have hinT := foldE_in (on := on) 4 t hin.2.1
    have shT := exD_shaped hns hps hinT (by decide)
    have shA := bl_shaped hns hps (foldB_in (on := on) hin.2.2.1) (by omega)
    have shB := bl_shaped hns hps (foldB_in (on := on) hin.2.2.2) (by omega)
    obtain ⟨p1, ts, rfl, hp1, hts⟩ := ex_tup hT
    have q2 : ∀ v' H', Same H H' → Dp K H' v' (blD (branchS (foldE on t) (foldB on a1) (foldB on b1))) → Q v' H' := q
    generalize foldB on a1 = A1 at *
    generalize foldB on b1 = B1 at *
    generalize foldE on t = T1 at *
    have fin : eqB A1 B1 = false → isNum T1 = false → ∀ u2 u3, H3 u2 = none → upd H3 u2 (.tup [.str "if", .ref p1, v2, v3]) u3 = none → Q (.ref u3) (upd (upd H3 u2 (.tup [.str "if", .ref p1, v2, v3])) u3 (.tup [.ref u2])) := fun e1 e2 u2 u3 nu2 nu3 => by
      have t2 := same_new (o := .tup [.str "if", .ref p1, v2, v3]) nu2
      have t3 := same_new (o := .tup [.ref u2]) nu3
      refine q2 _ _ ((s123.trans t2).trans t3) ?_
      have e : branchS T1 A1 B1 = [.iff T1 A1 B1] := by
        unfold branchS
        rw [e1, e2]
        rfl
      rw [e]
      exact .tup (.inl (.inl upd_same)) (.cons (.tup (.inl (.inl (t3 _ _ upd_same))) (.cons (.str _) (.cons (dp_same (t2.trans t3) _ _ hT) (.cons (dp_same (t2.trans t3) _ _ hA) (.cons (dp_same (t2.trans t3) _ _ hv3) .nil))))) .nil)
    walk_at "go"
    rw [head_num hinT]
    walk_at "br"

    · intro h
      walk_at "go"
      refine go_eqX hT (b := .num 0) (.tup (T.kt_ZERO H3) (.cons (.str _) (.cons (.int _) .nil))) shT shaped_num ?_
      walk_at "go"
      walk_at "br"
      · intro hz
        walk_at "go"
        refine q2 _ _ s123 ?_
        rw [show branchS T1 A1 B1 = B1 by unfold branchS; rw [h, hz]; rfl]
        exact hv3
      · intro hz
        walk_at "go"
        refine q2 _ _ s123 ?_
        rw [show branchS T1 A1 B1 = A1 by unfold branchS; rw [h, hz]; rfl]
        exact hA
    · intro h
      walk_at "go"
      refine ⟨_, _, hA, hv3, shA, shB, ?_⟩
      walk_at "go"
      walk_at "br"
      · intro hz
        walk_at "go"
        refine q2 _ _ s123 ?_
        rw [show branchS T1 A1 B1 = A1 by unfold branchS; rw [h, show eqB A1 B1 = true from hz]; rfl]
        exact hA
      · intro hz
        walk_at "go"
        refine ⟨by show 4 ≤ sizeLine; decide, fun u2 nu2 => ?_⟩
        walk_at "go"
        refine ⟨by show 1 ≤ sizeLine; decide, fun u3 nu3 => ?_⟩
        exact fin hz h u2 u3 nu2 nu3
end
end K24

namespace K24
open PySem PySem.Spec PyProof.Rows L2 Gx
section
variable {P : Program} {w : World} {K : PySem.W.Frag} {mg : Str → Option Value} {base : Heap} {A : Ad}
theorem S_fold_statement (T : Txt P K mg A) (n : Nat) (IHb : FnOk P w K mg base CX0 (3 * n + 13) A.f_fold_block A.d_fold_block ["block", "on"] (sp_fold_block K n)) (IHr : FnOk P w K mg base CX0 (3 * n + 14) A.f_fold_branch A.d_fold_branch ["statement", "on"] (sp_fold_branch K (n + 1))) : FnOk P w K mg base CX0 (3 * n + 14 + 1) A.f_fold_statement A.d_fold_statement ["statement", "on"] (sp_fold_statement K (n + 1)) := by
  refine (T.F_fold_statement.ok (k := 3 * n + 14) sc_fold_statement (fun vs H Q E h => ?_) (fun cdv Ar outer s H vs Q E hr h => ?_))
  · obtain ⟨v, o, s, ns, ps, on, rfl, _⟩ := h
    rfl
  · obtain ⟨v, o, s, ns, ps, on, rfl, hv, hin, hc, h8, ho, hns, hps, q⟩ := h
    obtain ⟨ok, eo, _, eov⟩ := id ho
    refine ⟨_, (pss_cons (ps_set (i := 2) sc_fold_statement.nd rfl (Or.inl rfl) (pe_ix ix_tup (pv 0) pe_int (fun _ _ => rfl)))
      (pss_cons (ps_if (pt_cmpR op_eq (pv 2) pe_str (nomark _))
        (pss_one (ps_ret (pe_call IHb (hr.mono (by omega)) rfl T.m_fold_block T.F_fold_block.kp T.b_fold_block .nil pass0 (pa_cons (pe_ifExp (pt_val (pe_dget (hu_of hr) (pv 1) (pe_ix ix_tup (pv 0) pe_int (fun _ _ => rfl)) (fun _ _ => rfl))) (pe_ix ix_tup (pv 0) pe_int (fun _ _ => rfl)) (pe_ix ix_tup (pv 0) pe_int (fun _ _ => rfl))) (pa_cons (pv 1) pa_nil)))))
        pss_nil)
      (pss_cons (ps_if (PW.pt (pw_or (pt_cmpR op_eq (pv 2) pe_str (nomark _)) (pw_or1 (pt_cmpR op_eq (pv 2) pe_str (nomark _)))))
        (pss_one (ps_ret (pe_tup (pa_cons (pv 0) pa_nil))))
        pss_nil)
      (pss_cons (ps_if (pt_cmpR op_eq (pv 2) pe_str (nomark _))
        (pss_one (ps_ret (pe_call IHr (hr.mono (by omega)) rfl T.m_fold_branch T.F_fold_branch.kp T.b_fold_branch .nil pass0 (pa_cons (pv 0) (pa_cons (pv 1) pa_nil)))))
        pss_nil)
      (pss_cons (ps_set (i := 3) sc_fold_statement.nd rfl (Or.inl rfl) (pe_call (R_fold_expression T 4) (hr.mono (by omega)) rfl T.m_fold_expression T.F_fold_expression.kp T.b_fold_expression .nil pass0 (pa_cons (pe_ix ix_tup (pv 0) (pe_un un_neg pe_int) (fun _ _ => rfl)) (pa_cons (pv 1) pa_nil))))
      (pss_cons (ps_if (pt_cmpR op_eq (pv 2) pe_str (nomark _))
        (pss_one (ps_ret (pe_ifExp (pt_cmpR (op_eqD hr.units) (pv 3) (pe_tup (pa_cons pe_str (pa_cons (pe_ix ix_tup (pv 0) pe_int (fun _ _ => rfl)) pa_nil))) (nomark _)) (pe_tup pa_nil) (pe_tup (pa_cons (pe_tup (pa_cons pe_str (pa_cons (pe_ix ix_tup (pv 0) pe_int (fun _ _ => rfl)) (pa_cons (pv 3) pa_nil)))) pa_nil)))))
        pss_nil)
      (pss_cons (ps_if (pt_cmpR op_eq (pv 2) pe_str (nomark _))
        (pss_one (ps_ret (pe_tup (pa_cons (pe_tup (pa_cons pe_str (pa_cons (pe_ix ix_tup (pv 0) pe_int (fun _ _ => rfl)) (pa_cons (pv 3) pa_nil)))) pa_nil))))
        pss_nil)
      (pss_one (ps_ret (pe_ifExp (pt_cmpR (op_eqD hr.units) (pv 3) (pe_glob (v := .ref A.k_ZERO) rfl T.m_ZERO rfl) (nomark _)) (pe_tup pa_nil) (pe_tup (pa_cons (pe_tup (pa_cons (pv 2) (pa_cons (pv 3) pa_nil))) pa_nil)))))))))))), ?_⟩
    try dsimp only [cxOf, Cx.nox, Cx.wish]
    cases s with
    | drw x i =>
      obtain ⟨a, xs, rfl, ha, hx⟩ := dp_tup hv
      obtain ⟨x1, x2, x3, rfl, h1, h2, h3⟩ := dp3 hx
      cases dpS h1
      cases dpS h2

      walk_at "go"
      refine ⟨by show 1 ≤ sizeLine; decide, fun u nu => ?_⟩
      exact q _ _ (same_new nu) (.tup (.inl (.inl upd_same)) (.cons (dp_same (same_new nu) _ _ hv) .nil))
    | mov m x b c =>
      obtain ⟨a, xs, rfl, ha, hx⟩ := dp_tup hv
      cases hx with
      | cons h1 hx =>
        cases dpS h1
        walk_at "go"
        refine ⟨by show 1 ≤ sizeLine; decide, fun u nu => ?_⟩
        exact q _ _ (same_new nu) (.tup (.inl (.inl upd_same)) (.cons (dp_same (same_new nu) _ _ hv) .nil))
    | shw i e =>
      obtain ⟨a, xs, rfl, ha, hx⟩ := dp_tup hv
      obtain ⟨x1, x2, x3, rfl, h1, h2, h3⟩ := dp3 hx
      cases dpS h1
      cases dpI h2

      walk_at "go"
      refine ⟨x3, o, e, ns, ps, on, rfl, h3, hin, ho, by decide, hns, hps, fun v1 H1 s1 hv1 => ?_⟩
      have ha1 := same_sqT s1 ha

      walk_at "go"
      refine ⟨by show 3 ≤ sizeLine; decide, fun u2 nu2 => ?_⟩
      walk_at "go"
      refine ⟨by show 1 ≤ sizeLine; decide, fun u3 nu3 => ?_⟩
      have t2 := same_new (o := .tup [.str "show", .int i, v1]) nu2
      have t3 := same_new (o := .tup [.ref u2]) nu3
      exact q _ _ ((s1.trans t2).trans t3) (.tup (.inl (.inl upd_same)) (.cons (.tup (.inl (.inl (t3 _ _ upd_same))) (.cons (.str _) (.cons (.int _) (.cons (dp_same (t2.trans t3) _ _ hv1) .nil)))) .nil))
    | set x e =>
      obtain ⟨a, xs, rfl, ha, hx⟩ := dp_tup hv
      obtain ⟨x1, x2, x3, rfl, h1, h2, h3⟩ := dp3 hx
      cases dpS h1
      cases dpS h2

      walk_at "go"
      refine ⟨x3, o, e, ns, ps, on, rfl, h3, hin.2, ho, by decide, hns, hps, fun v1 H1 s1 hv1 => ?_⟩
      have ha1 := same_sqT s1 ha

      have hshape := exD_shaped hns hps (foldE_in (on := on) 4 e hin.2) (by decide)
      have hvar := exD_shaped (ns := ns) (ps := ps) hns hps (d := 1) (e := .var x) hin.1 (by decide)
      walk_at "go"
      refine ⟨by show 2 ≤ sizeLine; decide, fun u nu => ?_⟩
      walk_at "go"
      refine go_eqX (dp_same (same_new nu) _ _ hv1) (b := .var x) (.tup (.inl (.inl upd_same)) (.cons (.str _) (.cons (.str _) .nil))) hshape hvar ?_
      have s2 := s1.trans (same_new (o := .tup [.str "variable", .str x]) nu)
      have hv2 := dp_same (same_new (o := .tup [.str "variable", .str x]) nu) _ _ hv1
      have ha2 := same_sqT s2 ha
      generalize upd H1 u (.tup [.str "variable", .str x]) = H2 at *
      walk_at "go"
      walk_at "br"
      · intro h
        walk_at "go"
        refine ⟨by show 0 ≤ sizeLine; decide, fun u2 nu2 => ?_⟩
        refine q _ _ (s2.trans (same_new nu2)) ?_
        rw [show foldS on (.set x e) = [] from if_pos h]
        exact .tup (.inl (.inl upd_same)) .nil
      · intro h
        walk_at "go"
        refine ⟨by show 3 ≤ sizeLine; decide, fun u2 nu2 => ?_⟩
        walk_at "go"
        refine ⟨by show 1 ≤ sizeLine; decide, fun u3 nu3 => ?_⟩
        have t2 := same_new (o := .tup [.str "set", .str x, v1]) nu2
        have t3 := same_new (o := .tup [.ref u2]) nu3
        refine q _ _ ((s2.trans t2).trans t3) ?_
        rw [show foldS on (.set x e) = [.set x (foldE on e)] from if_neg (by rw [h]; exact Bool.false_ne_true)]
        exact .tup (.inl (.inl upd_same)) (.cons (.tup (.inl (.inl (t3 _ _ upd_same))) (.cons (.str _) (.cons (.str _) (.cons (dp_same (t2.trans t3) _ _ hv2) .nil)))) .nil)
    | pay k e =>
      cases k with
      | false =>
        obtain ⟨a, xs, rfl, ha, hx⟩ := dp_tup hv
        obtain ⟨x1, x2, rfl, h1, h2⟩ := dp2 hx
        cases dpS h1

        walk_at "go"
        refine ⟨x2, o, e, ns, ps, on, rfl, h2, hin, ho, by decide, hns, hps, fun v1 H1 s1 hv1 => ?_⟩
        have ha1 := same_sqT s1 ha

        have hshape := exD_shaped hns hps (foldE_in (on := on) 4 e hin) (by decide)
        walk_at "go"

        refine go_eqX hv1 (b := .num 0) (.tup (T.kt_ZERO H1) (.cons (.str _) (.cons (.int _) .nil))) hshape shaped_num ?_
        have s2 := s1
        have hv2 := hv1

        walk_at "go"
        walk_at "br"
        · intro h
          walk_at "go"
          refine ⟨by show 0 ≤ sizeLine; decide, fun u2 nu2 => ?_⟩
          refine q _ _ (s2.trans (same_new nu2)) ?_
          rw [show foldS on (.pay false e) = [] from if_pos h]
          exact .tup (.inl (.inl upd_same)) .nil
        · intro h
          walk_at "go"
          refine ⟨by show 2 ≤ sizeLine; decide, fun u2 nu2 => ?_⟩
          walk_at "go"
          refine ⟨by show 1 ≤ sizeLine; decide, fun u3 nu3 => ?_⟩
          have t2 := same_new (o := .tup [.str "pay", v1]) nu2
          have t3 := same_new (o := .tup [.ref u2]) nu3
          refine q _ _ ((s2.trans t2).trans t3) ?_
          rw [show foldS on (.pay false e) = [.pay false (foldE on e)] from if_neg (by rw [h]; exact Bool.false_ne_true)]
          exact .tup (.inl (.inl upd_same)) (.cons (.tup (.inl (.inl (t3 _ _ upd_same))) (.cons (.str _) (.cons (dp_same (t2.trans t3) _ _ hv2) .nil))) .nil)
      | true =>
        obtain ⟨a, xs, rfl, ha, hx⟩ := dp_tup hv
        obtain ⟨x1, x2, rfl, h1, h2⟩ := dp2 hx
        cases dpS h1

        walk_at "go"
        refine ⟨x2, o, e, ns, ps, on, rfl, h2, hin, ho, by decide, hns, hps, fun v1 H1 s1 hv1 => ?_⟩
        have ha1 := same_sqT s1 ha

        have hshape := exD_shaped hns hps (foldE_in (on := on) 4 e hin) (by decide)
        walk_at "go"

        refine go_eqX hv1 (b := .num 0) (.tup (T.kt_ZERO H1) (.cons (.str _) (.cons (.int _) .nil))) hshape shaped_num ?_
        have s2 := s1
        have hv2 := hv1

        walk_at "go"
        walk_at "br"
        · intro h
          walk_at "go"
          refine ⟨by show 0 ≤ sizeLine; decide, fun u2 nu2 => ?_⟩
          refine q _ _ (s2.trans (same_new nu2)) ?_
          rw [show foldS on (.pay true e) = [] from if_pos h]
          exact .tup (.inl (.inl upd_same)) .nil
        · intro h
          walk_at "go"
          refine ⟨by show 2 ≤ sizeLine; decide, fun u2 nu2 => ?_⟩
          walk_at "go"
          refine ⟨by show 1 ≤ sizeLine; decide, fun u3 nu3 => ?_⟩
          have t2 := same_new (o := .tup [.str "take", v1]) nu2
          have t3 := same_new (o := .tup [.ref u2]) nu3
          refine q _ _ ((s2.trans t2).trans t3) ?_
          rw [show foldS on (.pay true e) = [.pay true (foldE on e)] from if_neg (by rw [h]; exact Bool.false_ne_true)]
          exact .tup (.inl (.inl upd_same)) (.cons (.tup (.inl (.inl (t3 _ _ upd_same))) (.cons (.str _) (.cons (dp_same (t2.trans t3) _ _ hv2) .nil))) .nil)
    | whn x a1 b1 =>
      obtain ⟨a, xs, rfl, ha, hx⟩ := dp_tup hv
      obtain ⟨x1, x2, x3, x4, rfl, h1, h2, h3, h4⟩ := dp4 hx
      cases dpS h1
      cases dpS h2

      have hc' : max 1 (max (cnts a1) (cnts b1)) ≤ 20000 := hc
      have q2 : ∀ v' H', Same H H' → Dp K H' v' (blD (if on x = true then foldB on a1 else foldB on b1)) → Q v' H' := q
      walk_at "go"
      refine go_dgetS eo (eov x hin.2.1) ?_
      walk_at "go"

      walk_at "br"
      · intro h
        rw [if_pos h] at q2
        walk_at "go"
        exact ⟨x3, o, a1, ns, ps, on, rfl, h3, hin.2.2.1, by omega, hin.1, by omega, ho, hns, hps, q2⟩
      · intro h
        rw [if_neg (by rw [h]; exact Bool.false_ne_true)] at q2
        walk_at "go"
        exact ⟨x4, o, b1, ns, ps, on, rfl, h4, hin.2.2.2, by omega, hin.1, by omega, ho, hns, hps, q2⟩
    | iff t a1 b1 =>
      obtain ⟨a, xs, rfl, ha, hx⟩ := dp_tup hv
      have hx' := hx
      cases hx' with
      | cons h1 hx' =>
        cases dpS h1
        walk_at "go"
        exact ⟨_, o, t, a1, b1, ns, ps, on, rfl, hv, hin, hc, h8, ho, hns, hps, q⟩
end
end K24

namespace K24
open PySem PySem.Spec PyProof.Rows L2 Gx
section
variable {P : Program} {w : World} {K : PySem.W.Frag} {mg : Str → Option Value} {base : Heap} {A : Ad}
theorem S_fold_block (T : Txt P K mg A) (n : Nat) (IHs : FnOk P w K mg base CX0 (3 * n + 15) A.f_fold_statement A.d_fold_statement ["statement", "on"] (sp_fold_statement K (n + 1))) : FnOk P w K mg base CX0 (3 * n + 15 + 1) A.f_fold_block A.d_fold_block ["block", "on"] (sp_fold_block K (n + 1)) := by
  refine (T.F_fold_block.ok (k := 3 * n + 15) sc_fold_block (fun vs H Q E h => ?_) (fun cdv Ar outer s H vs Q E hr h => ?_))
  · obtain ⟨v, o, ss, ns, ps, on, rfl, _⟩ := h
    rfl
  · obtain ⟨v, o, ss, ns, ps, on, rfl, hv, hin, hc, h0, h8, ho, hns, hps, q⟩ := h
    obtain ⟨a, xs, rfl, ha, hx⟩ := dp_tup hv
    have hlen : xs.length = ss.length := by rw [dpAll_len hx, stDs_len]
    refine ⟨_, (pss_cons (ps_set (i := 2) sc_fold_block.nd rfl (Or.inl rfl) (pe_lst pa_nil))
      (pss_cons (ps_for PassesOwn.never rfl (pi_tup (pv 0)) (pg_name (i := 3) sc_fold_block.nd rfl (Or.inl rfl))
        (pss_one (ps_expr (pe_bm PySem.F.plainAttrs_list PySem.F.slot_list_extend PySem.F.type_list_extend mt_extendT (pv 2) (pa_cons (pe_call IHs (hr.mono (by omega)) rfl T.m_fold_statement T.F_fold_statement.kp T.b_fold_statement .nil pass0 (pa_cons (pv 3) (pa_cons (pv 1) pa_nil))) pa_nil)))))
      (pss_one (ps_ret (pe_callTy k_tuple_of (by rfl) T.n_tuple (by decide +kernel) (pa_cons (pv 2) pa_nil)))))), ?_⟩
    try dsimp only [cxOf, Cx.nox, Cx.wish]
    walk_at "go"

    refine ⟨by show 0 ≤ sizeLine; decide, fun l nl => ?_⟩
    walk_at "go"
    refine foT xs (fun i σ' H' => ∃ (ys : List V) (v1 : Option V), σ' = [some (.ref a), some (.ref o), some (.ref l), v1] ∧ H' l = some (.lst ys) ∧ DpAll K H' ys (stDs (foldB on (ss.take i))) ∧ Same H H') ⟨[], _, rfl, upd_same, .nil, same_new nl⟩ ?_ ?_ ?_
    · rintro i σ' H' _ ⟨ys, v1, rfl, _, _, s⟩
      exact same_sqT s ha
    · rintro i x σ' H' hxi ⟨ys, v1, rfl, e1, hy, s⟩
      have hi := (List.getElem?_eq_some_iff.mp hxi).1
      have es : ss[i]? = some ss[i] := List.getElem?_eq_getElem (by omega)
      obtain ⟨x', ex, hd⟩ := dpAll_get hx (stDs_at es)
      rw [hxi] at ex
      cases ex
      have hm : ss[i] ∈ ss := List.getElem_mem (by omega)
      have hcm := cnt_mem hm
      walk_at "go"
      refine ⟨.inl ⟨rfl, _, .inl (.inl e1)⟩, ?_⟩
      walk_at "go"
      refine ⟨x, o, ss[i], ns, ps, on, rfl, dp_same s _ _ hd, hin _ hm, by omega, h8, ho.same s, hns, hps, fun v' H1 s1 hv' => ?_⟩
      obtain ⟨b, zs, rfl, hb, hz⟩ := dp_tup hv'
      have e2 := s1 _ _ e1
      have l1 : ys.length ≤ 20000 := by
        rw [dpAll_len hy, stDs_len]
        have k1 := len_cnts (foldB on (ss.take i))
        have k2 := foldB_cnt (on := on) (ss.take i)
        have k3 : cnts (ss.take i) ≤ cnts ss := by
          have := cnts_cat (ss.take i) (ss.drop i)
          rw [List.take_append_drop] at this
          omega
        omega
      have l2 : zs.length ≤ 20000 := by
        rw [dpAll_len hz, stDs_len]
        have k1 := len_cnts (foldS on ss[i])
        have k2 := foldS_cnt (on := on) ss[i]
        omega
      walk_at "go"
      refine go_extendT e2 hb (by omega) ?_
      walk_at "go"
      refine ⟨ys ++ zs, _, rfl, upd_same, ?_, Same.mut nl (s.trans s1)⟩
      rw [take_snoc es, foldB_cat, foldB_one, stDs_cat]
      exact dpAll_but e2 But.one _ _ (plains_noL _ (by rw [← stDs_cat]; exact stDs_plain _)) (dpAll_cat (dpAll_same s1 _ _ hy) hz)
    · rintro σ' H' ⟨ys, v1, rfl, e1, hy, s⟩
      rw [hlen, List.take_length] at hy
      walk_at "go"
      refine go_tupOfL (.of e1) fun u nu => ?_
      exact q _ _ (s.trans (same_new nu)) (.tup (.inl (.inl upd_same)) (dpAll_same (same_new nu) _ _ hy))
theorem Z_fold_branch {n : Nat} {vs : List V} {H : Hp} {Q : VK} {E : XK} (hn : n = 0) (h : sp_fold_branch K n vs H Q E) : False := by
  obtain ⟨v, o, t, a, b, ns, ps, on, rfl, _, h0, _⟩ := h
  subst hn
  exact h0.elim
theorem Z_fold_statement {n : Nat} {vs : List V} {H : Hp} {Q : VK} {E : XK} (hn : n = 0) (h : sp_fold_statement K n vs H Q E) : False := by
  obtain ⟨v, o, s, ns, ps, on, rfl, _, h0, _⟩ := h
  subst hn
  exact h0.elim
theorem Z_fold_block {n : Nat} {vs : List V} {H : Hp} {Q : VK} {E : XK} (hn : n = 0) (h : sp_fold_block K n vs H Q E) : False := by
  obtain ⟨v, o, ss, ns, ps, on, rfl, _, _, _, h0, _⟩ := h
  exact absurd h0 (by omega)
theorem R2_fold_block (T : Txt P K mg A) : ∀ n : Nat, (FnOk P w K mg base CX0 (3 * n + 13) A.f_fold_block A.d_fold_block ["block", "on"] (sp_fold_block K n)) ∧ (FnOk P w K mg base CX0 (3 * n + 12) A.f_fold_statement A.d_fold_statement ["statement", "on"] (sp_fold_statement K n))
  | 0 => ⟨⟨fun vs H Q E h => (Z_fold_block rfl h).elim, fun _ _ _ _ _ _ _ _ _ _ _ _ _ h => (Z_fold_block rfl h).elim⟩, ⟨fun vs H Q E h => (Z_fold_statement rfl h).elim, fun _ _ _ _ _ _ _ _ _ _ _ _ _ h => (Z_fold_statement rfl h).elim⟩⟩
  | n + 1 => by
    obtain ⟨hb, hs⟩ := R2_fold_block T n
    have h1 := S_fold_branch T n hb
    have h2 := S_fold_statement T n hb h1
    have h3 := S_fold_block T n h2
    exact ⟨h3, h2⟩
theorem R_fold_block (T : Txt P K mg A) (n : Nat) : FnOk P w K mg base CX0 (3 * n + 13) A.f_fold_block A.d_fold_block ["block", "on"] (sp_fold_block K n) := (R2_fold_block T n).1
end
end K24

namespace K24
open PySem PySem.Spec PyProof.Rows L2 Gx
section
variable {P : Program} {w : World} {K : PySem.W.Frag} {mg : Str → Option Value} {base : Heap} {A : Ad}
def sp_law (K : PySem.W.Frag) : Sp := fun vs H Q _ => ∃ (a : Addr) (ns : List Int), vs = [.ref a] ∧ SqL K H a (ns.map V.int) ∧ ns.length ≤ 63 ∧ ∀ H', Q (.bl true) H'
theorem G_law (T : Txt P K mg A) : FnOk P w K mg base CX0 32 A.f_law A.d_law ["_law_script"] (sp_law K) := by
  refine (T.F_law.ok (k := 31) sc_law (fun vs H Q E h => ?_) (fun cdv Ar outer s H vs Q E hr h => ?_))
  · obtain ⟨a, ns, rfl, _⟩ := h
    rfl
  · obtain ⟨a, ns, rfl, hs, hl, q⟩ := h
    refine ⟨_, (pss_cons (ps_set (i := 1) sc_law.nd rfl (Or.inl rfl) (pe_call (G__law_pool T) (hr.mono (by decide)) rfl T.m__law_pool T.F__law_pool.kp T.b__law_pool .nil pass0 (pa_cons (pv 0) (pa_cons pe_int pa_nil))))
      (pss_cons (ps_set (i := 2) sc_law.nd rfl (Or.inl rfl) (pe_call (G__law_names T) (hr.mono (by decide)) rfl T.m__law_names T.F__law_names.kp T.b__law_names .nil pass0 (pa_cons (pv 1) (pa_cons pe_int pa_nil))))
      (pss_cons (ps_set (i := 3) sc_law.nd rfl (Or.inl rfl) (pe_call (G__law_names T) (hr.mono (by decide)) rfl T.m__law_names T.F__law_names.kp T.b__law_names .nil pass0 (pa_cons (pv 1) (pa_cons pe_int pa_nil))))
      (pss_cons (ps_set (i := 4) sc_law.nd rfl (Or.inl rfl) pe_dnewK)
      (pss_cons (ps_for PassesOwn.never rfl (pi_list (pv 3)) (pg_name (i := 5) sc_law.nd rfl (Or.inl rfl))
        (pss_one (ps_dput (hu_of hr) (pv 4) (pv 5) (pe_cmpR op_eq (pe_call (G__law_draw T) (hr.mono (by decide)) rfl T.m__law_draw T.F__law_draw.kp T.b__law_draw .nil pass0 (pa_cons (pv 1) (pa_cons pe_int pa_nil))) pe_int (nomark _)) rfl)))
      (pss_cons (ps_set (i := 6) sc_law.nd rfl (Or.inl rfl) (pe_call (R__law_block T 6) (hr.mono (by decide)) rfl T.m__law_block T.F__law_block.kp T.b__law_block .nil pass0 (pa_cons (pv 1) (pa_cons (pv 2) (pa_cons (pv 3) (pa_cons pe_int (pa_cons (pe_lst (pa_cons pe_int (pa_cons pe_int pa_nil))) pa_nil)))))))
      (pss_cons (ps_set (i := 7) sc_law.nd rfl (Or.inl rfl) (pe_call (R__law_fold_block T 6) (hr.mono (by decide)) rfl T.m__law_fold_block T.F__law_fold_block.kp T.b__law_fold_block .nil pass0 (pa_cons (pv 6) (pa_cons (pv 4) pa_nil))))
      (pss_cons (ps_set (i := 8) sc_law.nd rfl (Or.inl rfl) (pe_call (R_fold_block T 6) (hr.mono (by decide)) rfl T.m_fold_block T.F_fold_block.kp T.b_fold_block .nil pass0 (pa_cons (pv 6) (pa_cons (pv 4) pa_nil))))
      (pss_one (ps_ret (pe_and (pe_call (R__law_same T 20) (hr.mono (by decide)) rfl T.m__law_same T.F__law_same.kp T.b__law_same .nil pass0 (pa_cons (pv 8) (pa_cons (pv 7) pa_nil))) (pe_one (pe_call (R__law_same T 20) (hr.mono (by decide)) rfl T.m__law_same T.F__law_same.kp T.b__law_same .nil pass0 (pa_cons (pe_call (R_fold_block T 6) (hr.mono (by decide)) rfl T.m_fold_block T.F_fold_block.kp T.b_fold_block .nil pass0 (pa_cons (pv 8) (pa_cons (pv 4) pa_nil))) (pa_cons (pv 7) pa_nil))))))))))))))), ?_⟩
    try dsimp only [cxOf, Cx.nox, Cx.wish]
    walk_at "go"
    refine ⟨a, ns, 50, rfl, hs, by omega, fun p H1 _ npa _ s1 hp => ?_⟩
    walk_at "go"
    refine ⟨p, 50, 4, rfl, hp, by decide, by decide, fun nl xs H2 nn en hxl _ hxn t2 => ?_⟩
    have na := hp.nea nn
    walk_at "go"
    refine ⟨p, 50, 3, rfl, t2.pool, by decide, by decide, fun pl ys H3 np ep hyl _ hyn t3 => ?_⟩
    have pa := t2.pool.nea np
    have en3 := t3.but _ _ na en
    have hp3 := t3.pool
    have xok : ∀ x ∈ xs, PyData.strOk x = true := fun x h => (name_ok (hxn x h)).1
    have yok : ∀ x ∈ ys, PyData.strOk x = true := fun x h => (name_ok (hyn x h)).1
    clear t2 t3 hp s1 hs
    walk_at "go"
    refine fun ob nob => ?_
    walk_at "go"
    refine foL (ys.map V.str) (fun i σ' H' => ∃ (kvs : List (Key × V)) (v : Option V), σ' = [some (.ref a), some (.ref p.a), some (.ref nl), some (.ref pl), some (.ref ob), v, none, none, none] ∧ Pool H' p 50 ∧ H' nl = some (.lst (xs.map V.str)) ∧ H' pl = some (.lst (ys.map V.str)) ∧ H' ob = some (.dK kvs) ∧ DB kvs (ys.take i) IsBl)
      ⟨[], _, rfl, hp3.new nob, same_new nob _ _ en3, same_new nob _ _ ep, upd_same, DB.nil⟩ ?_ ?_ ?_
    · rintro i σ' H' _ ⟨kvs, v, rfl, h1, h2, h3, h4, h5⟩
      exact .of h3
    · rintro i x σ' H5 hx ⟨kvs, v, rfl, h1, h2, h3, h5, h6⟩
      obtain ⟨x, rfl, hxi⟩ := strs_at hx
      walk_at "go"
      refine ⟨p, 50, 2, rfl, h1, by decide, by decide, fun v H6 hv0 hv1 t6 => ?_⟩
      obtain ⟨zs, ez⟩ := h1.there
      have f5 := t6.but _ _ (ne_of h5 ez (by intro z; cases z)) h5
      have f2 := t6.but _ _ na h2
      have f3 := t6.but _ _ pa h3
      have hlen := h6.len
      rw [List.length_take] at hlen
      walk_at "go"
      refine go_dputS f5 (by omega) ?_
      refine ⟨_, _, rfl, t6.pool.upd ?_ ?_, ?_, ?_, upd_same, ?_⟩
      · obtain ⟨zs, ez⟩ := t6.pool.there
        exact ne_of f5 ez (by intro z; cases z)
      · exact ne_of f5 t6.pool.li (by intro z; cases z)
      · rw [upd_ne (ne_of f2 f5 (by intro z; cases z))]; exact f2
      · rw [upd_ne (ne_of f3 f5 (by intro z; cases z))]; exact f3
      · rw [take_snoc hxi]
        exact h6.put ⟨_, rfl⟩
    rintro σ' H5 ⟨ok, v1, rfl, hp6, en6, ep6, eo6, hO⟩
    rw [List.length_map, List.take_length] at hO
    clear en3 ep hp3 nob
    walk_at "go"
    refine ⟨by show 2 ≤ sizeLine; decide, fun st nst => ?_⟩
    walk_at "go"
    have s7 := same_new (o := .lst [.int 0, .int 0]) nst
    have hst : ∃ i j : Int, upd H5 st (.lst [.int 0, .int 0]) st = some (.lst [.int i, .int j]) := ⟨0, 0, upd_same⟩
    have hp7 := hp6.same s7
    have ns2 : nl ≠ st := ne_of_none en6 nst
    have ps2 : pl ≠ st := ne_of_none ep6 nst
    have os2 : ob ≠ st := ne_of_none eo6 nst
    have en7 := s7 _ _ en6
    have ep7 := s7 _ _ ep6
    have eo7 := s7 _ _ eo6
    have sta := hp6.nea nst
    have stl := hp6.nel nst
    generalize upd H5 st (.lst [.int 0, .int 0]) = H7 at *
    clear en6 ep6 eo6 hp6 nst s7
    refine ⟨p, 50, nl, pl, st, xs, ys, 5, rfl, hp7, en7, ep7, ⟨na, pa, ns2, ps2, sta, stl⟩, hst, by omega, by omega, rfl, by decide, fun bv ss b8 H8 hin hc hbv t8 => ?_⟩
    obtain ⟨zs7, ez7⟩ := hp7.there
    have eo8 := t8.but _ _ (ne_of eo7 ez7 (by intro z; cases z)) os2 eo7
    have O8 := hO.on (by omega) eo8
    have hc2 : cnts ss ≤ 15625 := hc
    walk_at "go"
    refine ⟨bv, ob, ss, xs, ys, _, rfl, hbv, hin, by omega, by decide, by decide, O8, xok, yok, fun dv H9 s9 hdv => ?_⟩
    walk_at "go"
    refine ⟨bv, ob, ss, xs, ys, _, rfl, dp_same s9 _ _ hbv, hin, by omega, by decide, by decide, O8.same s9, xok, yok, fun av H10 s10 hav => ?_⟩
    have hdv10 := dp_same s10 _ _ hdv
    have hinF := foldB_in (on := onOf ok) hin
    have hcF := foldB_cnt (on := onOf ok) ss
    have dn := bl_deep hinF
    have sm := bl_small (l := foldB (onOf ok) ss) (by omega)
    walk_at "go"
    refine ⟨_, _, rfl, eqd_of _ _ _ _ (Nat.le_trans dn (by decide)) sm hav hdv10, ?_⟩
    walk_at "go"
    refine ⟨av, ob, foldB (onOf ok) ss, xs, ys, _, rfl, hav, hinF, by omega, by decide, by decide, O8.same (s9.trans s10), xok, yok, fun fv H11 s11 hfv => ?_⟩
    rw [foldB_twice] at hfv
    walk_at "go"
    refine ⟨_, _, rfl, eqd_of _ _ _ _ (Nat.le_trans dn (by decide)) sm hfv (dp_same s11 _ _ hdv10), ?_⟩
    walk_at "go"
    exact q _
end
end K24

set_option pp.maxSteps 60
namespace K24
open PySem L2 Gx
theorem all_mk {P : Program} {w : World} {K : PySem.W.Frag} {h : Heap} {mg : Str → Option Value} {f_combine f_fold_expression f_fold_pair f_fold_block f_fold_statement f_fold_branch f__law_pool f__law_draw f__law_spend f__law_few f__law_number f__law_same f__law_keys f__law_name f__law_names f__law_expression f__law_combine f__law_fold_pair f__law_fold f__law_block f__law_statement f__law_fold_statement f__law_fold_block f_law : Addr} (X : K.In h) (G : h.Ns mainGlobals mg) {fa : Addr} (hfa : mg "law" = some (.ref fa))
    {oc_combine kV_combine dc_combine pm_combine cd_combine ct_combine : Value} {od_combine an_combine : Option Addr} {sl_combine : Array (Option Value)}
    {oc_fold_expression kV_fold_expression dc_fold_expression pm_fold_expression cd_fold_expression ct_fold_expression : Value} {od_fold_expression an_fold_expression : Option Addr} {sl_fold_expression : Array (Option Value)}
    {oc_fold_pair kV_fold_pair dc_fold_pair pm_fold_pair cd_fold_pair ct_fold_pair : Value} {od_fold_pair an_fold_pair : Option Addr} {sl_fold_pair : Array (Option Value)}
    {oc_fold_block kV_fold_block dc_fold_block pm_fold_block cd_fold_block ct_fold_block : Value} {od_fold_block an_fold_block : Option Addr} {sl_fold_block : Array (Option Value)}
    {oc_fold_statement kV_fold_statement dc_fold_statement pm_fold_statement cd_fold_statement ct_fold_statement : Value} {od_fold_statement an_fold_statement : Option Addr} {sl_fold_statement : Array (Option Value)}
    {oc_fold_branch kV_fold_branch dc_fold_branch pm_fold_branch cd_fold_branch ct_fold_branch : Value} {od_fold_branch an_fold_branch : Option Addr} {sl_fold_branch : Array (Option Value)}
    {oc__law_pool kV__law_pool dc__law_pool pm__law_pool cd__law_pool ct__law_pool : Value} {od__law_pool an__law_pool : Option Addr} {sl__law_pool : Array (Option Value)}
    {oc__law_draw kV__law_draw dc__law_draw pm__law_draw cd__law_draw ct__law_draw : Value} {od__law_draw an__law_draw : Option Addr} {sl__law_draw : Array (Option Value)}
    {oc__law_spend kV__law_spend dc__law_spend pm__law_spend cd__law_spend ct__law_spend : Value} {od__law_spend an__law_spend : Option Addr} {sl__law_spend : Array (Option Value)}
    {oc__law_few kV__law_few dc__law_few pm__law_few cd__law_few ct__law_few : Value} {od__law_few an__law_few : Option Addr} {sl__law_few : Array (Option Value)}
    {oc__law_number kV__law_number dc__law_number pm__law_number cd__law_number ct__law_number : Value} {od__law_number an__law_number : Option Addr} {sl__law_number : Array (Option Value)}
    {oc__law_same kV__law_same dc__law_same pm__law_same cd__law_same ct__law_same : Value} {od__law_same an__law_same : Option Addr} {sl__law_same : Array (Option Value)}
    {oc__law_keys kV__law_keys dc__law_keys pm__law_keys cd__law_keys ct__law_keys : Value} {od__law_keys an__law_keys : Option Addr} {sl__law_keys : Array (Option Value)}
    {oc__law_name kV__law_name dc__law_name pm__law_name cd__law_name ct__law_name : Value} {od__law_name an__law_name : Option Addr} {sl__law_name : Array (Option Value)}
    {oc__law_names kV__law_names dc__law_names pm__law_names cd__law_names ct__law_names : Value} {od__law_names an__law_names : Option Addr} {sl__law_names : Array (Option Value)}
    {oc__law_expression kV__law_expression dc__law_expression pm__law_expression cd__law_expression ct__law_expression : Value} {od__law_expression an__law_expression : Option Addr} {sl__law_expression : Array (Option Value)}
    {oc__law_combine kV__law_combine dc__law_combine pm__law_combine cd__law_combine ct__law_combine : Value} {od__law_combine an__law_combine : Option Addr} {sl__law_combine : Array (Option Value)}
    {oc__law_fold_pair kV__law_fold_pair dc__law_fold_pair pm__law_fold_pair cd__law_fold_pair ct__law_fold_pair : Value} {od__law_fold_pair an__law_fold_pair : Option Addr} {sl__law_fold_pair : Array (Option Value)}
    {oc__law_fold kV__law_fold dc__law_fold pm__law_fold cd__law_fold ct__law_fold : Value} {od__law_fold an__law_fold : Option Addr} {sl__law_fold : Array (Option Value)}
    {oc__law_block kV__law_block dc__law_block pm__law_block cd__law_block ct__law_block : Value} {od__law_block an__law_block : Option Addr} {sl__law_block : Array (Option Value)}
    {oc__law_statement kV__law_statement dc__law_statement pm__law_statement cd__law_statement ct__law_statement : Value} {od__law_statement an__law_statement : Option Addr} {sl__law_statement : Array (Option Value)}
    {oc__law_fold_statement kV__law_fold_statement dc__law_fold_statement pm__law_fold_statement cd__law_fold_statement ct__law_fold_statement : Value} {od__law_fold_statement an__law_fold_statement : Option Addr} {sl__law_fold_statement : Array (Option Value)}
    {oc__law_fold_block kV__law_fold_block dc__law_fold_block pm__law_fold_block cd__law_fold_block ct__law_fold_block : Value} {od__law_fold_block an__law_fold_block : Option Addr} {sl__law_fold_block : Array (Option Value)}
    {oc_law kV_law dc_law pm_law cd_law ct_law : Value} {od_law an_law : Option Addr} {sl_law : Array (Option Value)} {kk_GREATEST : Tok} {k_SIGNS : Addr} {kd_SIGNS : Option Addr} {kn_SIGNS : Nat} {ks_SIGNS : Array (Option Value)} {kk0_SIGNS kk1_SIGNS kk2_SIGNS kk3_SIGNS kk4_SIGNS kk5_SIGNS kk6_SIGNS : Tok} {k_ZERO : Addr} {kd_ZERO : Option Addr} {kn_ZERO : Nat} {ks_ZERO : Array (Option Value)} {kk0_ZERO kk1_ZERO : Tok} {k_ONE : Addr} {kd_ONE : Option Addr} {kn_ONE : Nat} {ks_ONE : Array (Option Value)} {kk0_ONE kk1_ONE : Tok}
    (g_combine : PySem.W.nsIn K mainGlobals "combine" = some (some (.ref f_combine)))
    (i_combine : PySem.W.isFn K (.ref f_combine) = true)
    (l_combine : K.lookup f_combine = some ⟨oc_combine, od_combine, .func (PySem.W.fnOf "combine" "combine" (defArgs s_combine) (defBody s_combine) (defScope s_combine) .none kV_combine dc_combine pm_combine an_combine cd_combine ct_combine), sl_combine⟩)
    (c_combine_ : PySem.W.codeIn K cd_combine "combine" = true)
    (k_combine : PySem.W.keepIn K (.ref f_combine) = true)
    (g_fold_expression : PySem.W.nsIn K mainGlobals "fold_expression" = some (some (.ref f_fold_expression)))
    (i_fold_expression : PySem.W.isFn K (.ref f_fold_expression) = true)
    (l_fold_expression : K.lookup f_fold_expression = some ⟨oc_fold_expression, od_fold_expression, .func (PySem.W.fnOf "fold_expression" "fold_expression" (defArgs s_fold_expression) (defBody s_fold_expression) (defScope s_fold_expression) .none kV_fold_expression dc_fold_expression pm_fold_expression an_fold_expression cd_fold_expression ct_fold_expression), sl_fold_expression⟩)
    (c_fold_expression_ : PySem.W.codeIn K cd_fold_expression "fold_expression" = true)
    (k_fold_expression : PySem.W.keepIn K (.ref f_fold_expression) = true)
    (g_fold_pair : PySem.W.nsIn K mainGlobals "fold_pair" = some (some (.ref f_fold_pair)))
    (i_fold_pair : PySem.W.isFn K (.ref f_fold_pair) = true)
    (l_fold_pair : K.lookup f_fold_pair = some ⟨oc_fold_pair, od_fold_pair, .func (PySem.W.fnOf "fold_pair" "fold_pair" (defArgs s_fold_pair) (defBody s_fold_pair) (defScope s_fold_pair) .none kV_fold_pair dc_fold_pair pm_fold_pair an_fold_pair cd_fold_pair ct_fold_pair), sl_fold_pair⟩)
    (c_fold_pair_ : PySem.W.codeIn K cd_fold_pair "fold_pair" = true)
    (k_fold_pair : PySem.W.keepIn K (.ref f_fold_pair) = true)
    (g_fold_block : PySem.W.nsIn K mainGlobals "fold_block" = some (some (.ref f_fold_block)))
    (i_fold_block : PySem.W.isFn K (.ref f_fold_block) = true)
    (l_fold_block : K.lookup f_fold_block = some ⟨oc_fold_block, od_fold_block, .func (PySem.W.fnOf "fold_block" "fold_block" (defArgs s_fold_block) (defBody s_fold_block) (defScope s_fold_block) .none kV_fold_block dc_fold_block pm_fold_block an_fold_block cd_fold_block ct_fold_block), sl_fold_block⟩)
    (c_fold_block_ : PySem.W.codeIn K cd_fold_block "fold_block" = true)
    (k_fold_block : PySem.W.keepIn K (.ref f_fold_block) = true)
    (g_fold_statement : PySem.W.nsIn K mainGlobals "fold_statement" = some (some (.ref f_fold_statement)))
    (i_fold_statement : PySem.W.isFn K (.ref f_fold_statement) = true)
    (l_fold_statement : K.lookup f_fold_statement = some ⟨oc_fold_statement, od_fold_statement, .func (PySem.W.fnOf "fold_statement" "fold_statement" (defArgs s_fold_statement) (defBody s_fold_statement) (defScope s_fold_statement) .none kV_fold_statement dc_fold_statement pm_fold_statement an_fold_statement cd_fold_statement ct_fold_statement), sl_fold_statement⟩)
    (c_fold_statement_ : PySem.W.codeIn K cd_fold_statement "fold_statement" = true)
    (k_fold_statement : PySem.W.keepIn K (.ref f_fold_statement) = true)
    (g_fold_branch : PySem.W.nsIn K mainGlobals "fold_branch" = some (some (.ref f_fold_branch)))
    (i_fold_branch : PySem.W.isFn K (.ref f_fold_branch) = true)
    (l_fold_branch : K.lookup f_fold_branch = some ⟨oc_fold_branch, od_fold_branch, .func (PySem.W.fnOf "fold_branch" "fold_branch" (defArgs s_fold_branch) (defBody s_fold_branch) (defScope s_fold_branch) .none kV_fold_branch dc_fold_branch pm_fold_branch an_fold_branch cd_fold_branch ct_fold_branch), sl_fold_branch⟩)
    (c_fold_branch_ : PySem.W.codeIn K cd_fold_branch "fold_branch" = true)
    (k_fold_branch : PySem.W.keepIn K (.ref f_fold_branch) = true)
    (g__law_pool : PySem.W.nsIn K mainGlobals "_law_pool" = some (some (.ref f__law_pool)))
    (i__law_pool : PySem.W.isFn K (.ref f__law_pool) = true)
    (l__law_pool : K.lookup f__law_pool = some ⟨oc__law_pool, od__law_pool, .func (PySem.W.fnOf "_law_pool" "_law_pool" (defArgs s__law_pool) (defBody s__law_pool) (defScope s__law_pool) .none kV__law_pool dc__law_pool pm__law_pool an__law_pool cd__law_pool ct__law_pool), sl__law_pool⟩)
    (c__law_pool_ : PySem.W.codeIn K cd__law_pool "_law_pool" = true)
    (k__law_pool : PySem.W.keepIn K (.ref f__law_pool) = true)
    (g__law_draw : PySem.W.nsIn K mainGlobals "_law_draw" = some (some (.ref f__law_draw)))
    (i__law_draw : PySem.W.isFn K (.ref f__law_draw) = true)
    (l__law_draw : K.lookup f__law_draw = some ⟨oc__law_draw, od__law_draw, .func (PySem.W.fnOf "_law_draw" "_law_draw" (defArgs s__law_draw) (defBody s__law_draw) (defScope s__law_draw) .none kV__law_draw dc__law_draw pm__law_draw an__law_draw cd__law_draw ct__law_draw), sl__law_draw⟩)
    (c__law_draw_ : PySem.W.codeIn K cd__law_draw "_law_draw" = true)
    (k__law_draw : PySem.W.keepIn K (.ref f__law_draw) = true)
    (g__law_spend : PySem.W.nsIn K mainGlobals "_law_spend" = some (some (.ref f__law_spend)))
    (i__law_spend : PySem.W.isFn K (.ref f__law_spend) = true)
    (l__law_spend : K.lookup f__law_spend = some ⟨oc__law_spend, od__law_spend, .func (PySem.W.fnOf "_law_spend" "_law_spend" (defArgs s__law_spend) (defBody s__law_spend) (defScope s__law_spend) .none kV__law_spend dc__law_spend pm__law_spend an__law_spend cd__law_spend ct__law_spend), sl__law_spend⟩)
    (c__law_spend_ : PySem.W.codeIn K cd__law_spend "_law_spend" = true)
    (k__law_spend : PySem.W.keepIn K (.ref f__law_spend) = true)
    (g__law_few : PySem.W.nsIn K mainGlobals "_law_few" = some (some (.ref f__law_few)))
    (i__law_few : PySem.W.isFn K (.ref f__law_few) = true)
    (l__law_few : K.lookup f__law_few = some ⟨oc__law_few, od__law_few, .func (PySem.W.fnOf "_law_few" "_law_few" (defArgs s__law_few) (defBody s__law_few) (defScope s__law_few) .none kV__law_few dc__law_few pm__law_few an__law_few cd__law_few ct__law_few), sl__law_few⟩)
    (c__law_few_ : PySem.W.codeIn K cd__law_few "_law_few" = true)
    (k__law_few : PySem.W.keepIn K (.ref f__law_few) = true)
    (g__law_number : PySem.W.nsIn K mainGlobals "_law_number" = some (some (.ref f__law_number)))
    (i__law_number : PySem.W.isFn K (.ref f__law_number) = true)
    (l__law_number : K.lookup f__law_number = some ⟨oc__law_number, od__law_number, .func (PySem.W.fnOf "_law_number" "_law_number" (defArgs s__law_number) (defBody s__law_number) (defScope s__law_number) .none kV__law_number dc__law_number pm__law_number an__law_number cd__law_number ct__law_number), sl__law_number⟩)
    (c__law_number_ : PySem.W.codeIn K cd__law_number "_law_number" = true)
    (k__law_number : PySem.W.keepIn K (.ref f__law_number) = true)
    (g__law_same : PySem.W.nsIn K mainGlobals "_law_same" = some (some (.ref f__law_same)))
    (i__law_same : PySem.W.isFn K (.ref f__law_same) = true)
    (l__law_same : K.lookup f__law_same = some ⟨oc__law_same, od__law_same, .func (PySem.W.fnOf "_law_same" "_law_same" (defArgs s__law_same) (defBody s__law_same) (defScope s__law_same) .none kV__law_same dc__law_same pm__law_same an__law_same cd__law_same ct__law_same), sl__law_same⟩)
    (c__law_same_ : PySem.W.codeIn K cd__law_same "_law_same" = true)
    (k__law_same : PySem.W.keepIn K (.ref f__law_same) = true)
    (g__law_keys : PySem.W.nsIn K mainGlobals "_law_keys" = some (some (.ref f__law_keys)))
    (i__law_keys : PySem.W.isFn K (.ref f__law_keys) = true)
    (l__law_keys : K.lookup f__law_keys = some ⟨oc__law_keys, od__law_keys, .func (PySem.W.fnOf "_law_keys" "_law_keys" (defArgs s__law_keys) (defBody s__law_keys) (defScope s__law_keys) .none kV__law_keys dc__law_keys pm__law_keys an__law_keys cd__law_keys ct__law_keys), sl__law_keys⟩)
    (c__law_keys_ : PySem.W.codeIn K cd__law_keys "_law_keys" = true)
    (k__law_keys : PySem.W.keepIn K (.ref f__law_keys) = true)
    (g__law_name : PySem.W.nsIn K mainGlobals "_law_name" = some (some (.ref f__law_name)))
    (i__law_name : PySem.W.isFn K (.ref f__law_name) = true)
    (l__law_name : K.lookup f__law_name = some ⟨oc__law_name, od__law_name, .func (PySem.W.fnOf "_law_name" "_law_name" (defArgs s__law_name) (defBody s__law_name) (defScope s__law_name) .none kV__law_name dc__law_name pm__law_name an__law_name cd__law_name ct__law_name), sl__law_name⟩)
    (c__law_name_ : PySem.W.codeIn K cd__law_name "_law_name" = true)
    (k__law_name : PySem.W.keepIn K (.ref f__law_name) = true)
    (g__law_names : PySem.W.nsIn K mainGlobals "_law_names" = some (some (.ref f__law_names)))
    (i__law_names : PySem.W.isFn K (.ref f__law_names) = true)
    (l__law_names : K.lookup f__law_names = some ⟨oc__law_names, od__law_names, .func (PySem.W.fnOf "_law_names" "_law_names" (defArgs s__law_names) (defBody s__law_names) (defScope s__law_names) .none kV__law_names dc__law_names pm__law_names an__law_names cd__law_names ct__law_names), sl__law_names⟩)
    (c__law_names_ : PySem.W.codeIn K cd__law_names "_law_names" = true)
    (k__law_names : PySem.W.keepIn K (.ref f__law_names) = true)
    (g__law_expression : PySem.W.nsIn K mainGlobals "_law_expression" = some (some (.ref f__law_expression)))
    (i__law_expression : PySem.W.isFn K (.ref f__law_expression) = true)
    (l__law_expression : K.lookup f__law_expression = some ⟨oc__law_expression, od__law_expression, .func (PySem.W.fnOf "_law_expression" "_law_expression" (defArgs s__law_expression) (defBody s__law_expression) (defScope s__law_expression) .none kV__law_expression dc__law_expression pm__law_expression an__law_expression cd__law_expression ct__law_expression), sl__law_expression⟩)
    (c__law_expression_ : PySem.W.codeIn K cd__law_expression "_law_expression" = true)
    (k__law_expression : PySem.W.keepIn K (.ref f__law_expression) = true)
    (g__law_combine : PySem.W.nsIn K mainGlobals "_law_combine" = some (some (.ref f__law_combine)))
    (i__law_combine : PySem.W.isFn K (.ref f__law_combine) = true)
    (l__law_combine : K.lookup f__law_combine = some ⟨oc__law_combine, od__law_combine, .func (PySem.W.fnOf "_law_combine" "_law_combine" (defArgs s__law_combine) (defBody s__law_combine) (defScope s__law_combine) .none kV__law_combine dc__law_combine pm__law_combine an__law_combine cd__law_combine ct__law_combine), sl__law_combine⟩)
    (c__law_combine_ : PySem.W.codeIn K cd__law_combine "_law_combine" = true)
    (k__law_combine : PySem.W.keepIn K (.ref f__law_combine) = true)
    (g__law_fold_pair : PySem.W.nsIn K mainGlobals "_law_fold_pair" = some (some (.ref f__law_fold_pair)))
    (i__law_fold_pair : PySem.W.isFn K (.ref f__law_fold_pair) = true)
    (l__law_fold_pair : K.lookup f__law_fold_pair = some ⟨oc__law_fold_pair, od__law_fold_pair, .func (PySem.W.fnOf "_law_fold_pair" "_law_fold_pair" (defArgs s__law_fold_pair) (defBody s__law_fold_pair) (defScope s__law_fold_pair) .none kV__law_fold_pair dc__law_fold_pair pm__law_fold_pair an__law_fold_pair cd__law_fold_pair ct__law_fold_pair), sl__law_fold_pair⟩)
    (c__law_fold_pair_ : PySem.W.codeIn K cd__law_fold_pair "_law_fold_pair" = true)
    (k__law_fold_pair : PySem.W.keepIn K (.ref f__law_fold_pair) = true)
    (g__law_fold : PySem.W.nsIn K mainGlobals "_law_fold" = some (some (.ref f__law_fold)))
    (i__law_fold : PySem.W.isFn K (.ref f__law_fold) = true)
    (l__law_fold : K.lookup f__law_fold = some ⟨oc__law_fold, od__law_fold, .func (PySem.W.fnOf "_law_fold" "_law_fold" (defArgs s__law_fold) (defBody s__law_fold) (defScope s__law_fold) .none kV__law_fold dc__law_fold pm__law_fold an__law_fold cd__law_fold ct__law_fold), sl__law_fold⟩)
    (c__law_fold_ : PySem.W.codeIn K cd__law_fold "_law_fold" = true)
    (k__law_fold : PySem.W.keepIn K (.ref f__law_fold) = true)
    (g__law_block : PySem.W.nsIn K mainGlobals "_law_block" = some (some (.ref f__law_block)))
    (i__law_block : PySem.W.isFn K (.ref f__law_block) = true)
    (l__law_block : K.lookup f__law_block = some ⟨oc__law_block, od__law_block, .func (PySem.W.fnOf "_law_block" "_law_block" (defArgs s__law_block) (defBody s__law_block) (defScope s__law_block) .none kV__law_block dc__law_block pm__law_block an__law_block cd__law_block ct__law_block), sl__law_block⟩)
    (c__law_block_ : PySem.W.codeIn K cd__law_block "_law_block" = true)
    (k__law_block : PySem.W.keepIn K (.ref f__law_block) = true)
    (g__law_statement : PySem.W.nsIn K mainGlobals "_law_statement" = some (some (.ref f__law_statement)))
    (i__law_statement : PySem.W.isFn K (.ref f__law_statement) = true)
    (l__law_statement : K.lookup f__law_statement = some ⟨oc__law_statement, od__law_statement, .func (PySem.W.fnOf "_law_statement" "_law_statement" (defArgs s__law_statement) (defBody s__law_statement) (defScope s__law_statement) .none kV__law_statement dc__law_statement pm__law_statement an__law_statement cd__law_statement ct__law_statement), sl__law_statement⟩)
    (c__law_statement_ : PySem.W.codeIn K cd__law_statement "_law_statement" = true)
    (k__law_statement : PySem.W.keepIn K (.ref f__law_statement) = true)
    (g__law_fold_statement : PySem.W.nsIn K mainGlobals "_law_fold_statement" = some (some (.ref f__law_fold_statement)))
    (i__law_fold_statement : PySem.W.isFn K (.ref f__law_fold_statement) = true)
    (l__law_fold_statement : K.lookup f__law_fold_statement = some ⟨oc__law_fold_statement, od__law_fold_statement, .func (PySem.W.fnOf "_law_fold_statement" "_law_fold_statement" (defArgs s__law_fold_statement) (defBody s__law_fold_statement) (defScope s__law_fold_statement) .none kV__law_fold_statement dc__law_fold_statement pm__law_fold_statement an__law_fold_statement cd__law_fold_statement ct__law_fold_statement), sl__law_fold_statement⟩)
    (c__law_fold_statement_ : PySem.W.codeIn K cd__law_fold_statement "_law_fold_statement" = true)
    (k__law_fold_statement : PySem.W.keepIn K (.ref f__law_fold_statement) = true)
    (g__law_fold_block : PySem.W.nsIn K mainGlobals "_law_fold_block" = some (some (.ref f__law_fold_block)))
    (i__law_fold_block : PySem.W.isFn K (.ref f__law_fold_block) = true)
    (l__law_fold_block : K.lookup f__law_fold_block = some ⟨oc__law_fold_block, od__law_fold_block, .func (PySem.W.fnOf "_law_fold_block" "_law_fold_block" (defArgs s__law_fold_block) (defBody s__law_fold_block) (defScope s__law_fold_block) .none kV__law_fold_block dc__law_fold_block pm__law_fold_block an__law_fold_block cd__law_fold_block ct__law_fold_block), sl__law_fold_block⟩)
    (c__law_fold_block_ : PySem.W.codeIn K cd__law_fold_block "_law_fold_block" = true)
    (k__law_fold_block : PySem.W.keepIn K (.ref f__law_fold_block) = true)
    (g_law : PySem.W.nsIn K mainGlobals "law" = some (some (.ref f_law)))
    (i_law : PySem.W.isFn K (.ref f_law) = true)
    (l_law : K.lookup f_law = some ⟨oc_law, od_law, .func (PySem.W.fnOf "law" "law" (defArgs s_law) (defBody s_law) (defScope s_law) .none kV_law dc_law pm_law an_law cd_law ct_law), sl_law⟩)
    (c_law_ : PySem.W.codeIn K cd_law "law" = true)
    (k_law : PySem.W.keepIn K (.ref f_law) = true)
    (n_int : PySem.W.nsIn K mainGlobals "int" = some none)
    (n_max : PySem.W.nsIn K mainGlobals "max" = some none)
    (n_tuple : PySem.W.nsIn K mainGlobals "tuple" = some none)
    (n_list : PySem.W.nsIn K mainGlobals "list" = some none)
    (n_len : PySem.W.nsIn K mainGlobals "len" = some none)
    (n_min : PySem.W.nsIn K mainGlobals "min" = some none)
    (n_isinstance : PySem.W.nsIn K mainGlobals "isinstance" = some none)
    (n_range : PySem.W.nsIn K mainGlobals "range" = some none)
    (n_bool : PySem.W.nsIn K mainGlobals "bool" = some none)
    (n_str : PySem.W.nsIn K mainGlobals "str" = some none)
    (cg_GREATEST : PySem.W.nsIn K mainGlobals "GREATEST" = some (some (.int 65535 kk_GREATEST)))
    (cg_SIGNS : PySem.W.nsIn K mainGlobals "SIGNS" = some (some (.ref k_SIGNS)))
    (cl_k_SIGNS : K.lookup k_SIGNS = some ⟨.type "tuple", kd_SIGNS, .seq #[.str "+" kk0_SIGNS, .str "-" kk1_SIGNS, .str "*" kk2_SIGNS, .str "/" kk3_SIGNS, .str "mod" kk4_SIGNS, .str "<" kk5_SIGNS, .str "=" kk6_SIGNS] kn_SIGNS, ks_SIGNS⟩)
    (cg_ZERO : PySem.W.nsIn K mainGlobals "ZERO" = some (some (.ref k_ZERO)))
    (cl_k_ZERO : K.lookup k_ZERO = some ⟨.type "tuple", kd_ZERO, .seq #[.str "number" kk0_ZERO, .int 0 kk1_ZERO] kn_ZERO, ks_ZERO⟩)
    (cg_ONE : PySem.W.nsIn K mainGlobals "ONE" = some (some (.ref k_ONE)))
    (cl_k_ONE : K.lookup k_ONE = some ⟨.type "tuple", kd_ONE, .seq #[.str "number" kk0_ONE, .int 1 kk1_ONE] kn_ONE, ks_ONE⟩) :
    ∃ fd : FuncData, (∀ (s : Shared) (v : Value), BindsTo s fd ⟨[v], []⟩ [("_law_script", v)]) ∧ ∀ base : Heap, K.In base → base.Ns mainGlobals mg → FnOk P w K mg base CX0 32 fa fd ["_law_script"] (sp_law K) := by
  have e := hfa.symm.trans (PySem.W.mg_of X G g_law)
  cases e
  have F_combine := fun_mk (st := s_combine) l_combine c_combine_ k_combine
  have F_fold_expression := fun_mk (st := s_fold_expression) l_fold_expression c_fold_expression_ k_fold_expression
  have F_fold_pair := fun_mk (st := s_fold_pair) l_fold_pair c_fold_pair_ k_fold_pair
  have F_fold_block := fun_mk (st := s_fold_block) l_fold_block c_fold_block_ k_fold_block
  have F_fold_statement := fun_mk (st := s_fold_statement) l_fold_statement c_fold_statement_ k_fold_statement
  have F_fold_branch := fun_mk (st := s_fold_branch) l_fold_branch c_fold_branch_ k_fold_branch
  have F__law_pool := fun_mk (st := s__law_pool) l__law_pool c__law_pool_ k__law_pool
  have F__law_draw := fun_mk (st := s__law_draw) l__law_draw c__law_draw_ k__law_draw
  have F__law_spend := fun_mk (st := s__law_spend) l__law_spend c__law_spend_ k__law_spend
  have F__law_few := fun_mk (st := s__law_few) l__law_few c__law_few_ k__law_few
  have F__law_number := fun_mk (st := s__law_number) l__law_number c__law_number_ k__law_number
  have F__law_same := fun_mk (st := s__law_same) l__law_same c__law_same_ k__law_same
  have F__law_keys := fun_mk (st := s__law_keys) l__law_keys c__law_keys_ k__law_keys
  have F__law_name := fun_mk (st := s__law_name) l__law_name c__law_name_ k__law_name
  have F__law_names := fun_mk (st := s__law_names) l__law_names c__law_names_ k__law_names
  have F__law_expression := fun_mk (st := s__law_expression) l__law_expression c__law_expression_ k__law_expression
  have F__law_combine := fun_mk (st := s__law_combine) l__law_combine c__law_combine_ k__law_combine
  have F__law_fold_pair := fun_mk (st := s__law_fold_pair) l__law_fold_pair c__law_fold_pair_ k__law_fold_pair
  have F__law_fold := fun_mk (st := s__law_fold) l__law_fold c__law_fold_ k__law_fold
  have F__law_block := fun_mk (st := s__law_block) l__law_block c__law_block_ k__law_block
  have F__law_statement := fun_mk (st := s__law_statement) l__law_statement c__law_statement_ k__law_statement
  have F__law_fold_statement := fun_mk (st := s__law_fold_statement) l__law_fold_statement c__law_fold_statement_ k__law_fold_statement
  have F__law_fold_block := fun_mk (st := s__law_fold_block) l__law_fold_block c__law_fold_block_ k__law_fold_block
  have F_law := fun_mk (st := s_law) l_law c_law_ k_law
  have T : Txt P K mg ⟨f_combine, _, f_fold_expression, _, f_fold_pair, _, f_fold_block, _, f_fold_statement, _, f_fold_branch, _, f__law_pool, _, f__law_draw, _, f__law_spend, _, f__law_few, _, f__law_number, _, f__law_same, _, f__law_keys, _, f__law_name, _, f__law_names, _, f__law_expression, _, f__law_combine, _, f__law_fold_pair, _, f__law_fold, _, f__law_block, _, f__law_statement, _, f__law_fold_statement, _, f__law_fold_block, _, f_law, _, k_SIGNS, k_ZERO, k_ONE⟩ := ⟨F_combine,
    (F_combine.binds (ps := ["sign", "left", "right"]) fun _ _ _ _ _ _ us hl => match us, hl with | [_, _, _], _ => rfl),
    (PySem.W.mg_of X G g_combine),
    F_fold_expression,
    (F_fold_expression.binds (ps := ["expression", "on"]) fun _ _ _ _ _ _ us hl => match us, hl with | [_, _], _ => rfl),
    (PySem.W.mg_of X G g_fold_expression),
    F_fold_pair,
    (F_fold_pair.binds (ps := ["sign", "left", "right"]) fun _ _ _ _ _ _ us hl => match us, hl with | [_, _, _], _ => rfl),
    (PySem.W.mg_of X G g_fold_pair),
    F_fold_block,
    (F_fold_block.binds (ps := ["block", "on"]) fun _ _ _ _ _ _ us hl => match us, hl with | [_, _], _ => rfl),
    (PySem.W.mg_of X G g_fold_block),
    F_fold_statement,
    (F_fold_statement.binds (ps := ["statement", "on"]) fun _ _ _ _ _ _ us hl => match us, hl with | [_, _], _ => rfl),
    (PySem.W.mg_of X G g_fold_statement),
    F_fold_branch,
    (F_fold_branch.binds (ps := ["statement", "on"]) fun _ _ _ _ _ _ us hl => match us, hl with | [_, _], _ => rfl),
    (PySem.W.mg_of X G g_fold_branch),
    F__law_pool,
    (F__law_pool.binds (ps := ["_law_script", "_law_budget"]) fun _ _ _ _ _ _ us hl => match us, hl with | [_, _], _ => rfl),
    (PySem.W.mg_of X G g__law_pool),
    F__law_draw,
    (F__law_draw.binds (ps := ["_law_pool_here", "_law_size"]) fun _ _ _ _ _ _ us hl => match us, hl with | [_, _], _ => rfl),
    (PySem.W.mg_of X G g__law_draw),
    F__law_spend,
    (F__law_spend.binds (ps := ["_law_pool_here"]) fun _ _ _ _ _ _ us hl => match us, hl with | [_], _ => rfl),
    (PySem.W.mg_of X G g__law_spend),
    F__law_few,
    (F__law_few.binds (ps := ["_law_pool_here", "_law_most"]) fun _ _ _ _ _ _ us hl => match us, hl with | [_, _], _ => rfl),
    (PySem.W.mg_of X G g__law_few),
    F__law_number,
    (F__law_number.binds (ps := ["_law_pool_here"]) fun _ _ _ _ _ _ us hl => match us, hl with | [_], _ => rfl),
    (PySem.W.mg_of X G g__law_number),
    F__law_same,
    (F__law_same.binds (ps := ["_law_actual", "_law_due"]) fun _ _ _ _ _ _ us hl => match us, hl with | [_, _], _ => rfl),
    (PySem.W.mg_of X G g__law_same),
    F__law_keys,
    (F__law_keys.binds (ps := []) fun _ _ _ _ _ _ us hl => match us, hl with | [], _ => rfl),
    (PySem.W.mg_of X G g__law_keys),
    F__law_name,
    (F__law_name.binds (ps := ["_law_pool_here", "_law_taken"]) fun _ _ _ _ _ _ us hl => match us, hl with | [_, _], _ => rfl),
    (PySem.W.mg_of X G g__law_name),
    F__law_names,
    (F__law_names.binds (ps := ["_law_pool_here", "_law_most"]) fun _ _ _ _ _ _ us hl => match us, hl with | [_, _], _ => rfl),
    (PySem.W.mg_of X G g__law_names),
    F__law_expression,
    (F__law_expression.binds (ps := ["_law_pool_here", "_law_names_here", "_law_picks", "_law_deep"]) fun _ _ _ _ _ _ us hl => match us, hl with | [_, _, _, _], _ => rfl),
    (PySem.W.mg_of X G g__law_expression),
    F__law_combine,
    (F__law_combine.binds (ps := ["_law_sign", "_law_a", "_law_b"]) fun _ _ _ _ _ _ us hl => match us, hl with | [_, _, _], _ => rfl),
    (PySem.W.mg_of X G g__law_combine),
    F__law_fold_pair,
    (F__law_fold_pair.binds (ps := ["_law_sign", "_law_a", "_law_b"]) fun _ _ _ _ _ _ us hl => match us, hl with | [_, _, _], _ => rfl),
    (PySem.W.mg_of X G g__law_fold_pair),
    F__law_fold,
    (F__law_fold.binds (ps := ["_law_due", "_law_on"]) fun _ _ _ _ _ _ us hl => match us, hl with | [_, _], _ => rfl),
    (PySem.W.mg_of X G g__law_fold),
    F__law_block,
    (F__law_block.binds (ps := ["_law_pool_here", "_law_names_here", "_law_picks", "_law_deep", "_law_state"]) fun _ _ _ _ _ _ us hl => match us, hl with | [_, _, _, _, _], _ => rfl),
    (PySem.W.mg_of X G g__law_block),
    F__law_statement,
    (F__law_statement.binds (ps := ["_law_pool_here", "_law_names_here", "_law_picks", "_law_deep", "_law_state"]) fun _ _ _ _ _ _ us hl => match us, hl with | [_, _, _, _, _], _ => rfl),
    (PySem.W.mg_of X G g__law_statement),
    F__law_fold_statement,
    (F__law_fold_statement.binds (ps := ["_law_due", "_law_on"]) fun _ _ _ _ _ _ us hl => match us, hl with | [_, _], _ => rfl),
    (PySem.W.mg_of X G g__law_fold_statement),
    F__law_fold_block,
    (F__law_fold_block.binds (ps := ["_law_block_here", "_law_on"]) fun _ _ _ _ _ _ us hl => match us, hl with | [_, _], _ => rfl),
    (PySem.W.mg_of X G g__law_fold_block),
    F_law,
    (F_law.binds (ps := ["_law_script"]) fun _ _ _ _ _ _ us hl => match us, hl with | [_], _ => rfl),
    (PySem.W.mg_of X G g_law),
    (PySem.W.mg_none_of X G n_int),
    (PySem.W.mg_none_of X G n_max),
    (PySem.W.mg_none_of X G n_tuple),
    (PySem.W.mg_none_of X G n_list),
    (PySem.W.mg_none_of X G n_len),
    (PySem.W.mg_none_of X G n_min),
    (PySem.W.mg_none_of X G n_isinstance),
    (PySem.W.mg_none_of X G n_range),
    (PySem.W.mg_none_of X G n_bool),
    (PySem.W.mg_none_of X G n_str),
    ⟨_, PySem.W.mg_of X G cg_GREATEST⟩,
    (PySem.W.mg_of X G cg_SIGNS),
    (fun _ => .inr ⟨_, _, _, cl_k_SIGNS, rfl, rfl, by rw [sizeLine_eq]; show 7 ≤ _; decide, (.cons ⟨_, rfl⟩ (.cons ⟨_, rfl⟩ (.cons ⟨_, rfl⟩ (.cons ⟨_, rfl⟩ (.cons ⟨_, rfl⟩ (.cons ⟨_, rfl⟩ (.cons ⟨_, rfl⟩ .nil)))))))⟩),
    (PySem.W.mg_of X G cg_ZERO),
    (fun _ => .inr ⟨_, _, _, cl_k_ZERO, rfl, rfl, by rw [sizeLine_eq]; show 2 ≤ _; decide, (.cons ⟨_, rfl⟩ (.cons ⟨_, rfl⟩ .nil))⟩),
    (PySem.W.mg_of X G cg_ONE),
    (fun _ => .inr ⟨_, _, _, cl_k_ONE, rfl, rfl, by rw [sizeLine_eq]; show 2 ≤ _; decide, (.cons ⟨_, rfl⟩ (.cons ⟨_, rfl⟩ .nil))⟩)⟩
  exact ⟨PySem.W.fnOf "law" "law" (defArgs s_law) (defBody s_law) (defScope s_law) .none kV_law dc_law pm_law an_law cd_law ct_law, fun s v => .of_eq rfl, fun base _ _ => G_law (P := P) (w := w) (base := base) T⟩
theorem walk {l : PySem.W.OpenLaw} {q : Program} {loose : List Str} {XP : (Str → Option Value) → Heap → Prop} {YP : World → Heap → Prop} {d : DefRec} {K : Params → PySem.W.Frag} (hn : l.most = some 63) (hdf : d.params.defaults = [])
    (hY : ∀ (w : World) (h : Heap), YP w h → (K w.params).In h)
    (F : ∀ (w : World) (mg : Str → Option Value) (fa : Addr) (h : Heap), (K w.params).In h → h.Ns mainGlobals mg → mg d.name = some (.ref fa) →
      ∃ fd : FuncData, (∀ (s : Shared) (u : Value), BindsTo s fd ⟨[u], []⟩ [("_law_script", u)]) ∧ ∀ base : Heap, (K w.params).In base → base.Ns mainGlobals mg → FnOk l.prog w (K w.params) mg base CX0 32 fa fd ["_law_script"] (sp_law (K w.params))) :
    PySem.W.WalkO q loose XP YP l.row.toRowW d [] (fun f vs => PySem.call f vs) :=
  L2.walk_of (n := 63) (k := 32) (x := "_law_script") (CX := fun _ => CX0) (sp := fun w => sp_law (K w.params)) hn (by decide) hdf ⟨rfl, by decide, by decide⟩ hY F (fun _ _ a ns hl _ hS => ⟨a, ns, rfl, hS, hl, fun _ => rfl⟩) fun _ _ _ _ _ z => z
end K24
open PySem PySem.W PyProof.Rows
set_option maxRecDepth 100000 in
set_option maxHeartbeats 0 in
theorem PySem.Challenge.cw_sureplay_k24_folded_statements_holds : PySem.Challenge.rw_sureplay_k24_folded_statements.Holds := by
  w_on; o_law; k_head; (case hw => w_witness2)
  k_fill
  refine K24.walk (l := PySem.Challenge.rw_sureplay_k24_folded_statements) rfl rfl (fun w h Y => PySem.W.kIn_of Y) ?F
  case F =>
    intro w mg fa h KX G hmg
    refine' K24.all_mk KX G hmg ?g_combine ?i_combine ?l_combine ?c_combine_ ?k_combine ?g_fold_expression ?i_fold_expression ?l_fold_expression ?c_fold_expression_ ?k_fold_expression ?g_fold_pair ?i_fold_pair ?l_fold_pair ?c_fold_pair_ ?k_fold_pair ?g_fold_block ?i_fold_block ?l_fold_block ?c_fold_block_ ?k_fold_block ?g_fold_statement ?i_fold_statement ?l_fold_statement ?c_fold_statement_ ?k_fold_statement ?g_fold_branch ?i_fold_branch ?l_fold_branch ?c_fold_branch_ ?k_fold_branch ?g__law_pool ?i__law_pool ?l__law_pool ?c__law_pool_ ?k__law_pool ?g__law_draw ?i__law_draw ?l__law_draw ?c__law_draw_ ?k__law_draw ?g__law_spend ?i__law_spend ?l__law_spend ?c__law_spend_ ?k__law_spend ?g__law_few ?i__law_few ?l__law_few ?c__law_few_ ?k__law_few ?g__law_number ?i__law_number ?l__law_number ?c__law_number_ ?k__law_number ?g__law_same ?i__law_same ?l__law_same ?c__law_same_ ?k__law_same ?g__law_keys ?i__law_keys ?l__law_keys ?c__law_keys_ ?k__law_keys ?g__law_name ?i__law_name ?l__law_name ?c__law_name_ ?k__law_name ?g__law_names ?i__law_names ?l__law_names ?c__law_names_ ?k__law_names ?g__law_expression ?i__law_expression ?l__law_expression ?c__law_expression_ ?k__law_expression ?g__law_combine ?i__law_combine ?l__law_combine ?c__law_combine_ ?k__law_combine ?g__law_fold_pair ?i__law_fold_pair ?l__law_fold_pair ?c__law_fold_pair_ ?k__law_fold_pair ?g__law_fold ?i__law_fold ?l__law_fold ?c__law_fold_ ?k__law_fold ?g__law_block ?i__law_block ?l__law_block ?c__law_block_ ?k__law_block ?g__law_statement ?i__law_statement ?l__law_statement ?c__law_statement_ ?k__law_statement ?g__law_fold_statement ?i__law_fold_statement ?l__law_fold_statement ?c__law_fold_statement_ ?k__law_fold_statement ?g__law_fold_block ?i__law_fold_block ?l__law_fold_block ?c__law_fold_block_ ?k__law_fold_block ?g_law ?i_law ?l_law ?c_law_ ?k_law ?n_int ?n_max ?n_tuple ?n_list ?n_len ?n_min ?n_isinstance ?n_range ?n_bool ?n_str ?cg_GREATEST ?cg_SIGNS ?cl_k_SIGNS ?cg_ZERO ?cl_k_ZERO ?cg_ONE ?cl_k_ONE
    (case g_combine => k_is)
    (case i_combine => k_is)
    (case l_combine => k_is)
    (case c_combine_ => k_is)
    (case k_combine => k_is)
    (case g_fold_expression => k_is)
    (case i_fold_expression => k_is)
    (case l_fold_expression => k_is)
    (case c_fold_expression_ => k_is)
    (case k_fold_expression => k_is)
    (case g_fold_pair => k_is)
    (case i_fold_pair => k_is)
    (case l_fold_pair => k_is)
    (case c_fold_pair_ => k_is)
    (case k_fold_pair => k_is)
    (case g_fold_block => k_is)
    (case i_fold_block => k_is)
    (case l_fold_block => k_is)
    (case c_fold_block_ => k_is)
    (case k_fold_block => k_is)
    (case g_fold_statement => k_is)
    (case i_fold_statement => k_is)
    (case l_fold_statement => k_is)
    (case c_fold_statement_ => k_is)
    (case k_fold_statement => k_is)
    (case g_fold_branch => k_is)
    (case i_fold_branch => k_is)
    (case l_fold_branch => k_is)
    (case c_fold_branch_ => k_is)
    (case k_fold_branch => k_is)
    (case g__law_pool => k_is)
    (case i__law_pool => k_is)
    (case l__law_pool => k_is)
    (case c__law_pool_ => k_is)
    (case k__law_pool => k_is)
    (case g__law_draw => k_is)
    (case i__law_draw => k_is)
    (case l__law_draw => k_is)
    (case c__law_draw_ => k_is)
    (case k__law_draw => k_is)
    (case g__law_spend => k_is)
    (case i__law_spend => k_is)
    (case l__law_spend => k_is)
    (case c__law_spend_ => k_is)
    (case k__law_spend => k_is)
    (case g__law_few => k_is)
    (case i__law_few => k_is)
    (case l__law_few => k_is)
    (case c__law_few_ => k_is)
    (case k__law_few => k_is)
    (case g__law_number => k_is)
    (case i__law_number => k_is)
    (case l__law_number => k_is)
    (case c__law_number_ => k_is)
    (case k__law_number => k_is)
    (case g__law_same => k_is)
    (case i__law_same => k_is)
    (case l__law_same => k_is)
    (case c__law_same_ => k_is)
    (case k__law_same => k_is)
    (case g__law_keys => k_is)
    (case i__law_keys => k_is)
    (case l__law_keys => k_is)
    (case c__law_keys_ => k_is)
    (case k__law_keys => k_is)
    (case g__law_name => k_is)
    (case i__law_name => k_is)
    (case l__law_name => k_is)
    (case c__law_name_ => k_is)
    (case k__law_name => k_is)
    (case g__law_names => k_is)
    (case i__law_names => k_is)
    (case l__law_names => k_is)
    (case c__law_names_ => k_is)
    (case k__law_names => k_is)
    (case g__law_expression => k_is)
    (case i__law_expression => k_is)
    (case l__law_expression => k_is)
    (case c__law_expression_ => k_is)
    (case k__law_expression => k_is)
    (case g__law_combine => k_is)
    (case i__law_combine => k_is)
    (case l__law_combine => k_is)
    (case c__law_combine_ => k_is)
    (case k__law_combine => k_is)
    (case g__law_fold_pair => k_is)
    (case i__law_fold_pair => k_is)
    (case l__law_fold_pair => k_is)
    (case c__law_fold_pair_ => k_is)
    (case k__law_fold_pair => k_is)
    (case g__law_fold => k_is)
    (case i__law_fold => k_is)
    (case l__law_fold => k_is)
    (case c__law_fold_ => k_is)
    (case k__law_fold => k_is)
    (case g__law_block => k_is)
    (case i__law_block => k_is)
    (case l__law_block => k_is)
    (case c__law_block_ => k_is)
    (case k__law_block => k_is)
    (case g__law_statement => k_is)
    (case i__law_statement => k_is)
    (case l__law_statement => k_is)
    (case c__law_statement_ => k_is)
    (case k__law_statement => k_is)
    (case g__law_fold_statement => k_is)
    (case i__law_fold_statement => k_is)
    (case l__law_fold_statement => k_is)
    (case c__law_fold_statement_ => k_is)
    (case k__law_fold_statement => k_is)
    (case g__law_fold_block => k_is)
    (case i__law_fold_block => k_is)
    (case l__law_fold_block => k_is)
    (case c__law_fold_block_ => k_is)
    (case k__law_fold_block => k_is)
    (case g_law => k_is)
    (case i_law => k_is)
    (case l_law => k_is)
    (case c_law_ => k_is)
    (case k_law => k_is)
    (case n_int => k_is)
    (case n_max => k_is)
    (case n_tuple => k_is)
    (case n_list => k_is)
    (case n_len => k_is)
    (case n_min => k_is)
    (case n_isinstance => k_is)
    (case n_range => k_is)
    (case n_bool => k_is)
    (case n_str => k_is)
    (case cg_GREATEST => k_is)
    (case cg_SIGNS => k_is)
    (case cl_k_SIGNS => k_is)
    (case cg_ZERO => k_is)
    (case cl_k_ZERO => k_is)
    (case cg_ONE => k_is)
    (case cl_k_ONE => k_is)
#print axioms PySem.Challenge.cw_sureplay_k24_folded_statements_holds
