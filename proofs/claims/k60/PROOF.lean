import PyProof.Rows.All
import Wide.All
import OpenK.AllK
import Wide.FinOn
import HandS.Iter
import HandS.Style
import HandS.ForMost
import HandS.Wide
import HandS.IsInst
import HandS.TupAny
import HandS.Evl
import HandS.Codes
import HandS.Gcd
import HandS.OwnEq
import HandS.Defaults
import PySem.Challenge.RW_sureplay_k60_lots_that_were_given
set_option Elab.async false
set_option linter.all false
set_option maxRecDepth 100000
set_option maxHeartbeats 4000000
set_option Elab.async false
set_option linter.all false
set_option maxRecDepth 100000
/-! Own lemmas: stepping through readings (go_), tests, heaps. No program in sight. -/
namespace Gx
open PySem PySem.Spec PyProof.Rows L2

/-! ### statements -/
section
variable {D : Ends} {σ : L2.St} {H : Hp} {t u c : TS} {te ta tb tc tl th : TE} {i : Nat} {Q : VK} {QB : Bool → Hp → Prop}
theorem go_seq (h : t { D with nx := u D } σ H) : tSeq t u D σ H := h
theorem go_cut (M : L2.St → Hp → Prop) (h : t { D with nx := M } σ H) (k : ∀ σ' H', M σ' H' → u D σ' H') : Evl.tCut t u D σ H := ⟨M, h, k⟩
theorem go_asg {g : TG} (h : te σ H fun x H1 => g x σ H1 D.nx) : tAsg te g D σ H := h
theorem go_name {v : V} {R : L2.St → Hp → Prop} (h : R (σ.set i (some v)) H) : gName i v σ H R := h
theorem go_drop (h : te σ H fun _ H1 => D.nx σ H1) : tDrop te D σ H := h
theorem go_ret (h : te σ H D.rt) : tRet te D σ H := h
theorem go_retN (h : D.rt .non H) : tRetN D σ H := h
theorem go_next (h : D.nx σ H) : tNext D σ H := h
theorem go_brk (h : D.bk σ H) : tBreak D σ H := h
theorem go_cont (h : D.ct σ H) : tCont D σ H := h
theorem go_if {tt : TT} (h : tt σ H fun b H1 => if b = true then t D σ H1 else u D σ H1) : tIfS tt t u D σ H := h
/-! ### expressions -/
theorem go_var {v : V} (e : σ[i]? = some (some v)) (h : Q v H) : tVar i σ H Q := ⟨v, e, h⟩
theorem go_c {v : V} (h : Q v H) : tC v σ H Q := h
theorem go_op {r : R2} (h : ta σ H fun x H1 => tb σ H1 fun y H2 => r x y H2 Q) : tOp r ta tb σ H Q := h
theorem go_un {r : V → Hp → VK → Prop} (h : ta σ H fun x H1 => r x H1 Q) : tUn r ta σ H Q := h
theorem go_rI0 {g : Int → Int → V} {a b : Int} (h : Q (g a b) H) : rI0 g (.int a) (.int b) H Q := ⟨a, b, rfl, rfl, h⟩
theorem go_rI {C : Int → Int → Prop} {g : Int → Int → V} {a b : Int} (hc : C a b) (h : Q (g a b) H) : rI C g (.int a) (.int b) H Q := ⟨a, b, rfl, rfl, hc, h⟩
theorem go_rU {g : Int → V} {a : Int} (h : Q (g a) H) : rU g (.int a) H Q := ⟨a, rfl, h⟩
theorem go_eqI {a b : Int} (h : Q (.bl (decide (a = b))) H) : rEq (.int a) (.int b) H Q := ⟨rfl, by simpa using h⟩
theorem go_neI {a b : Int} (h : Q (.bl (!decide (a = b))) H) : rNe (.int a) (.int b) H Q := ⟨rfl, by simpa using h⟩
theorem go_eqS {a b : Str} (h : Q (.bl (decide (a = b))) H) : rEq (.str a) (.str b) H Q := ⟨rfl, by simpa using h⟩
theorem go_neS {a b : Str} (h : Q (.bl (!decide (a = b))) H) : rNe (.str a) (.str b) H Q := ⟨rfl, by simpa using h⟩
theorem go_eqB {a b : Bool} (h : Q (.bl (decide (a = b))) H) : rEq (.bl a) (.bl b) H Q := ⟨rfl, by simpa using h⟩
theorem go_neB {a b : Bool} (h : Q (.bl (!decide (a = b))) H) : rNe (.bl a) (.bl b) H Q := ⟨rfl, by simpa using h⟩
theorem go_eqN (h : Q (.bl true) H) : rEq .non .non H Q := ⟨rfl, by simpa using h⟩
theorem ite_dt {α : Type} [DecidableEq α] {a : α} {A B : Prop} (h : A) : if decide (a = a) = true then A else B := by rw [decide_eq_true rfl]; exact h
theorem go_test (h : te σ H fun x H1 => ∃ k, x = .bl k ∧ QB k H1) : tTest te σ H QB := h
theorem go_B (h : te σ H fun x H1 => ∃ k, x = .bl k ∧ QB k H1) : tB te σ H QB := h
theorem go_bl {b : Bool} (h : QB b H) : ∃ k, V.bl b = .bl k ∧ QB k H := ⟨b, rfl, h⟩
theorem go_and {t u : TT} (h : t σ H fun b H1 => if b = true then u σ H1 QB else QB false H1) : tAnd t u σ H QB := h
theorem go_or {t u : TT} (h : t σ H fun b H1 => if b = true then QB true H1 else u σ H1 QB) : tOr t u σ H QB := h
theorem go_not {t : TT} (h : t σ H fun b H1 => QB (!b) H1) : tNot t σ H QB := h
theorem go_andV (h : ta σ H fun x H1 => ∃ c, x = .bl c ∧ if c = true then tb σ H1 Q else Q (.bl false) H1) : tAndV ta tb σ H Q := h
theorem go_orV (h : ta σ H fun x H1 => ∃ c, x = .bl c ∧ if c = true then Q (.bl true) H1 else tb σ H1 Q) : tOrV ta tb σ H Q := h
theorem go_notV (h : ta σ H fun x H1 => ∃ c, x = .bl c ∧ Q (.bl (!c)) H1) : tNotV ta σ H Q := h
theorem go_ifE {t : TT} (h : t σ H fun c H1 => if c = true then ta σ H1 Q else tb σ H1 Q) : tIf t ta tb σ H Q := h
theorem go_blA {b : Bool} {R : Bool → Prop} (h : R b) : ∃ k, V.bl b = .bl k ∧ R k := ⟨b, rfl, h⟩
theorem go_not_t {QB : Bool → Hp → Prop} (h : QB false H) : QB (!true) H := h
theorem go_not_f {QB : Bool → Hp → Prop} (h : QB true H) : QB (!false) H := h
theorem go_chain {r r' : R2} (h : ta σ H fun x H1 => tb σ H1 fun y H2 => r x y H2 fun z H3 => ∃ k, z = .bl k ∧ (if k = true then tc σ H3 fun w' H4 => r' y w' H4 Q else Q (.bl false) H3)) : tChain r r' ta tb tc σ H Q := h
/-! ### calls -/
theorem go_CB {r : List V → Hp → VK → Prop} {t : TA} (h : t σ H fun vs H1 => r vs H1 Q) : tCB r t σ H Q := h
theorem go_cons {t : TA} {R : List V → Hp → Prop} (h : ta σ H fun x H1 => t σ H1 fun xs H2 => R (x :: xs) H2) : tCons ta t σ H R := h
theorem go_nil {R : List V → Hp → Prop} (h : R [] H) : tNil σ H R := h
theorem go_call {sp : Sp} {dvs : List V} {E : XK} {t : TA} (h : t σ H fun vs H1 => sp (vs ++ dvs) H1 Q E) : tCall sp dvs E t σ H Q := h
theorem go_isi {K : PySem.W.Frag} {x c : V} {t u : Value} {b : Bool} (k : ClsV c u) (ty : TyX K H x t) (e : PySem.W.kitOne K t u = some b) (h : Q (.bl b) H) : rIsi K [x, c] H Q := ⟨x, c, t, u, b, rfl, k, ty, e, h⟩
theorem go_isiB {K : PySem.W.Frag} {x : V} {a c : String} {b : Bool} (ty : TyX K H x (.type a)) (e : kitB a c = some b) (h : Q (.bl b) H) : rIsi K [x, .ty c] H Q := ⟨x, .ty c, .type a, .type c, b, rfl, .ty c, ty, kit_ty e, h⟩
theorem go_lst {t : TA} (h : t σ H fun vs H1 => vs.length ≤ sizeLine ∧ ∀ l, H1 l = none → Q (.ref l) (upd H1 l (.lst vs))) : tLst t σ H Q := h
theorem go_tup {t : TA} (h : t σ H fun vs H1 => vs.length ≤ sizeLine ∧ ∀ l, H1 l = none → Q (.ref l) (upd H1 l (.tup vs))) : tTup t σ H Q := h
theorem go_sl {r : V → Option Int → Option Int → Hp → VK → Prop} {tlo tho : TO} (h : te σ H fun x H1 => tlo σ H1 fun lo H2 => tho σ H2 fun hi H3 => r x lo hi H3 Q) : tSl r te tlo tho σ H Q := h
theorem go_noPart {R : Option Int → Hp → Prop} (h : R none H) : tNoPart σ H R := h
theorem go_part {R : Option Int → Hp → Prop} (h : te σ H fun x H1 => ∃ i, x = .int i ∧ R (some i) H1) : tPart te σ H R := h
theorem go_partI {a : Int} {R : Int → Prop} (h : R a) : ∃ i, V.int a = .int i ∧ R i := ⟨a, rfl, h⟩
theorem go_slL {K : PySem.W.Frag} {a : Addr} {xs : List V} {lo hi : Option Int} (hs : SqL K H a xs) (h : ∀ p, H p = none → Q (.ref p) (upd H p (.lst (cutV xs lo hi)))) : rSlL K (.ref a) lo hi H Q := ⟨a, xs, rfl, hs, h⟩
theorem go_ixL {K : PySem.W.Frag} {a : Addr} {xs : List V} {k : Int} {v : V} (hs : SqL K H a xs) (e : atI xs k = some v) (h : Q v H) : rIxL K (.ref a) (.int k) H Q := ⟨a, xs, k, v, rfl, rfl, hs, e, h⟩
theorem go_ixT {K : PySem.W.Frag} {a : Addr} {xs : List V} {k : Int} {v : V} (hs : SqT K H a xs) (e : atI xs k = some v) (h : Q v H) : rIxT K (.ref a) (.int k) H Q := ⟨a, xs, k, v, rfl, rfl, hs, e, h⟩
end
/-! ### isinstance of scalars -/
theorem isi_int_int {K : PySem.W.Frag} {H : Hp} {Q : VK} {k : Int} (h : Q (.bl true) H) : rIsi K [(V.int k), .ty "int"] H Q := go_isiB (.base (.int _)) (by decide +kernel) h
theorem isi_int_bool {K : PySem.W.Frag} {H : Hp} {Q : VK} {k : Int} (h : Q (.bl false) H) : rIsi K [(V.int k), .ty "bool"] H Q := go_isiB (.base (.int _)) (by decide +kernel) h
theorem isi_int_str {K : PySem.W.Frag} {H : Hp} {Q : VK} {k : Int} (h : Q (.bl false) H) : rIsi K [(V.int k), .ty "str"] H Q := go_isiB (.base (.int _)) (by decide +kernel) h
theorem isi_int_list {K : PySem.W.Frag} {H : Hp} {Q : VK} {k : Int} (h : Q (.bl false) H) : rIsi K [(V.int k), .ty "list"] H Q := go_isiB (.base (.int _)) (by decide +kernel) h
theorem isi_int_tuple {K : PySem.W.Frag} {H : Hp} {Q : VK} {k : Int} (h : Q (.bl false) H) : rIsi K [(V.int k), .ty "tuple"] H Q := go_isiB (.base (.int _)) (by decide +kernel) h
theorem isi_bool_int {K : PySem.W.Frag} {H : Hp} {Q : VK} {k : Bool} (h : Q (.bl true) H) : rIsi K [(V.bl k), .ty "int"] H Q := go_isiB (.base (.bl _)) (by decide +kernel) h
theorem isi_bool_bool {K : PySem.W.Frag} {H : Hp} {Q : VK} {k : Bool} (h : Q (.bl true) H) : rIsi K [(V.bl k), .ty "bool"] H Q := go_isiB (.base (.bl _)) (by decide +kernel) h
theorem isi_bool_str {K : PySem.W.Frag} {H : Hp} {Q : VK} {k : Bool} (h : Q (.bl false) H) : rIsi K [(V.bl k), .ty "str"] H Q := go_isiB (.base (.bl _)) (by decide +kernel) h
theorem isi_bool_list {K : PySem.W.Frag} {H : Hp} {Q : VK} {k : Bool} (h : Q (.bl false) H) : rIsi K [(V.bl k), .ty "list"] H Q := go_isiB (.base (.bl _)) (by decide +kernel) h
theorem isi_bool_tuple {K : PySem.W.Frag} {H : Hp} {Q : VK} {k : Bool} (h : Q (.bl false) H) : rIsi K [(V.bl k), .ty "tuple"] H Q := go_isiB (.base (.bl _)) (by decide +kernel) h
theorem isi_str_int {K : PySem.W.Frag} {H : Hp} {Q : VK} {k : Str} (h : Q (.bl false) H) : rIsi K [(V.str k), .ty "int"] H Q := go_isiB (.base (.str _)) (by decide +kernel) h
theorem isi_str_bool {K : PySem.W.Frag} {H : Hp} {Q : VK} {k : Str} (h : Q (.bl false) H) : rIsi K [(V.str k), .ty "bool"] H Q := go_isiB (.base (.str _)) (by decide +kernel) h
theorem isi_str_str {K : PySem.W.Frag} {H : Hp} {Q : VK} {k : Str} (h : Q (.bl true) H) : rIsi K [(V.str k), .ty "str"] H Q := go_isiB (.base (.str _)) (by decide +kernel) h
theorem isi_str_list {K : PySem.W.Frag} {H : Hp} {Q : VK} {k : Str} (h : Q (.bl false) H) : rIsi K [(V.str k), .ty "list"] H Q := go_isiB (.base (.str _)) (by decide +kernel) h
theorem isi_str_tuple {K : PySem.W.Frag} {H : Hp} {Q : VK} {k : Str} (h : Q (.bl false) H) : rIsi K [(V.str k), .ty "tuple"] H Q := go_isiB (.base (.str _)) (by decide +kernel) h
theorem isi_NoneType_int {K : PySem.W.Frag} {H : Hp} {Q : VK} (h : Q (.bl false) H) : rIsi K [V.non, .ty "int"] H Q := go_isiB (.base .non) (by decide +kernel) h
theorem isi_NoneType_bool {K : PySem.W.Frag} {H : Hp} {Q : VK} (h : Q (.bl false) H) : rIsi K [V.non, .ty "bool"] H Q := go_isiB (.base .non) (by decide +kernel) h
theorem isi_NoneType_str {K : PySem.W.Frag} {H : Hp} {Q : VK} (h : Q (.bl false) H) : rIsi K [V.non, .ty "str"] H Q := go_isiB (.base .non) (by decide +kernel) h
theorem isi_NoneType_list {K : PySem.W.Frag} {H : Hp} {Q : VK} (h : Q (.bl false) H) : rIsi K [V.non, .ty "list"] H Q := go_isiB (.base .non) (by decide +kernel) h
theorem isi_NoneType_tuple {K : PySem.W.Frag} {H : Hp} {Q : VK} (h : Q (.bl false) H) : rIsi K [V.non, .ty "tuple"] H Q := go_isiB (.base .non) (by decide +kernel) h
theorem isi_list_int {K : PySem.W.Frag} {H : Hp} {Q : VK} {p : Addr} {xs : List V} (e : H p = some (.lst xs)) (h : Q (.bl false) H) : rIsi K [.ref p, .ty "int"] H Q := go_isiB (.base (.lst e)) (by decide +kernel) h
theorem isi_list_bool {K : PySem.W.Frag} {H : Hp} {Q : VK} {p : Addr} {xs : List V} (e : H p = some (.lst xs)) (h : Q (.bl false) H) : rIsi K [.ref p, .ty "bool"] H Q := go_isiB (.base (.lst e)) (by decide +kernel) h
theorem isi_list_str {K : PySem.W.Frag} {H : Hp} {Q : VK} {p : Addr} {xs : List V} (e : H p = some (.lst xs)) (h : Q (.bl false) H) : rIsi K [.ref p, .ty "str"] H Q := go_isiB (.base (.lst e)) (by decide +kernel) h
theorem isi_list_list {K : PySem.W.Frag} {H : Hp} {Q : VK} {p : Addr} {xs : List V} (e : H p = some (.lst xs)) (h : Q (.bl true) H) : rIsi K [.ref p, .ty "list"] H Q := go_isiB (.base (.lst e)) (by decide +kernel) h
theorem isi_list_tuple {K : PySem.W.Frag} {H : Hp} {Q : VK} {p : Addr} {xs : List V} (e : H p = some (.lst xs)) (h : Q (.bl false) H) : rIsi K [.ref p, .ty "tuple"] H Q := go_isiB (.base (.lst e)) (by decide +kernel) h
theorem isi_tuple_int {K : PySem.W.Frag} {H : Hp} {Q : VK} {p : Addr} {xs : List V} (e : H p = some (.tup xs)) (h : Q (.bl false) H) : rIsi K [.ref p, .ty "int"] H Q := go_isiB (.base (.tup e)) (by decide +kernel) h
theorem isi_tuple_bool {K : PySem.W.Frag} {H : Hp} {Q : VK} {p : Addr} {xs : List V} (e : H p = some (.tup xs)) (h : Q (.bl false) H) : rIsi K [.ref p, .ty "bool"] H Q := go_isiB (.base (.tup e)) (by decide +kernel) h
theorem isi_tuple_str {K : PySem.W.Frag} {H : Hp} {Q : VK} {p : Addr} {xs : List V} (e : H p = some (.tup xs)) (h : Q (.bl false) H) : rIsi K [.ref p, .ty "str"] H Q := go_isiB (.base (.tup e)) (by decide +kernel) h
theorem isi_tuple_list {K : PySem.W.Frag} {H : Hp} {Q : VK} {p : Addr} {xs : List V} (e : H p = some (.tup xs)) (h : Q (.bl false) H) : rIsi K [.ref p, .ty "list"] H Q := go_isiB (.base (.tup e)) (by decide +kernel) h
theorem isi_tuple_tuple {K : PySem.W.Frag} {H : Hp} {Q : VK} {p : Addr} {xs : List V} (e : H p = some (.tup xs)) (h : Q (.bl true) H) : rIsi K [.ref p, .ty "tuple"] H Q := go_isiB (.base (.tup e)) (by decide +kernel) h
section
variable {D : Ends} {σ : L2.St} {H : Hp} {t u c : TS} {te ta tb tc tl th : TE} {i : Nat} {Q : VK} {QB : Bool → Hp → Prop}
/-! ### what a test comes to -/
theorem ite_d {p : Prop} [Decidable p] {A B : Prop} (h1 : p → A) (h2 : ¬ p → B) : if decide p = true then A else B := by
  by_cases h : p
  · rw [decide_eq_true h]; exact h1 h
  · rw [decide_eq_false h]; exact h2 h
theorem ite_nd {p : Prop} [Decidable p] {A B : Prop} (h1 : ¬ p → A) (h2 : p → B) : if (!decide p) = true then A else B := by
  by_cases h : p
  · rw [decide_eq_true h]; exact h2 h
  · rw [decide_eq_false h]; exact h1 h
theorem ite_nt {A B : Prop} (h : B) : if (!true) = true then A else B := h
theorem ite_nf {A B : Prop} (h : A) : if (!false) = true then A else B := h
theorem ite_b {b : Bool} {A B : Prop} (h1 : b = true → A) (h2 : b = false → B) : if b = true then A else B := by
  cases b with
  | true => exact h1 rfl
  | false => exact h2 rfl
end
/-! ### readings by name -/
section
variable {X : Cx} {H : Hp} {Q : VK} {K : PySem.W.Frag}
def qInt1 : List V → Hp → VK → Prop := fun xs H Q => (∃ i, xs = [.int i] ∧ Q (.int i) H) ∨ ∃ k, xs = [.bl k] ∧ Q (.int (if k then 1 else 0)) H
theorem k_int1 : CallR X (.type "int") qInt1 := call_int1
theorem go_int1 {a : Int} (h : Q (.int a) H) : qInt1 [.int a] H Q := .inl ⟨a, rfl, h⟩
theorem go_intB {b : Bool} (h : Q (.int (if b then 1 else 0)) H) : qInt1 [.bl b] H Q := .inr ⟨b, rfl, h⟩
def qBool1 : List V → Hp → VK → Prop := fun xs H Q => (∃ i, xs = [.int i] ∧ Q (.bl (i != 0)) H) ∨ ∃ k, xs = [.bl k] ∧ Q (.bl k) H
theorem k_bool1 : CallR X (.type "bool") qBool1 := call_bool1
theorem go_bool1 {a : Int} (h : Q (.bl (a != 0)) H) : qBool1 [.int a] H Q := .inl ⟨a, rfl, h⟩
theorem go_boolB {b : Bool} (h : Q (.bl b) H) : qBool1 [.bl b] H Q := .inr ⟨b, rfl, h⟩
def qStrInt : List V → Hp → VK → Prop := fun xs H Q => ∃ i, xs = [.int i] ∧ i.natAbs.log2 < 1920 ∧ Q (.str (toString i)) H
theorem k_str_int : CallR X (.type "str") qStrInt := call_str_int
theorem go_str_int {a : Int} (ha : a.natAbs.log2 < 1920) (h : Q (.str (toString a)) H) : qStrInt [.int a] H Q := ⟨a, rfl, ha, h⟩
def qAbs : List V → Hp → VK → Prop := fun xs H Q => ∃ i, xs = [.int i] ∧ Q (.int (if i < 0 then -i else i)) H
theorem k_abs : CallR X (.builtin "abs") qAbs := call_abs
theorem go_abs {a : Int} (h : Q (.int (if a < 0 then -a else a)) H) : qAbs [.int a] H Q := ⟨a, rfl, h⟩
def qMax2 : List V → Hp → VK → Prop := fun xs H Q => ∃ i j, xs = [.int i, .int j] ∧ Q (.int (if j > i then j else i)) H
theorem k_max2 (hc : X.calm = true) : CallR X (.builtin "max") qMax2 := call_max2 hc
theorem go_max2 {a b : Int} (h : Q (.int (if b > a then b else a)) H) : qMax2 [.int a, .int b] H Q := ⟨a, b, rfl, h⟩
def qMin2 : List V → Hp → VK → Prop := fun xs H Q => ∃ i j, xs = [.int i, .int j] ∧ Q (.int (if j < i then j else i)) H
theorem k_min2 (hc : X.calm = true) : CallR X (.builtin "min") qMin2 := call_min2 hc
theorem go_min2 {a b : Int} (h : Q (.int (if b < a then b else a)) H) : qMin2 [.int a, .int b] H Q := ⟨a, b, rfl, h⟩
def qOrd : List V → Hp → VK → Prop := fun xs H Q => ∃ x, xs = [.str x] ∧ x.length = 1 ∧ Q (.int (x.cps.getD 0 0 : Nat)) H
theorem k_ord : CallR X (.builtin "ord") qOrd := call_ord
theorem go_ord {c : Nat} (h : Q (.int (c : Nat)) H) : qOrd [.str ⟨#[c]⟩] H Q := ⟨⟨#[c]⟩, rfl, rfl, h⟩
def qLen (K : PySem.W.Frag) : List V → Hp → VK → Prop := fun xs H Q => ∃ x n, xs = [x] ∧ LenV K x H n ∧ Q (.int n) H
theorem k_len : CallR X (.builtin "len") (qLen X.K) := call_len
theorem go_lenL {a : Addr} {xs : List V} (hs : SqL K H a xs) (h : Q (.int (xs.length : Nat)) H) : qLen K [.ref a] H Q := ⟨.ref a, xs.length, rfl, .inl ⟨xs, hs, rfl⟩, h⟩
theorem go_lenT {a : Addr} {xs : List V} (hs : SqT K H a xs) (h : Q (.int (xs.length : Nat)) H) : qLen K [.ref a] H Q := ⟨.ref a, xs.length, rfl, .inr ⟨xs, hs, rfl⟩, h⟩
theorem go_lenS {y : Str} (hz : y.length ≤ sizeLine) (h : Q (.int (y.length : Nat)) H) : qLen K [.str y] H Q := ⟨.str y, y.length, rfl, ⟨hz, rfl⟩, h⟩
def qListOf (K : PySem.W.Frag) : List V → Hp → VK → Prop := fun xs H Q => ∃ p ys, xs = [.ref p] ∧ (SqL K H p ys ∨ SqT K H p ys) ∧ ∀ l, H l = none → Q (.ref l) (upd H l (.lst ys))
theorem k_list_of : CallR X (.type "list") (qListOf X.K) := call_list_of
theorem go_listOfL {a : Addr} {xs : List V} (hs : SqL K H a xs) (h : ∀ l, H l = none → Q (.ref l) (upd H l (.lst xs))) : qListOf K [.ref a] H Q := ⟨a, xs, rfl, .inl hs, h⟩
theorem go_listOfT {a : Addr} {xs : List V} (hs : SqT K H a xs) (h : ∀ l, H l = none → Q (.ref l) (upd H l (.lst xs))) : qListOf K [.ref a] H Q := ⟨a, xs, rfl, .inr hs, h⟩
def qTupOf (K : PySem.W.Frag) : List V → Hp → VK → Prop := fun xs H Q => ∃ p ys, xs = [.ref p] ∧ ((SqL K H p ys ∧ ∀ l, H l = none → Q (.ref l) (upd H l (.tup ys))) ∨ (SqT K H p ys ∧ Q (.ref p) H))
theorem k_tuple_of : CallR X (.type "tuple") (qTupOf X.K) := call_tuple_of
theorem go_tupOfL {a : Addr} {xs : List V} (hs : SqL K H a xs) (h : ∀ l, H l = none → Q (.ref l) (upd H l (.tup xs))) : qTupOf K [.ref a] H Q := ⟨a, xs, rfl, .inl ⟨hs, h⟩⟩
theorem go_tupOfT {a : Addr} {xs : List V} (hs : SqT K H a xs) (h : Q (.ref a) H) : qTupOf K [.ref a] H Q := ⟨a, xs, rfl, .inr ⟨hs, h⟩⟩
theorem go_sum {a : Addr} {ns : List Int} (hs : SqL K H a (ns.map V.int)) (h : Q (.int ns.sum) H) : rSum K [.ref a] H Q := ⟨a, ns, rfl, hs, h⟩
theorem go_all {a : Addr} {bs : List Bool} (hs : SqL K H a (bs.map V.bl)) (h : Q (.bl (bs.all id)) H) : rAll K [.ref a] H Q := ⟨a, bs, rfl, hs, h⟩
theorem go_any {a : Addr} {bs : List Bool} (hs : SqL K H a (bs.map V.bl)) (h : Q (.bl (bs.any id)) H) : rAny K [.ref a] H Q := ⟨a, bs, rfl, hs, h⟩
def qIsN : R2 := fun x y H Q => y = .non ∧ Q (.bl (decide (x = .non))) H
theorem o_isN : OpR X (compareOp .Is) qIsN := op_isN
def qNotN : R2 := fun x y H Q => y = .non ∧ Q (.bl (!decide (x = .non))) H
theorem o_notN : OpR X (compareOp .IsNot) qNotN := op_notN
theorem go_isN0 (h : Q (.bl true) H) : qIsN .non .non H Q := ⟨rfl, by simpa using h⟩
theorem go_isNI {i : Int} (h : Q (.bl false) H) : qIsN (.int i) .non H Q := ⟨rfl, by simpa using h⟩
theorem go_isNS {i : Str} (h : Q (.bl false) H) : qIsN (.str i) .non H Q := ⟨rfl, by simpa using h⟩
theorem go_isNB {i : Bool} (h : Q (.bl false) H) : qIsN (.bl i) .non H Q := ⟨rfl, by simpa using h⟩
theorem go_isNR {i : Addr} (h : Q (.bl false) H) : qIsN (.ref i) .non H Q := ⟨rfl, by simpa using h⟩
theorem go_notN0 (h : Q (.bl false) H) : qNotN .non .non H Q := ⟨rfl, by simpa using h⟩
theorem go_notNI {i : Int} (h : Q (.bl true) H) : qNotN (.int i) .non H Q := ⟨rfl, by simpa using h⟩
theorem go_notNS {i : Str} (h : Q (.bl true) H) : qNotN (.str i) .non H Q := ⟨rfl, by simpa using h⟩
theorem go_notNB {i : Bool} (h : Q (.bl true) H) : qNotN (.bl i) .non H Q := ⟨rfl, by simpa using h⟩
theorem go_notNR {i : Addr} (h : Q (.bl true) H) : qNotN (.ref i) .non H Q := ⟨rfl, by simpa using h⟩
def qLtS : R2 := fun x y H Q => ∃ i j, x = .str i ∧ y = .str j ∧ Q (.bl (decide (i.cps.toList < j.cps.toList))) H
theorem o_lt_str : OpR X (compareOp .Lt) qLtS := op_lt_str
theorem go_ltS {a b : Str} (h : Q (.bl (decide (a.cps.toList < b.cps.toList))) H) : qLtS (.str a) (.str b) H Q := ⟨a, b, rfl, rfl, h⟩
def qLeS : R2 := fun x y H Q => ∃ i j, x = .str i ∧ y = .str j ∧ Q (.bl (!decide (j.cps.toList < i.cps.toList))) H
theorem o_le_str : OpR X (compareOp .LtE) qLeS := op_le_str
theorem go_leS {a b : Str} (h : Q (.bl (!decide (b.cps.toList < a.cps.toList))) H) : qLeS (.str a) (.str b) H Q := ⟨a, b, rfl, rfl, h⟩
def qAddS : R2 := fun x y H Q => ∃ i j, x = .str i ∧ y = .str j ∧ i.length + j.length ≤ sizeLine ∧ Q (.str (i ++ j)) H
theorem o_add_str : OpR X (binaryOp .Add) qAddS := op_add_str
theorem go_addS {a b : Str} (hz : a.length + b.length ≤ sizeLine) (h : Q (.str (a ++ b)) H) : qAddS (.str a) (.str b) H Q := ⟨a, b, rfl, rfl, hz, h⟩
theorem go_cat {l b : Addr} {xs zs : List V} (h1 : H l = some (.lst xs)) (h2 : H b = some (.lst zs)) (hz : xs.length + zs.length ≤ sizeLine) (h : ∀ p, H p = none → Q (.ref p) (upd H p (.lst (xs ++ zs)))) : rCat (.ref l) (.ref b) H Q := ⟨l, b, xs, zs, rfl, rfl, h1, h2, hz, h⟩
theorem go_slS {z : Str} {lo hi : Option Int} (hz : z.length ≤ sizeLine) (h : Q (.str (cutS z lo hi)) H) : rSlS (.str z) lo hi H Q := ⟨z, rfl, hz, h⟩
theorem go_ixS {z : Str} {i : Int} {c : Nat} (hz : z.length ≤ sizeLine) (e : atI z.cps.toList i = some c) (h : Q (.str ⟨#[c]⟩) H) : rIxS (.str z) (.int i) H Q := ⟨z, i, c, rfl, rfl, hz, e, h⟩
theorem go_append {l : Addr} {xs : List V} {y : V} (e : H l = some (.lst xs)) (hz : xs.length < sizeLine) (h : Q .non (upd H l (.lst (xs ++ [y])))) : rAppend (.ref l) [y] H Q := ⟨l, xs, y, rfl, rfl, e, hz, h⟩
theorem go_BM {T : String} {r : V → List V → Hp → VK → Prop} {to : TE} {t : TA} {σ : L2.St} (h : to σ H fun x H1 => tyV K T x H1 ∧ t σ H1 fun xs H2 => r x xs H2 Q) : tBM K T r to t σ H Q := h
theorem go_BM0 {T : String} {r : V → List V → Hp → VK → Prop} {to : TE} {σ : L2.St} (h : to σ H fun x H1 => tyV K T x H1 ∧ r x [] H1 Q) : tBM0 K T r to σ H Q := h
end
/-! ### rules within a comprehension: the written part told apart -/
section
variable {X : Cx} {K : PySem.W.Frag} {e : Expr} {ta : TE} {f : Str} {pos : Pos}
theorem pe_fldK (hK : X.K = K) (he : PE X e ta) (hb : attributeBase e f X.env (eval e X.env) = eval e X.env) : PE X (.Attribute e f pos) (tFld K ta f) := by subst hK; exact pe_fld he hb
theorem ix_listK (hK : X.K = K) : IxR X (rIxL K) := by subst hK; exact ix_list
theorem ix_tupK (hK : X.K = K) : IxR X (rIxT K) := by subst hK; exact ix_tup
theorem ix_seqK (hK : X.K = K) : IxR X (rIx K) := by subst hK; exact ix_seq
theorem sl_listK (hK : X.K = K) : SlR X (rSlL K) := by subst hK; exact sl_list
theorem k_lenK (hK : X.K = K) : CallR X (.builtin "len") (qLen K) := by subst hK; exact k_len
theorem call_isiK (hK : X.K = K) : CallR X (.builtin "isinstance") (rIsi K) := by subst hK; exact call_isi
theorem k_list_ofK (hK : X.K = K) : CallR X (.type "list") (qListOf K) := by subst hK; exact k_list_of
theorem k_tuple_ofK (hK : X.K = K) : CallR X (.type "tuple") (qTupOf K) := by subst hK; exact k_tuple_of
theorem cr_sumK (hK : X.K = K) (hc : X.calm = true) : CallR X (.builtin "sum") (rSum K) := by subst hK; exact cr_sum hc
theorem cr_allK (hK : X.K = K) (hc : X.calm = true) : CallR X (.builtin "all") (rAll K) := by subst hK; exact cr_all hc
theorem cr_anyK (hK : X.K = K) (hc : X.calm = true) : CallR X (.builtin "any") (rAny K) := by subst hK; exact cr_any hc
theorem op_in_seqK (hK : X.K = K) : OpR X (compareOp .In) (rIn K false) := by subst hK; exact op_in_seq
theorem op_notIn_seqK (hK : X.K = K) : OpR X (compareOp .NotIn) (rIn K true) := by subst hK; exact op_notIn_seq
theorem op_eqDK (hK : X.K = K) (hu : X.A.units + 64 < cLine) : OpR X (compareOp .Eq) (rEqD K) := by subst hK; exact op_eqD hu
theorem op_neDK (hK : X.K = K) (hu : X.A.units + 64 < cLine) : OpR X (compareOp .NotEq) (rNeD K) := by subst hK; exact op_neD hu
end
/-! ### heaps -/
theorem same_new {H : Hp} {p : Addr} {o : HO} (h : H p = none) : Same H (upd H p o) := fun b x e => by
  rw [upd_ne (ne_of_none e h)]
  exact e
/-- an object that H does not know may change -/
theorem same_mut {H H' : Hp} {p : Addr} {o : HO} (e : Same H H') (h : H p = none) : Same H (upd H' p o) := fun a u ha => by
  rw [upd_ne (ne_of_none ha h)]
  exact e a u ha
theorem same_sqL {K : PySem.W.Frag} {H H' : Hp} {a : Addr} {xs : List V} (e : Same H H') (h : SqL K H a xs) : SqL K H' a xs := e.seq h
theorem same_rd {H H' : Hp} {a : Addr} {u : HO} (e : Same H H') (h : Rd H a u) : Rd H' a u := by
  rcases h with h | ⟨o, h⟩
  · exact Or.inl (e a _ h)
  · exact Or.inr ⟨o, e a _ h⟩
theorem same_sqT {K : PySem.W.Frag} {H H' : Hp} {a : Addr} {xs : List V} (e : Same H H') (h : SqT K H a xs) : SqT K H' a xs := by
  rcases h with h | h
  · exact Or.inl (same_rd e h)
  · exact Or.inr h
theorem sz {n : Nat} (h : n ≤ 100000) : n ≤ sizeLine := Nat.le_trans h (by decide)
theorem szlt {n : Nat} (h : n ≤ 100000) : n < sizeLine := Nat.lt_of_le_of_lt h (by decide)
/-- the list of ints at a place in bounds -/
theorem at_nat {xs : List V} {i : Nat} {v : V} (h : xs[i]? = some v) : atI xs (i : Int) = some v := atI_nat h
theorem at_int {ns : List Int} {k : Int} (h0 : 0 ≤ k) (h : k < ns.length) : atI (ns.map V.int) k = some (.int (ns.getD k.toNat 0)) := by
  have e : k = (k.toNat : Int) := by omega
  have h2 : k.toNat < ns.length := by omega
  rw [e]
  refine at_nat ?_
  rw [List.getElem?_map, Int.toNat_natCast, List.getElem?_eq_getElem h2, List.getD_eq_getElem?_getD, List.getElem?_eq_getElem h2]
  rfl
/-! ### lists of ints: ==, slices, sums -/
theorem dp_ints {K : PySem.W.Frag} {H : Hp} : ∀ ns : List Int, DpAll K H (ns.map V.int) (ns.map PyData.int)
  | [] => .nil
  | n :: r => .cons (.int n) (dp_ints r)
theorem eqv_int (a b : Int) : PyData.eqv (.int a) (.int b) = decide (a = b) := by
  simp only [PyData.eqv]
  by_cases h : a = b
  · simp [h]
  · simp [h]
theorem eqvAll_ints : ∀ xs ys : List Int, PyData.eqvAll (xs.map PyData.int) (ys.map PyData.int) = decide (xs = ys)
  | [], [] => by simp [PyData.eqvAll]
  | [], _ :: _ => by simp [PyData.eqvAll]
  | _ :: _, [] => by simp [PyData.eqvAll]
  | x :: xs, y :: ys => by
    simp only [List.map_cons, PyData.eqvAll, eqv_int, eqvAll_ints xs ys]
    by_cases h : x = y <;> by_cases h2 : xs = ys <;> simp [h, h2]
theorem eqv_ints (xs ys : List Int) : PyData.eqv (.list (xs.map PyData.int)) (.list (ys.map PyData.int)) = decide (xs = ys) := by
  rw [PyData.eqv]
  exact eqvAll_ints xs ys
theorem depth_ints : ∀ xs : List Int, PyData.depthAll (xs.map PyData.int) = 0
  | [] => rfl
  | x :: xs => by
    rw [List.map_cons]
    unfold PyData.depthAll
    rw [depth_ints xs]
    rfl
theorem canLay_ints : ∀ xs : List Int, PyData.canLayAll0 (xs.map PyData.int) = true
  | [] => rfl
  | x :: xs => by
    rw [List.map_cons]
    simp only [PyData.canLayAll0, PyData.canLay0, canLay_ints xs, Bool.and_self]
theorem shaped_ints (xs : List Int) : SeqAt.shaped (.list (xs.map PyData.int)) = true := by
  unfold SeqAt.shaped
  have h1 : PyData.canLay0 (.list (xs.map PyData.int)) = true := by
    simp only [PyData.canLay0]
    exact canLay_ints xs
  have h2 : PyData.depth (.list (xs.map PyData.int)) ≤ 64 := by
    unfold PyData.depth
    rw [depth_ints xs]
    decide
  rw [h1, decide_eq_true h2]
  rfl
theorem go_eqInts {K : PySem.W.Frag} {H : Hp} {Q : VK} {a b : Addr} {xs ys : List Int} (h1 : SqL K H a (xs.map V.int)) (h2 : SqL K H b (ys.map V.int)) (h : Q (.bl (decide (xs = ys))) H) : rEqD K (.ref a) (.ref b) H Q :=
  ⟨_, _, .lst h1 (dp_ints xs), .lst h2 (dp_ints ys), shaped_ints xs, shaped_ints ys, by rw [eqv_ints]; exact h⟩
theorem go_neInts {K : PySem.W.Frag} {H : Hp} {Q : VK} {a b : Addr} {xs ys : List Int} (h1 : SqL K H a (xs.map V.int)) (h2 : SqL K H b (ys.map V.int)) (h : Q (.bl (!decide (xs = ys))) H) : rNeD K (.ref a) (.ref b) H Q :=
  ⟨_, _, .lst h1 (dp_ints xs), .lst h2 (dp_ints ys), shaped_ints xs, shaped_ints ys, by rw [eqv_ints]; exact h⟩
theorem cut_to (xs : List V) (k : Nat) : cutV xs none (some (k : Int)) = xs.take k := by
  unfold cutV
  rw [HT.sIx_none, HT.sIx_nat, List.drop_zero, Nat.sub_zero]
  rcases Nat.le_total k xs.length with h | h
  · rw [Nat.min_eq_left h]
  · rw [Nat.min_eq_right h, List.take_of_length_le (Nat.le_refl _), List.take_of_length_le h]
theorem cut_from (xs : List V) (k : Nat) : cutV xs (some (k : Int)) none = xs.drop k := by
  unfold cutV
  rw [HT.sIx_none, HT.sIx_nat]
  rcases Nat.le_total k xs.length with h | h
  · rw [Nat.min_eq_left h, List.take_of_length_le]
    rw [List.length_drop]
    exact Nat.le_refl _
  · rw [Nat.min_eq_right h, List.drop_of_length_le (Nat.le_refl _), List.drop_of_length_le h, List.take_nil]
theorem sum_take_succ (ws : List Int) (i : Nat) (h : i < ws.length) : (ws.take (i + 1)).sum = (ws.take i).sum + ws.getD i 0 := by
  rw [List.take_add_one, List.getElem?_eq_getElem h, List.sum_append, List.getD_eq_getElem?_getD, List.getElem?_eq_getElem h]
  simp
theorem sum_nonneg : ∀ {ws : List Int}, (∀ w ∈ ws, 0 ≤ w) → 0 ≤ ws.sum
  | [], _ => by simp
  | w :: r, h => by
    have h1 := h w (by simp)
    have h2 := sum_nonneg (ws := r) fun z hz => h z (by simp [hz])
    rw [List.sum_cons]
    omega
theorem sum_take_le {ws : List Int} (h : ∀ w ∈ ws, 0 ≤ w) (i : Nat) : (ws.take i).sum ≤ ws.sum := by
  have e := congrArg List.sum (List.take_append_drop i ws)
  rw [List.sum_append] at e
  have h2 := sum_nonneg (ws := ws.drop i) fun z hz => h z (List.mem_of_mem_drop hz)
  omega
/-- min, max as they are told -/
theorem lt_of_len {a b : Nat} (h : a < b) : (a : Int) < (b : Int) := by omega
/-! ### list comprehensions whose element changes nothing that stood -/
section
variable {K : PySem.W.Frag} {σ : L2.St} {H H1 : Hp} {Q : VK} {tl te : TE} {g : TG} {tt : TT} {vs : List Nat} {j : Nat} {wi : TI}
theorem go_iList {R : It → Hp → Prop} (h : tl σ H fun x H1 => ∃ a, x = .ref a ∧ (∃ xs, SqL K H1 a xs) ∧ R (Itl K a) H1) : iList K tl σ H R := h
theorem go_iListR {a : Addr} {xs : List V} {R : Addr → Prop} (hs : SqL K H a xs) (h : R a) : ∃ b, V.ref a = .ref b ∧ (∃ xs, SqL K H b xs) ∧ R b := ⟨a, rfl, ⟨xs, hs⟩, h⟩
theorem go_iRng1 {ta : TA} {R : It → Hp → Prop} (h : ta σ H fun vs H1 => ∃ j : Int, vs = [.int j] ∧ -(2 ^ 62) ≤ j ∧ j < 2 ^ 62 ∧ R (Itr 0 j.toNat) H1) : iRng1 ta σ H R := h
theorem go_iRng2 {ta : TA} {R : It → Hp → Prop} (h : ta σ H fun vs H1 => ∃ i j : Int, vs = [.int i, .int j] ∧ (-(2 ^ 62) ≤ i ∧ i < 2 ^ 62 ∧ -(2 ^ 62) ≤ j ∧ j < 2 ^ 62) ∧ R (Itr i (j - i).toNat) H1) : iRng2 ta σ H R := h
theorem go_rng1 {n : Int} {R : It → Hp → Prop} (hn : -(2 ^ 62) ≤ n ∧ n < 2 ^ 62) (h : R (Itr 0 n.toNat) H) : ∃ j : Int, [V.int n] = [.int j] ∧ -(2 ^ 62) ≤ j ∧ j < 2 ^ 62 ∧ R (Itr 0 j.toNat) H := ⟨n, rfl, hn.1, hn.2, h⟩
theorem go_rng2 {m n : Int} {R : It → Hp → Prop} (hm : -(2 ^ 62) ≤ m ∧ m < 2 ^ 62 ∧ -(2 ^ 62) ≤ n ∧ n < 2 ^ 62) (h : R (Itr m (n - m).toNat) H) :
    ∃ i j : Int, [V.int m, V.int n] = [.int i, .int j] ∧ (-(2 ^ 62) ≤ i ∧ i < 2 ^ 62 ∧ -(2 ^ 62) ≤ j ∧ j < 2 ^ 62) ∧ R (Itr i (j - i).toNat) H := ⟨m, n, rfl, hm, h⟩
theorem go_yes {QB : Bool → Hp → Prop} (h : QB true H) : tYes σ H QB := h
theorem go_lc (h : wi σ H fun J H1 => ∀ D, H1 D = none → ∃ W : Nat → Nat → Hp → Prop, (∃ m, W 0 m (upd H1 D (.lst []))) ∧ ∀ i m H, W i m H →
  (J.stop i H ∧ Q (.ref D) H) ∨ (J.go i H ∧ ∃ Nx : Hp → Prop, (∀ H', Nx H' → ∃ m', m' < m ∧ W (i + 1) m' H') ∧ ∀ x H', J.yld i H x H' → g x (wipe σ vs) H' fun σ2 H2 => wipe σ2 vs = wipe σ vs ∧ tt σ2 H2 fun b H3 =>
    if b = true then te σ2 H3 fun y H4 => ∃ acc, H4 D = some (.lst acc) ∧ acc.length < sizeLine ∧ Nx (upd H4 D (.lst (acc ++ [y]))) else Nx H3)) : tLc wi g tt te vs σ H Q := h
theorem go_for {D : Ends} {tb : TS} (h : wi σ H fun J H1 => ∃ W : Nat → Nat → L2.St → Hp → Prop, (∃ m, W 0 m σ H1) ∧ ∀ i m σ H, W i m σ H →
  (J.stop i H ∧ D.nx σ H) ∨ (J.go i H ∧ ∃ N : L2.St → Hp → Prop, (∀ σ' H', N σ' H' → ∃ m', m' < m ∧ W (i + 1) m' σ' H') ∧ ∀ x H', J.yld i H x H' → g x σ H' fun σ2 H2 => tb { D with nx := N, ct := N, bk := D.nx } σ2 H2)) : tFor wi g tb D σ H := h
/-- what is in the list being made: all of them so, and all else as it was -/
structure Acc (P : Nat → V → Prop) (H : Hp) (D : Addr) (i : Nat) (H' : Hp) : Prop where
  made : ∃ ys : List V, H' D = some (.lst ys) ∧ ys.length = i ∧ ∀ k y, ys[k]? = some y → P k y
  same : Same H H'
theorem acc_step {P : Nat → V → Prop} {H H' : Hp} {D : Addr} {i : Nat} {y : V} (hD : H D = none) (a : Acc P H D i H') (hy : P i y) (hi : i < 100000) : ∃ acc, H' D = some (.lst acc) ∧ acc.length < sizeLine ∧ Acc P H D (i + 1) (upd H' D (.lst (acc ++ [y]))) := by
  obtain ⟨⟨ys, e, hl, hp⟩, hs⟩ := a
  refine ⟨ys, e, szlt (by omega), ⟨ys ++ [y], upd_same, by simp [hl], fun k z hz => ?_⟩, same_mut hs hD⟩
  rcases Nat.lt_or_ge k ys.length with h | h
  · rw [List.getElem?_append_left h] at hz
    exact hp k z hz
  · rw [List.getElem?_append_right h] at hz
    rcases Nat.eq_or_lt_of_le h with e2 | e2
    · rw [← e2, Nat.sub_self] at hz
      cases hz
      rw [← e2, hl]
      exact hy
    · rw [List.getElem?_eq_none (by simp; omega)] at hz
      cases hz
theorem Acc.keep {P : Nat → V → Prop} {H H' H2 : Hp} {D : Addr} {i : Nat} (a : Acc P H D i H') (s : Same H' H2) : Acc P H D i H2 := by
  obtain ⟨⟨ys, e, hl, hp⟩, hs⟩ := a
  exact ⟨⟨ys, s _ _ e, hl, hp⟩, hs.trans s⟩
/-- [e for x in a list], behind the list's reading -/
theorem lcL {R : Addr → Hp → Prop} {a : Addr} (xs : List V) (P : Nat → V → Prop) (hs : SqL K H1 a xs) (hz : xs.length ≤ 100000) (hw : ∀ x, wipe ((wipe σ vs).set j x) vs = wipe σ vs)
    (he : ∀ (i : Nat) x H', xs[i]? = some x → Same H1 H' → ∀ R : VK, (∀ y H'', Same H' H'' → P i y → R y H'') → te ((wipe σ vs).set j (some x)) H' R)
    (q : ∀ D (ys : List V) H2, H1 D = none → Same H1 H2 → H2 D = some (.lst ys) → ys.length = xs.length → (∀ k y, ys[k]? = some y → P k y) → R D H2) :
    ∃ b, V.ref a = .ref b ∧ (∃ xs, SqL K H1 b xs) ∧ ∀ D, H1 D = none → ∃ W : Nat → Nat → Hp → Prop, (∃ m, W 0 m (upd H1 D (.lst []))) ∧ ∀ i m H, W i m H →
      ((Itl K b).stop i H ∧ R D H) ∨ ((Itl K b).go i H ∧ ∃ Nx : Hp → Prop, (∀ H', Nx H' → ∃ m', m' < m ∧ W (i + 1) m' H') ∧ ∀ x H', (Itl K b).yld i H x H' → gName j x (wipe σ vs) H' fun σ2 H2 => wipe σ2 vs = wipe σ vs ∧ tYes σ2 H2 fun b H3 =>
        if b = true then te σ2 H3 fun y H4 => ∃ acc, H4 D = some (.lst acc) ∧ acc.length < sizeLine ∧ Nx (upd H4 D (.lst (acc ++ [y]))) else Nx H3) := by
  refine ⟨a, rfl, ⟨xs, hs⟩, fun D hD => ?_⟩
  refine lc_list (xs := xs) (Acc P H1 D) ⟨⟨[], upd_same, rfl, fun k y h => by simp at h⟩, same_new hD⟩ (fun i H _ p => same_sqL p.same hs) (fun i x H hx p => ?_) fun H p => ?_
  · refine ⟨hw _, ?_⟩
    refine go_yes ?_
    refine iteT ?_
    refine he i x H hx p.same _ fun y H4 s4 hy => ?_
    have hi := (List.getElem?_eq_some_iff.mp hx).1
    exact acc_step hD (p.keep s4) hy (by omega)
  · obtain ⟨⟨ys, e, hl, hp⟩, s⟩ := p
    exact q D ys H hD s e hl hp
/-- [e for x in range(n)], behind the reading of n -/
theorem lcR1 {R : Addr → Hp → Prop} {n : Int} (P : Nat → V → Prop) (hz : n ≤ 100000) (hn : -(2 ^ 62) ≤ n) (hw : ∀ x, wipe ((wipe σ vs).set j x) vs = wipe σ vs)
    (he : ∀ (i : Nat) H', i < n.toNat → Same H1 H' → ∀ R : VK, (∀ y H'', Same H' H'' → P i y → R y H'') → te ((wipe σ vs).set j (some (.int i))) H' R)
    (q : ∀ D (ys : List V) H2, H1 D = none → Same H1 H2 → H2 D = some (.lst ys) → ys.length = n.toNat → (∀ k y, ys[k]? = some y → P k y) → R D H2) :
    ∃ k : Int, [V.int n] = [.int k] ∧ -(2 ^ 62) ≤ k ∧ k < 2 ^ 62 ∧ ∀ D, H1 D = none → ∃ W : Nat → Nat → Hp → Prop, (∃ m, W 0 m (upd H1 D (.lst []))) ∧ ∀ i m H, W i m H →
      ((Itr 0 k.toNat).stop i H ∧ R D H) ∨ ((Itr 0 k.toNat).go i H ∧ ∃ Nx : Hp → Prop, (∀ H', Nx H' → ∃ m', m' < m ∧ W (i + 1) m' H') ∧ ∀ x H', (Itr 0 k.toNat).yld i H x H' → gName j x (wipe σ vs) H' fun σ2 H2 => wipe σ2 vs = wipe σ vs ∧ tYes σ2 H2 fun b H3 =>
        if b = true then te σ2 H3 fun y H4 => ∃ acc, H4 D = some (.lst acc) ∧ acc.length < sizeLine ∧ Nx (upd H4 D (.lst (acc ++ [y]))) else Nx H3) := by
  refine ⟨n, rfl, hn, by omega, fun D hD => ?_⟩
  refine lc_range (lo := 0) (n := n.toNat) (Acc P H1 D) ⟨⟨[], upd_same, rfl, fun k y h => by simp at h⟩, same_new hD⟩ (fun i H hi p => ?_) fun H p => ?_
  · refine ⟨hw _, ?_⟩
    refine go_yes ?_
    refine iteT ?_
    rw [Int.zero_add]
    refine he i H hi p.same _ fun y H4 s4 hy => ?_
    exact acc_step hD (p.keep s4) hy (by omega)
  · obtain ⟨⟨ys, e, hl, hp⟩, s⟩ := p
    exact q D ys H hD s e hl hp
/-- for x in a list, behind the list's reading -/
theorem foL {D : Ends} {tb : TS} {a : Addr} (xs : List V) (Pv : Nat → L2.St → Hp → Prop) (h0 : Pv 0 σ H1) (hl : ∀ i σ H, i ≤ xs.length → Pv i σ H → SqL K H a xs)
    (hs : ∀ i x σ H, xs[i]? = some x → Pv i σ H → g x σ H fun σ2 H2 => tb { D with nx := Pv (i + 1), ct := Pv (i + 1), bk := D.nx } σ2 H2) (hd : ∀ σ H, Pv xs.length σ H → D.nx σ H) :
    ∃ b, V.ref a = .ref b ∧ (∃ xs, SqL K H1 b xs) ∧ ∃ W : Nat → Nat → L2.St → Hp → Prop, (∃ m, W 0 m σ H1) ∧ ∀ i m σ H, W i m σ H →
      ((Itl K b).stop i H ∧ D.nx σ H) ∨ ((Itl K b).go i H ∧ ∃ N : L2.St → Hp → Prop, (∀ σ' H', N σ' H' → ∃ m', m' < m ∧ W (i + 1) m' σ' H') ∧ ∀ x H', (Itl K b).yld i H x H' → g x σ H' fun σ2 H2 => tb { D with nx := N, ct := N, bk := D.nx } σ2 H2) :=
  ⟨a, rfl, ⟨xs, hl 0 σ H1 (Nat.zero_le _) h0⟩, for_list Pv h0 hl hs hd⟩
/-- for x in range(n), behind the reading of n -/
theorem foR1 {D : Ends} {tb : TS} {n : Int} (Pv : Nat → L2.St → Hp → Prop) (hn : -(2 ^ 62) ≤ n ∧ n < 2 ^ 62) (h0 : Pv 0 σ H1)
    (hs : ∀ (i : Nat) σ H, (i : Int) < n → Pv i σ H → g (.int i) σ H fun σ2 H2 => tb { D with nx := Pv (i + 1), ct := Pv (i + 1), bk := D.nx } σ2 H2) (hd : ∀ σ H, Pv n.toNat σ H → D.nx σ H) :
    ∃ k : Int, [V.int n] = [.int k] ∧ -(2 ^ 62) ≤ k ∧ k < 2 ^ 62 ∧ ∃ W : Nat → Nat → L2.St → Hp → Prop, (∃ m, W 0 m σ H1) ∧ ∀ i m σ H, W i m σ H →
      ((Itr 0 k.toNat).stop i H ∧ D.nx σ H) ∨ ((Itr 0 k.toNat).go i H ∧ ∃ N : L2.St → Hp → Prop, (∀ σ' H', N σ' H' → ∃ m', m' < m ∧ W (i + 1) m' σ' H') ∧ ∀ x H', (Itr 0 k.toNat).yld i H x H' → g x σ H' fun σ2 H2 => tb { D with nx := N, ct := N, bk := D.nx } σ2 H2) :=
  ⟨n, rfl, hn.1, hn.2, for_range Pv h0 (fun i σ H hi p => by rw [Int.zero_add]; exact hs i σ H (by omega) p) hd⟩
/-- while, by a measure that the invariant bears -/
theorem go_while {D : Ends} {c : TT} {tb : TS} (W : Nat → L2.St → Hp → Prop) (m : Nat) (h0 : W m σ H) (hs : ∀ m σ H, W m σ H → c σ H fun b H1 => if b = true then ∃ N : L2.St → Hp → Prop, (∀ σ' H', N σ' H' → ∃ m', m' < m ∧ W m' σ' H') ∧ tb { D with nx := N, ct := N, bk := D.nx } σ H1 else D.nx σ H1) :
    tWhile c tb D σ H := ⟨W, ⟨m, h0⟩, hs⟩
theorem go_loop {D : Ends} {tb : TS} {W : Nat → L2.St → Hp → Prop} {m : Nat} (h : tb { D with nx := fun σ' H' => ∃ m', m' < m ∧ W m' σ' H', ct := fun σ' H' => ∃ m', m' < m ∧ W m' σ' H', bk := D.nx } σ H) :
    ∃ N : L2.St → Hp → Prop, (∀ σ' H', N σ' H' → ∃ m', m' < m ∧ W m' σ' H') ∧ tb { D with nx := N, ct := N, bk := D.nx } σ H := ⟨_, fun _ _ h => h, h⟩
end
/-- all ints, each so -/
theorem ints_of {P : Int → Prop} : ∀ {ys : List V}, (∀ (k : Nat) y, ys[k]? = some y → ∃ w, y = V.int w ∧ P w) → ∃ ws : List Int, ys = ws.map V.int ∧ ∀ w ∈ ws, P w
  | [], _ => ⟨[], rfl, fun _ h => nomatch h⟩
  | y :: r, h => by
    obtain ⟨w, e, p⟩ := h 0 y rfl
    obtain ⟨ws, e2, p2⟩ := ints_of (ys := r) fun k z hz => h (k + 1) z hz
    refine ⟨w :: ws, by rw [e, e2, List.map_cons], fun z hz => ?_⟩
    rcases List.mem_cons.mp hz with rfl | hz
    · exact p
    · exact p2 z hz
end Gx

set_option Elab.async false
set_option linter.all false
set_option maxRecDepth 100000
set_option maxHeartbeats 4000000
/-! Own lemmas: a pool of numbers (a list that is changed by place), data, comprehensions that change it. -/
namespace Gx
open PySem PySem.Spec PyProof.Rows L2
section
variable {K : PySem.W.Frag} {σ : L2.St} {H H1 : Hp} {Q : VK} {tl te to ti : TE} {g : TG} {tt : TT} {vs : List Nat} {j : Nat} {wi : TI}
theorem go_sub {t : TSet} {v : V} {R : L2.St → Hp → Prop} (h : to σ H fun o H1 => ti σ H1 fun i H2 => t o i v H2 fun H3 => R σ H3) : gSub to ti t v σ H R := h
theorem go_setL {p : Addr} {xs : List V} {k : Int} {i : Nat} {v : V} {R : Hp → Prop} (e : H p = some (.lst xs)) (hi : ixN xs.length k = some i) (h : R (upd H p (.lst (xs.set i v)))) : rSetL (.ref p) (.int k) v H R :=
  ⟨p, xs, k, i, rfl, rfl, e, hi, h⟩
theorem go_setL2 {p : Addr} {xs : List V} {k : Int} {i : Nat} {v : V} {R : Hp → Prop} (hi : ixN xs.length k = some i) (h : R (upd H p (.lst (xs.set i v)))) : rSetL (.ref p) (.int k) v (upd H p (.lst xs)) R :=
  ⟨p, xs, k, i, rfl, rfl, upd_same, hi, by rw [upd_upd]; exact h⟩
theorem go_ixL2 {p : Addr} {xs : List V} {k : Int} {v : V} (e : atI xs k = some v) (h : Q v (upd H p (.lst xs))) : rIxL K (.ref p) (.int k) (upd H p (.lst xs)) Q := ⟨p, xs, k, v, rfl, rfl, .of upd_same, e, h⟩
theorem go_ixL1 {p : Addr} {xs : List V} {k : Int} {v : V} (h : H p = some (.lst xs)) (e : atI xs k = some v) (q : Q v H) : rIxL K (.ref p) (.int k) H Q := ⟨p, xs, k, v, rfl, rfl, .of h, e, q⟩
theorem go_ixT1 {p : Addr} {xs : List V} {k : Int} {v : V} (h : H p = some (.tup xs)) (e : atI xs k = some v) (q : Q v H) : rIxT K (.ref p) (.int k) H Q := ⟨p, xs, k, v, rfl, rfl, .of h, e, q⟩
end
/-- all else as it was -/
def But (a : Addr) (H H' : Hp) : Prop := ∀ b o, b ≠ a → H b = some o → H' b = some o
theorem But.refl (a : Addr) (H : Hp) : But a H H := fun _ _ _ h => h
theorem But.trans {a : Addr} {H H1 H2 : Hp} (h : But a H H1) (k : But a H1 H2) : But a H H2 := fun b o n e => k b o n (h b o n e)
theorem But.upd {a : Addr} {H H' : Hp} {o : HO} (h : But a H H') : But a H (upd H' a o) := fun b u n e => by rw [upd_ne n]; exact h b u n e
theorem But.new {a p : Addr} {H H' : Hp} {o : HO} (h : But a H H') (n : H' p = none) : But a H (L2.upd H' p o) := fun b u z e => by
  have q := h b u z e
  rw [upd_ne (ne_of_none q n)]
  exact q
theorem Same.but {a : Addr} {H H' : Hp} (s : Same H H') : But a H H' := fun b o _ e => s b o e
/-- a pool: where it stands, where its list of the script's numbers stands, these -/
structure Pl where
  a : Addr
  l : Addr
  ns : List Int
/-- the pool p stands in H; b: its budget -/
structure Pool (H : Hp) (p : Pl) (b : Int) : Prop where
  ex : ∃ (p1 p2 p3 p4 : Int), H p.a = some (.lst [.ref p.l, .int p1, .int p2, .int p3, .int p4, .int b]) ∧ 0 ≤ p1 ∧ 0 ≤ p3 ∧ p3 < 2147483647
  li : H p.l = some (.lst (p.ns.map V.int))
  ne : p.l ≠ p.a
theorem Pool.there {H : Hp} {p : Pl} {b : Int} (h : Pool H p b) : ∃ xs, H p.a = some (.lst xs) := let ⟨_, _, _, _, e, _⟩ := h.ex; ⟨_, e⟩
theorem Pool.same {H H' : Hp} {p : Pl} {b : Int} (h : Pool H p b) (s : Same H H') : Pool H' p b := by
  obtain ⟨p1, p2, p3, p4, e, k⟩ := h.ex
  exact ⟨⟨p1, p2, p3, p4, s _ _ e, k⟩, s _ _ h.li, h.ne⟩
theorem Pool.new {H : Hp} {p : Pl} {q : Addr} {b : Int} {o : HO} (h : Pool H p b) (n : H q = none) : Pool (upd H q o) p b := h.same (same_new n)
/-- another object is written -/
theorem Pool.upd {H : Hp} {p : Pl} {q : Addr} {b : Int} {o : HO} (h : Pool H p b) (n : q ≠ p.a) (n2 : q ≠ p.l) : Pool (upd H q o) p b := by
  obtain ⟨p1, p2, p3, p4, e, k⟩ := h.ex
  exact ⟨⟨p1, p2, p3, p4, by rw [upd_ne n.symm]; exact e, k⟩, by rw [upd_ne n2.symm]; exact h.li, h.ne⟩
/-- what is free behind was free before -/
theorem But.free {a p : Addr} {H H' : Hp} {o : HO} (h : But a H H') (e : H' a = some o) (n : H' p = none) : H p = none := by
  cases q : H p with
  | none => rfl
  | some u =>
    have ne : p ≠ a := fun z => by rw [z, e] at n; cases n
    rw [h p u ne q] at n
    cases n
/-- one pool's turn: the pool stands, all else is as it was -/
structure Turn (p : Pl) (b : Int) (H H' : Hp) : Prop where
  pool : Pool H' p b
  but : But p.a H H'
theorem Turn.refl {p : Pl} {b : Int} {H : Hp} (h : Pool H p b) : Turn p b H H := ⟨h, .refl p.a H⟩
theorem Turn.trans {p : Pl} {b b' : Int} {H H1 H2 : Hp} (h : Turn p b H H1) (k : Turn p b' H1 H2) : Turn p b' H H2 := ⟨k.pool, h.but.trans k.but⟩
theorem Turn.new {p : Pl} {q : Addr} {b : Int} {H H1 : Hp} {o : HO} (h : Turn p b H H1) (n : H1 q = none) : Turn p b H (upd H1 q o) := ⟨h.pool.new n, h.but.new n⟩
theorem Turn.same {p : Pl} {b : Int} {H H1 H2 : Hp} (h : Turn p b H H1) (s : Same H1 H2) : Turn p b H H2 := ⟨h.pool.same s, h.but.trans (Same.but s)⟩
theorem Turn.free {p : Pl} {q : Addr} {b : Int} {H H' : Hp} (h : Turn p b H H') (n : H' q = none) : H q = none := let ⟨_, e⟩ := h.pool.there; h.but.free e n
theorem Pool.nea {p : Pl} {q : Addr} {b : Int} {H : Hp} (h : Pool H p b) (n : H q = none) : q ≠ p.a := fun z => by
  obtain ⟨_, e⟩ := h.there
  rw [z, e] at n
  cases n
theorem Pool.nel {p : Pl} {q : Addr} {b : Int} {H : Hp} (h : Pool H p b) (n : H q = none) : q ≠ p.l := fun z => by
  rw [z, h.li] at n
  cases n
/-- a new list is written further -/
theorem Turn.mut {p : Pl} {q : Addr} {b b' : Int} {H H2 : Hp} {o : HO} (h0 : Pool H p b') (n : H q = none) (h : Turn p b H H2) : Turn p b H (upd H2 q o) :=
  ⟨h.pool.upd (h0.nea n) (h0.nel n), fun c u nc ec => by rw [upd_ne (ne_of_none ec n)]; exact h.but c u nc ec⟩

section
variable {K : PySem.W.Frag} {σ : L2.St} {H H1 : Hp} {Q : VK} {tl te : TE} {g : TG} {tt : TT} {vs : List Nat} {j : Nat} {wi : TI}
/-- [e for x in range(n)] whose element turns a pool -/
theorem lcPool {R : Addr → Hp → Prop} {n : Int} {p : Pl} {b : Int} (P : Nat → V → Prop) (hp : Pool H1 p b) (hz : n ≤ 100000) (hn : -(2 ^ 62) ≤ n) (hw : ∀ x, wipe ((wipe σ vs).set j x) vs = wipe σ vs)
    (he : ∀ (i : Nat) H', (i : Int) < n → Turn p b H1 H' → ∀ R : VK, (∀ y H'', Turn p b H' H'' → P i y → R y H'') → te ((wipe σ vs).set j (some (.int i))) H' R)
    (q : ∀ D (ys : List V) H2, H1 D = none → Turn p b H1 H2 → H2 D = some (.lst ys) → ys.length = n.toNat → (∀ k y, ys[k]? = some y → P k y) → R D H2) :
    ∃ k : Int, [V.int n] = [.int k] ∧ -(2 ^ 62) ≤ k ∧ k < 2 ^ 62 ∧ ∀ D, H1 D = none → ∃ W : Nat → Nat → Hp → Prop, (∃ m, W 0 m (upd H1 D (.lst []))) ∧ ∀ i m H, W i m H →
      ((Itr 0 k.toNat).stop i H ∧ R D H) ∨ ((Itr 0 k.toNat).go i H ∧ ∃ Nx : Hp → Prop, (∀ H', Nx H' → ∃ m', m' < m ∧ W (i + 1) m' H') ∧ ∀ x H', (Itr 0 k.toNat).yld i H x H' → gName j x (wipe σ vs) H' fun σ2 H2 => wipe σ2 vs = wipe σ vs ∧ tYes σ2 H2 fun b H3 =>
        if b = true then te σ2 H3 fun y H4 => ∃ acc, H4 D = some (.lst acc) ∧ acc.length < sizeLine ∧ Nx (upd H4 D (.lst (acc ++ [y]))) else Nx H3) := by
  refine ⟨n, rfl, hn, by omega, fun D hD => ?_⟩
  have nD : D ≠ p.a := hp.nea hD
  refine lc_range (lo := 0) (n := n.toNat) (fun i H' => (∃ ys : List V, H' D = some (.lst ys) ∧ ys.length = i ∧ ∀ k y, ys[k]? = some y → P k y) ∧ Turn p b H1 H') ⟨⟨[], upd_same, rfl, fun k y h => by simp at h⟩, (Turn.refl hp).new hD⟩ (fun i H hi p => ?_) fun H p => ?_
  · refine ⟨hw _, ?_⟩
    refine go_yes ?_
    refine iteT ?_
    rw [Int.zero_add]
    obtain ⟨⟨ys, e, hl, hP⟩, t⟩ := p
    refine he i H (by omega) t _ fun y H4 s4 hy => ?_
    have e4 := s4.but D _ nD e
    refine ⟨ys, e4, szlt (by omega), ⟨ys ++ [y], upd_same, by simp [hl], fun k z hz => ?_⟩, Turn.mut hp hD (t.trans s4)⟩
    rcases Nat.lt_or_ge k ys.length with h | h
    · rw [List.getElem?_append_left h] at hz
      exact hP k z hz
    · rw [List.getElem?_append_right h] at hz
      rcases Nat.eq_or_lt_of_le h with e2 | e2
      · rw [← e2, Nat.sub_self] at hz
        cases hz
        rw [← e2, hl]
        exact hy
      · rw [List.getElem?_eq_none (by simp; omega)] at hz
        cases hz
  · obtain ⟨⟨ys, e, hl, hP⟩, t⟩ := p
    exact q D ys H hD t e hl hP
end
/-! ### data -/
theorem tyx_list {K : PySem.W.Frag} {H : Hp} {a : Addr} {xs : List V} (h : SqL K H a xs) : TyX K H (.ref a) (.type "list") := by
  rcases h with (h | ⟨o, h⟩) | ⟨o, its, n, e, c, _⟩
  · exact .base (.lst h)
  · exact .base (.frz h)
  · exact .kList e c
theorem tyx_tup {K : PySem.W.Frag} {H : Hp} {a : Addr} {xs : List V} (h : SqT K H a xs) : TyX K H (.ref a) (.type "tuple") := by
  rcases h with (h | ⟨o, h⟩) | ⟨o, its, n, e, c, _⟩
  · exact .base (.tup h)
  · exact .fTuple h
  · exact .kTuple e c
/-- the same data, at most n deep -/
inductive Eqd (K : PySem.W.Frag) (H : Hp) : Nat → V → V → Prop where
  | non {n : Nat} : Eqd K H n .non .non
  | bl {n : Nat} (b : Bool) : Eqd K H n (.bl b) (.bl b)
  | int {n : Nat} (i : Int) : Eqd K H n (.int i) (.int i)
  | str {n : Nat} (x : Str) : Eqd K H n (.str x) (.str x)
  | lst {n : Nat} {a b : Addr} {xs ys : List V} (h1 : SqL K H a xs) (h2 : SqL K H b ys) (hl : xs.length = ys.length) (hz : xs.length ≤ 100000) (h : ∀ (i : Nat) x y, xs[i]? = some x → ys[i]? = some y → Eqd K H n x y) : Eqd K H (n + 1) (.ref a) (.ref b)
  | tup {n : Nat} {a b : Addr} {xs ys : List V} (h1 : SqT K H a xs) (h2 : SqT K H b ys) (hl : xs.length = ys.length) (hz : xs.length ≤ 100000) (h : ∀ (i : Nat) x y, xs[i]? = some x → ys[i]? = some y → Eqd K H n x y) : Eqd K H (n + 1) (.ref a) (.ref b)
section
variable {K : PySem.W.Frag} {H H1 : Hp} {Q : VK}
theorem go_isiL (c : String) {b : Bool} {a : Addr} {xs : List V} (h : SqL K H a xs) (e : kitB "list" c = some b) (q : Q (.bl b) H) : rIsi K [.ref a, .ty c] H Q := go_isiB (tyx_list h) e q
theorem go_isiT (c : String) {b : Bool} {a : Addr} {xs : List V} (h : SqT K H a xs) (e : kitB "tuple" c = some b) (q : Q (.bl b) H) : rIsi K [.ref a, .ty c] H Q := go_isiB (tyx_tup h) e q
theorem sq_list_int {a : Addr} {xs : List V} (h : SqL K H a xs) (q : Q (.bl false) H) : rIsi K [.ref a, .ty "int"] H Q := go_isiB (tyx_list h) (by decide +kernel) q
theorem sq_list_bool {a : Addr} {xs : List V} (h : SqL K H a xs) (q : Q (.bl false) H) : rIsi K [.ref a, .ty "bool"] H Q := go_isiB (tyx_list h) (by decide +kernel) q
theorem sq_list_str {a : Addr} {xs : List V} (h : SqL K H a xs) (q : Q (.bl false) H) : rIsi K [.ref a, .ty "str"] H Q := go_isiB (tyx_list h) (by decide +kernel) q
theorem sq_list_list {a : Addr} {xs : List V} (h : SqL K H a xs) (q : Q (.bl true) H) : rIsi K [.ref a, .ty "list"] H Q := go_isiB (tyx_list h) (by decide +kernel) q
theorem sq_list_tuple {a : Addr} {xs : List V} (h : SqL K H a xs) (q : Q (.bl false) H) : rIsi K [.ref a, .ty "tuple"] H Q := go_isiB (tyx_list h) (by decide +kernel) q
theorem sq_tuple_int {a : Addr} {xs : List V} (h : SqT K H a xs) (q : Q (.bl false) H) : rIsi K [.ref a, .ty "int"] H Q := go_isiB (tyx_tup h) (by decide +kernel) q
theorem sq_tuple_bool {a : Addr} {xs : List V} (h : SqT K H a xs) (q : Q (.bl false) H) : rIsi K [.ref a, .ty "bool"] H Q := go_isiB (tyx_tup h) (by decide +kernel) q
theorem sq_tuple_str {a : Addr} {xs : List V} (h : SqT K H a xs) (q : Q (.bl false) H) : rIsi K [.ref a, .ty "str"] H Q := go_isiB (tyx_tup h) (by decide +kernel) q
theorem sq_tuple_list {a : Addr} {xs : List V} (h : SqT K H a xs) (q : Q (.bl false) H) : rIsi K [.ref a, .ty "list"] H Q := go_isiB (tyx_tup h) (by decide +kernel) q
theorem sq_tuple_tuple {a : Addr} {xs : List V} (h : SqT K H a xs) (q : Q (.bl true) H) : rIsi K [.ref a, .ty "tuple"] H Q := go_isiB (tyx_tup h) (by decide +kernel) q
theorem go_ixQL {a : Addr} {xs : List V} {k : Int} {v : V} (hs : SqL K H a xs) (e : atI xs k = some v) (h : Q v H) : rIx K (.ref a) (.int k) H Q := .inl ⟨a, xs, k, v, rfl, rfl, hs, e, h⟩
theorem go_ixQT {a : Addr} {xs : List V} {k : Int} {v : V} (hs : SqT K H a xs) (e : atI xs k = some v) (h : Q v H) : rIx K (.ref a) (.int k) H Q := .inr (.inl ⟨a, xs, k, v, rfl, rfl, hs, e, h⟩)
end
/-! ### texts -/
abbrev S : List Nat → Str := SX.S
section
variable {X : Cx} {σ : L2.St} {H H1 : Hp} {Q : VK} {K : PySem.W.Frag} {o e : Expr} {to te : TE}
def qSplit : V → List V → Hp → VK → Prop := fun x xs H Q => ∃ a b, x = .str a ∧ xs = [.str b] ∧ (b.length == 0) = false ∧ a.length + 2 ≤ sizeLine ∧ rNewStrs (Txt.split a b) H Q
theorem e_split {apos pos : Pos} (ho : PE X o to) (he : PE X e te) (hs : starEach [e] X.env = [(false, eval e X.env)] := by rfl) (hbase : attributeBase o "split" X.env (eval o X.env) = eval o X.env := by rfl) (hline : (apos.endLine == pos.line) = true := by rfl) :
    PE X (.Call (.Attribute o "split" apos) [e] [] pos) (tM1 qSplit to te) := pe_split ho he hs hbase hline
theorem go_M1 {r : V → List V → Hp → VK → Prop} (h : to σ H fun x H1 => (∃ a, x = .str a) ∧ te σ H1 fun y H2 => r x [y] H2 Q) : tM1 r to te σ H Q := h
theorem go_M0 {r : V → List V → Hp → VK → Prop} (h : to σ H fun x H1 => (∃ a, x = .str a) ∧ r x [] H1 Q) : tM0 r to σ H Q := h
theorem go_isS {a : Str} {B : Prop} (h : B) : (∃ b, V.str a = .str b) ∧ B := ⟨⟨a, rfl⟩, h⟩
theorem go_split {a : List Nat} (ha : a.length ≤ 90000) {c : Nat} (hc : c < 256) (h : ∀ p, H p = none → Q (.ref p) (upd H p (.lst ((TL.spl [c] 0 [] a).map fun w => V.str (S w))))) : qSplit (.str (S a)) [.str (S [c])] H Q := by
  refine ⟨S a, S [c], rfl, rfl, rfl, by rw [SX.S_len]; exact sz (by omega), ?_⟩
  rw [SX.split_S (by simp) (by simp [hc])]
  intro p hp
  rw [List.map_map]
  exact h p hp
def qJoin (K : PySem.W.Frag) : V → List V → Hp → VK → Prop := fun x xs H Q => ∃ a p, ∃ ys : List Str, x = .str a ∧ xs = [.ref p] ∧ (SqL K H p (ys.map V.str) ∨ SqT K H p (ys.map V.str)) ∧ (ys.map (·.length)).sum + ys.length * a.length ≤ 16777216 ∧ Q (.str (Txt.join a ys)) H
theorem e_join {apos pos : Pos} (ho : PE X o to) (he : PE X e te) (hs : starEach [e] X.env = [(false, eval e X.env)] := by rfl) (hbase : attributeBase o "join" X.env (eval o X.env) = eval o X.env := by rfl) (hline : (apos.endLine == pos.line) = true := by rfl) :
    PE X (.Call (.Attribute o "join" apos) [e] [] pos) (tM1 (qJoin X.K) to te) := pe_join ho he hs hbase hline
theorem go_join {a : List Nat} {p : Addr} {ws : List (List Nat)} (hs : SqL K H p (ws.map fun w => V.str (S w))) (hz : (ws.map List.length).sum + ws.length * a.length ≤ 16777216) (h : Q (.str (S (TL.joinL a ws))) H) : qJoin K (.str (S a)) [.ref p] H Q := by
  refine ⟨S a, p, ws.map S, rfl, rfl, .inl (by rw [List.map_map]; exact hs), ?_, by rw [SX.join_S]; exact h⟩
  rw [SX.lens, List.length_map, SX.S_len]
  exact hz
/-- for c in a text -/
theorem go_iStr {R : It → Hp → Prop} (h : te σ H fun v H1 => ∃ x, v = .str x ∧ R (Its x) H1) : iStr te σ H R := h
theorem foS {D : Ends} {tb : TS} {g : TG} (cs : List Nat) (Pv : Nat → L2.St → Hp → Prop) (h0 : Pv 0 σ H1)
    (hs : ∀ i c σ H, cs[i]? = some c → Pv i σ H → g (.str (S [c])) σ H fun σ2 H2 => tb { D with nx := Pv (i + 1), ct := Pv (i + 1), bk := D.nx } σ2 H2) (hd : ∀ σ H, Pv cs.length σ H → D.nx σ H) :
    ∃ x, V.str (S cs) = .str x ∧ ∃ W : Nat → Nat → L2.St → Hp → Prop, (∃ m, W 0 m σ H1) ∧ ∀ i m σ H, W i m σ H →
      ((Its x).stop i H ∧ D.nx σ H) ∨ ((Its x).go i H ∧ ∃ N : L2.St → Hp → Prop, (∀ σ' H', N σ' H' → ∃ m', m' < m ∧ W (i + 1) m' σ' H') ∧ ∀ x2 H', (Its x).yld i H x2 H' → g x2 σ H' fun σ2 H2 => tb { D with nx := N, ct := N, bk := D.nx } σ2 H2) := by
  refine ⟨S cs, rfl, fun i m σ H => m = cs.length - i ∧ i ≤ cs.length ∧ Pv i σ H, ⟨cs.length, by simp, Nat.zero_le _, h0⟩, ?_⟩
  rintro i m σ H ⟨rfl, hi, p⟩
  have hsz : (S cs).cps.size = cs.length := by simp
  by_cases hlt : i < cs.length
  · refine .inr ⟨by show i < (S cs).cps.size; rw [hsz]; exact hlt, Pv (i + 1), fun σ' H' p' => ⟨cs.length - (i + 1), by omega, rfl, hlt, p'⟩, fun x H' y => ?_⟩
    obtain ⟨e, c, hc, rfl⟩ := y
    subst e
    refine hs i c σ _ ?_ p
    have : (S cs).cps[i]? = some c := hc
    simpa using this
  · have e : i = cs.length := by omega
    subst e
    exact .inl ⟨by show (S cs).cps.size ≤ cs.length; omega, hd σ H p⟩
theorem at_mem {α : Type} {xs : List α} {i : Nat} {v : α} (h : atI xs (i : Int) = some v) : v ∈ xs := by
  unfold atI ixN at h
  rw [if_pos (by omega)] at h
  split at h
  · rw [Option.bind_some, Int.toNat_natCast] at h
    exact List.mem_of_getElem? h
  · cases h
theorem atS_ex {z : Str} {k : Int} (h0 : 0 ≤ k) (h : k < z.length) : ∃ c, atI z.cps.toList k = some c := by
  have e : k = (k.toNat : Int) := by omega
  have h2 : k.toNat < z.cps.toList.length := by
    have : z.length = z.cps.toList.length := by simp [Str.length]
    omega
  rw [e]
  exact ⟨_, atI_nat (List.getElem?_eq_getElem h2)⟩
theorem dp_strs : ∀ ws : List Str, DpAll K H (ws.map V.str) (ws.map PyData.str)
  | [] => .nil
  | n :: r => .cons (.str n) (dp_strs r)
theorem eqvAll_strs : ∀ xs : List Str, PyData.eqvAll (xs.map PyData.str) (xs.map PyData.str) = true
  | [] => by simp [PyData.eqvAll]
  | x :: xs => by simp only [List.map_cons, PyData.eqvAll, PyData.eqv, eqvAll_strs xs]; simp
theorem depth_strs : ∀ xs : List Str, PyData.depthAll (xs.map PyData.str) = 0
  | [] => rfl
  | x :: xs => by
    rw [List.map_cons]
    unfold PyData.depthAll
    rw [depth_strs xs]
    rfl
theorem canLay_strs : ∀ xs : List Str, xs.all PyData.strOk = true → PyData.canLayAll0 (xs.map PyData.str) = true
  | [], _ => rfl
  | x :: xs, h => by
    rw [List.all_cons, Bool.and_eq_true] at h
    rw [List.map_cons]
    simp only [PyData.canLayAll0, PyData.canLay0, canLay_strs xs h.2, h.1, Bool.and_self]
theorem shaped_strs (xs : List Str) (h : xs.all PyData.strOk = true) : SeqAt.shaped (.list (xs.map PyData.str)) = true := by
  unfold SeqAt.shaped
  have h1 : PyData.canLay0 (.list (xs.map PyData.str)) = true := by
    simp only [PyData.canLay0]
    exact canLay_strs xs h
  have h2 : PyData.depth (.list (xs.map PyData.str)) ≤ 64 := by
    unfold PyData.depth
    rw [depth_strs xs]
    decide
  rw [h1, decide_eq_true h2]
  rfl
theorem go_eqStrs {a b : Addr} {xs : List Str} (h1 : SqL K H a (xs.map V.str)) (h2 : SqL K H b (xs.map V.str)) (ho : xs.all PyData.strOk = true) (h : Q (.bl true) H) : rEqD K (.ref a) (.ref b) H Q :=
  ⟨_, _, .lst h1 (dp_strs xs), .lst h2 (dp_strs xs), shaped_strs xs ho, shaped_strs xs ho, by rw [PyData.eqv, eqvAll_strs]; exact h⟩
end
end Gx

set_option Elab.async false
set_option linter.all false
set_option maxRecDepth 100000
set_option maxHeartbeats 4000000
/-! Own lemmas: operators that a class defines; gcd, lcm, // of great ints. -/
namespace Gx
open PySem PySem.Spec PyProof.Rows L2
section
variable {X : Cx} {CX : CXT} {C f : Addr} {fd : FuncData} {ps : List Str} {sp : Sp} {E : XK} {k : Nat} {Q : VK} {H : Hp}
theorem back_of {pins : List (Addr × Obj)} {σ : L2.St} {M : Model} {A : Around} {R : Value → Shared → Prop} {t : Sem Value} {s : Shared} (h : wpAny M A t (EP X pins σ Q) R s) : wpAny M A t (PySem.W.CmpBack (EP X pins σ Q)) R s := by
  refine wpAny_mono h (fun v s' q => ?_) fun _ _ z => z
  cases v <;> first | exact q | (obtain ⟨x, H', I, r, q⟩ := q; cases x <;> first | (cases r; done) | (obtain ⟨_, r⟩ := r; cases r))
/-- x op y by the class's own method -/
def rOwn (C : Addr) (sp : Sp) (E : XK) : R2 := fun x y H Q => ∃ a b dx dy fs gs, x = .ref a ∧ y = .ref b ∧ H a = some (.ins C dx fs) ∧ H b = some (.ins C dy gs) ∧ sp [x, y] H Q E
theorem go_own {a b dx dy : Addr} {fs gs : List (Str × V)} (h1 : H a = some (.ins C dx fs)) (h2 : H b = some (.ins C dy gs)) (h : sp [.ref a, .ref b] H Q E) : rOwn C sp E (.ref a) (.ref b) H Q := ⟨a, b, dx, dy, fs, gs, rfl, rfl, h1, h2, h⟩
theorem op_own {op : Operator} (hc : PySem.W.selfFirst X.K C = true) (hs : PySem.W.findIn X.K (.ref C) (PySem.dunder op.info.2) = some (some (.ref f))) (hf : PySem.W.isFn X.K (.ref f) = true)
    (F : FnOk X.prog X.w X.K X.mg X.base CX k f fd ps sp) (hr : Room k X.A) (hb : Binds X.K fd ps []) (hx : Passes CX X E) : OpR X (binaryOp op) (rOwn C sp E) := by
  intro pins s σ H x y v u Q I rx ry h
  obtain ⟨a, b, dx, dy, fs, gs, rfl, rfl, ha, hb', hq⟩ := h
  have rx' := rx
  have ry' := ry
  cases rx
  cases ry
  obtain ⟨mA, J, _⟩ := ins_get I.hok ha
  obtain ⟨mB, J', _⟩ := ins_get I.hok hb'
  obtain ⟨od, J, _⟩ := J.look
  obtain ⟨od', J', _⟩ := J'.look
  obtain ⟨m, hF⟩ := I.fr
  refine PySem.W.binop_K hF I.ok.mod.kin J J'.type hc hs hf (back_of ?_)
  exact run_fn F hr hb .nil hx I (.cons rx' (.cons ry' .nil)) (by simpa using hq)
/-- x == y, x != y by the class's own method (op: its own name) -/
theorem op_ownCmp {op : CmpOp} (hcmp : ∀ v u, compareOp op v u = richCompare op v u) (hc : PySem.W.notFirst X.K C (.ref C) = true) (hs : PySem.W.findIn X.K (.ref C) (cmpInfo op).2.1 = some (some (.ref f))) (hf : PySem.W.isFn X.K (.ref f) = true)
    (F : FnOk X.prog X.w X.K X.mg X.base CX k f fd ps sp) (hr : Room k X.A) (hb : Binds X.K fd ps []) (hx : Passes CX X E) : OpR X (compareOp op) (rOwn C sp E) := by
  intro pins s σ H x y v u Q I rx ry h
  obtain ⟨a, b, dx, dy, fs, gs, rfl, rfl, ha, hb', hq⟩ := h
  have rx' := rx
  have ry' := ry
  cases rx
  cases ry
  obtain ⟨mA, J, _⟩ := ins_get I.hok ha
  obtain ⟨mB, J', _⟩ := ins_get I.hok hb'
  obtain ⟨od, J, _⟩ := J.look
  obtain ⟨od', J', _⟩ := J'.look
  obtain ⟨m, hF⟩ := I.fr
  rw [hcmp]
  refine PySem.W.cmp_K hr.units0 hF I.ok.mod.kin J J'.type hc hs hf (back_of ?_)
  exact run_fn F hr hb .nil hx I (.cons rx' (.cons ry' .nil)) (by simpa using hq)
/-- -x by the class's own method -/
def uOwn (C : Addr) (sp : Sp) (E : XK) : V → Hp → VK → Prop := fun x H Q => ∃ a dx fs, x = .ref a ∧ H a = some (.ins C dx fs) ∧ sp [x] H Q E
theorem go_uOwn {a dx : Addr} {fs : List (Str × V)} (h1 : H a = some (.ins C dx fs)) (h : sp [.ref a] H Q E) : uOwn C sp E (.ref a) H Q := ⟨a, dx, fs, rfl, h1, h⟩
theorem un_own (hs : PySem.W.findIn X.K (.ref C) "__neg__" = some (some (.ref f))) (hf : PySem.W.isFn X.K (.ref f) = true)
    (F : FnOk X.prog X.w X.K X.mg X.base CX k f fd ps sp) (hr : Room k X.A) (hb : Binds X.K fd ps []) (hx : Passes CX X E) : UnR X (unaryOp .USub) (uOwn C sp E) := by
  intro pins s σ H x v Q I rx h
  obtain ⟨a, dx, fs, rfl, ha, hq⟩ := h
  have rx' := rx
  cases rx
  obtain ⟨mA, J, _⟩ := ins_get I.hok ha
  obtain ⟨od, J, _⟩ := J.look
  unfold unaryOp
  refine wpAny_holding ?_
  dsimp only
  rw [if_neg (by decide)]
  refine wpAny_bind (PySem.W.special_fn I.kIn J hs (beq_iff_eq.mp hf) ?_)
  exact wpAny_mono (run_fn F hr hb .nil hx I (.cons rx' .nil) (by simpa using hq)) (fun v s' q => wpAny_pure q) fun _ _ z => z
/-! ### great ints -/
def CDivX (_ j : Int) : Prop := j ≠ 0 ∧ j.natAbs.log2 < 9000
theorem op_fdivX : OpR X (binaryOp .FloorDiv) (rI CDivX fun i j => .int (i.fdiv j)) := opI fun _ _ _ _ _ _ _ hc q => floordiv_int hc.1 q (.inl (PyProof.noPylong_of_log2 hc.2))
theorem divX {i j : Int} {b : Nat} (h : j ≠ 0) (hb : j.natAbs < 2 ^ b) (h0 : 0 < b) (h9 : b ≤ 9000) : CDivX i j := ⟨h, Nat.lt_of_lt_of_le (PySem.Flt.log2_lt_of h0 hb) h9⟩
theorem go_gcd {a b : Int} (h : Q (.int ((Nat.gcd a.natAbs b.natAbs : Nat) : Int)) H) : rGcd [.int a, .int b] H Q := ⟨a, b, rfl, h⟩
/-- two numbers of up to 9000 bits -/
def rLcm : List V → Hp → VK → Prop := fun vs H Q => ∃ a b : Int, vs = [.int a, .int b] ∧ a.natAbs < 2 ^ 9000 ∧ b.natAbs < 2 ^ 9000 ∧ Q (.int ((Nat.lcm a.natAbs b.natAbs : Nat) : Int)) H
theorem log2_le {n k : Nat} (h : n < 2 ^ (k + 1)) : n.log2 ≤ k := PySem.W.mg_log h
theorem cr_lcm : CallR X (.builtin "math.lcm") rLcm := by
  intro pins s σ H vs us Q I r h
  obtain ⟨a, b, rfl, ha, hb, q⟩ := h
  obtain ⟨t, u, rfl⟩ := Vals.int2 r
  have h1 : (max 1 a.natAbs).log2 ≤ 8999 := log2_le (by
    have : 1 < 2 ^ 9000 := Nat.one_lt_two_pow (by decide)
    show max 1 a.natAbs < 2 ^ 9000
    omega)
  have h2 : (max a.natAbs b.natAbs).log2 ≤ 8999 := log2_le (by show max a.natAbs b.natAbs < 2 ^ 9000; omega)
  have e : (Nat.lcm 1 a.natAbs) = a.natAbs := Nat.lcm_one_left _
  have hz : ((((Nat.lcm 1 a.natAbs).lcm b.natAbs : Nat) : Int)).natAbs.log2 < bitsLine := by
    rw [e, Int.natAbs_natCast]
    have hm : a.natAbs.lcm b.natAbs ≤ a.natAbs * b.natAbs := Nat.div_le_self _ _
    have hl : a.natAbs.lcm b.natAbs < 2 ^ (17999 + 1) := by
      have : a.natAbs * b.natAbs < 2 ^ 9000 * 2 ^ 9000 := Nat.mul_lt_mul'' ha hb
      rw [← Nat.pow_add] at this
      exact Nat.lt_of_le_of_lt hm this
    have := log2_le hl
    have hb : bitsLine = 134217728 := by decide
    omega
  have g := PySem.W.mg_run_lcm a t b u (by omega) (by omega) hz
  refine call_function_meets PySem.W.MGF.kind_lcm PySem.W.MGF.plain_lcm PySem.W.MGF.entry_lcm (PySem.W.MGF.args_lcm _ _) g.meets ?_
  rw [e]
  exact ⟨.int _, H, I.tok _, ⟨_, rfl⟩, q⟩
theorem go_lcm {a b : Int} (ha : a.natAbs < 2 ^ 9000) (hb : b.natAbs < 2 ^ 9000) (h : Q (.int ((Nat.lcm a.natAbs b.natAbs : Nat) : Int)) H) : rLcm [.int a, .int b] H Q := ⟨a, b, rfl, ha, hb, h⟩
end
end Gx

set_option Elab.async false
set_option linter.all false
set_option maxRecDepth 100000
set_option maxHeartbeats 4000000
/-! Own lemmas: fractions in lowest terms; Euclid's loop. -/
namespace Gx
open PySem PySem.Spec PyProof.Rows L2
/-- the numerator and the denominator in lowest terms -/
def rN (a b : Int) : Int := if b < 0 then (-a) / (Int.gcd a b : Int) else a / (Int.gcd a b : Int)
def rD (a b : Int) : Int := if b < 0 then (-b) / (Int.gcd a b : Int) else b / (Int.gcd a b : Int)
theorem gcd_pos {a b : Int} (h : b ≠ 0) : 0 < (Int.gcd a b : Int) := by
  have := Int.gcd_pos_of_ne_zero_right a h
  omega
theorem gcd_l (a b : Int) : (Int.gcd a b : Int) ∣ a := Int.gcd_dvd_left _ _
theorem gcd_r (a b : Int) : (Int.gcd a b : Int) ∣ b := Int.gcd_dvd_right _ _
/-- one form for both signs -/
theorem rN_mul {a b : Int} (h : b ≠ 0) : rN a b * (if b < 0 then -(Int.gcd a b : Int) else (Int.gcd a b : Int)) = a := by
  unfold rN
  split
  · rw [Int.mul_neg, Int.ediv_mul_cancel (Int.dvd_neg.mpr (gcd_l a b)), Int.neg_neg]
  · exact Int.ediv_mul_cancel (gcd_l a b)
theorem rD_mul {a b : Int} (h : b ≠ 0) : rD a b * (if b < 0 then -(Int.gcd a b : Int) else (Int.gcd a b : Int)) = b := by
  unfold rD
  split
  · rw [Int.mul_neg, Int.ediv_mul_cancel (Int.dvd_neg.mpr (gcd_r a b)), Int.neg_neg]
  · exact Int.ediv_mul_cancel (gcd_r a b)
theorem rD_pos {a b : Int} (h : b ≠ 0) : 0 < rD a b := by
  have g := gcd_pos (a := a) h
  have e := rD_mul (a := a) h
  by_cases hb : b < 0
  · rw [if_pos hb] at e
    by_cases q : 0 < rD a b
    · exact q
    · have : 0 ≤ rD a b * -(Int.gcd a b : Int) := Int.mul_nonneg_of_nonpos_of_nonpos (by omega) (by omega)
      omega
  · rw [if_neg hb] at e
    by_cases q : 0 < rD a b
    · exact q
    · have : rD a b * (Int.gcd a b : Int) ≤ 0 := Int.mul_nonpos_of_nonpos_of_nonneg (by omega) (by omega)
      omega
theorem r_cross {a b : Int} (h : b ≠ 0) : rN a b * b = a * rD a b := by
  have e1 := rN_mul (a := a) h
  have e2 := rD_mul (a := a) h
  generalize (if b < 0 then -(Int.gcd a b : Int) else (Int.gcd a b : Int)) = g at e1 e2
  calc rN a b * b = rN a b * (rD a b * g) := by rw [e2]
    _ = (rN a b * g) * rD a b := by rw [Int.mul_comm (rD a b) g, ← Int.mul_assoc]
    _ = a * rD a b := by rw [e1]
theorem r_coprime {a b : Int} (h : b ≠ 0) : Int.gcd (rN a b) (rD a b) = 1 := by
  have g := gcd_pos (a := a) h
  have e1 := rN_mul (a := a) h
  have e2 := rD_mul (a := a) h
  have e3 : Int.gcd (rN a b * (if b < 0 then -(Int.gcd a b : Int) else (Int.gcd a b : Int))) (rD a b * (if b < 0 then -(Int.gcd a b : Int) else (Int.gcd a b : Int))) = Int.gcd a b := by rw [e1, e2]
  rw [Int.gcd_mul_right] at e3
  have e4 : (if b < 0 then -(Int.gcd a b : Int) else (Int.gcd a b : Int)).natAbs = Int.gcd a b := by
    split
    · rw [Int.natAbs_neg, Int.natAbs_natCast]
    · rw [Int.natAbs_natCast]
  rw [e4] at e3
  have hp : 0 < Int.gcd a b := by omega
  exact Nat.eq_of_mul_eq_mul_right hp (by omega)
theorem dvd_co {k m n : Int} (h : k ∣ m * n) (g : Int.gcd k m = 1) : k ∣ n := by
  have h' : k.natAbs ∣ m.natAbs * n.natAbs := by
    rw [← Int.natAbs_mul]
    exact Int.natAbs_dvd_natAbs.mpr h
  exact Int.natAbs_dvd_natAbs.mp (Nat.Coprime.dvd_of_dvd_mul_left (show Nat.gcd k.natAbs m.natAbs = 1 from g) h')
/-- lowest terms are one -/
theorem low_unique {n d n' d' : Int} (hd : 0 < d) (hd' : 0 < d') (h1 : Int.gcd n d = 1) (h2 : Int.gcd n' d' = 1) (h : n * d' = n' * d) : n = n' ∧ d = d' := by
  have k1 : d ∣ d' := by
    have : d ∣ n * d' := by rw [h]; exact Int.dvd_mul_left _ _
    exact dvd_co this (by rw [Int.gcd_comm]; exact h1)
  have k2 : d' ∣ d := by
    have : d' ∣ n' * d := by rw [← h]; exact Int.dvd_mul_left _ _
    exact dvd_co this (by rw [Int.gcd_comm]; exact h2)
  have e : d = d' := Int.dvd_antisymm (by omega) (by omega) k1 k2
  subst e
  exact ⟨Int.eq_of_mul_eq_mul_right (by omega) h, rfl⟩
theorem r_unique {a b n d : Int} (h : b ≠ 0) (hd : 0 < d) (hg : Int.gcd n d = 1) (e : n * b = a * d) : n = rN a b ∧ d = rD a b := by
  refine low_unique hd (rD_pos h) hg (r_coprime h) ?_
  have c := r_cross (a := a) h
  have : n * rD a b * b = rN a b * d * b := by
    calc n * rD a b * b = n * b * rD a b := by rw [Int.mul_right_comm]
      _ = a * d * rD a b := by rw [e]
      _ = a * rD a b * d := by rw [Int.mul_right_comm]
      _ = rN a b * b * d := by rw [c]
      _ = rN a b * d * b := by rw [Int.mul_right_comm]
  exact Int.eq_of_mul_eq_mul_right h this
theorem r_congr {a b a' b' : Int} (h : b ≠ 0) (h' : b' ≠ 0) (e : a * b' = a' * b) : rN a b = rN a' b' ∧ rD a b = rD a' b' := by
  refine r_unique h' (rD_pos h) (r_coprime h) ?_
  have c := r_cross (a := a) h
  have : rN a b * b' * b = a' * rD a b * b := by
    calc rN a b * b' * b = rN a b * b * b' := by rw [Int.mul_right_comm]
      _ = a * rD a b * b' := by rw [c]
      _ = a * b' * rD a b := by rw [Int.mul_right_comm]
      _ = a' * b * rD a b := by rw [e]
      _ = a' * rD a b * b := by rw [Int.mul_right_comm]
  exact Int.eq_of_mul_eq_mul_right h this
/-- what the program reckons -/
theorem rN_fdiv {a b : Int} (h : b ≠ 0) {p : Int} (hp : p = if b < 0 then -(Int.gcd a b : Int) else (Int.gcd a b : Int)) : a.fdiv p = rN a b ∧ b.fdiv p = rD a b ∧ p ≠ 0 := by
  have g := gcd_pos (a := a) h
  have hp0 : p ≠ 0 := by rw [hp]; split <;> omega
  have e1 := rN_mul (a := a) h
  have e2 := rD_mul (a := a) h
  rw [← hp] at e1 e2
  refine ⟨?_, ?_, hp0⟩
  · have := Int.mul_fdiv_cancel (rN a b) hp0
    rw [e1] at this
    exact this
  · have := Int.mul_fdiv_cancel (rD a b) hp0
    rw [e2] at this
    exact this
theorem mul_abs_le {x y z : Int} (hz : z ≠ 0) (e : x * z = y) : x.natAbs ≤ y.natAbs := by
  rw [← e, Int.natAbs_mul]
  exact Nat.le_mul_of_pos_right _ (by omega)
theorem rN_le (a b : Int) (h : b ≠ 0) : (rN a b).natAbs ≤ a.natAbs := by
  have g := gcd_pos (a := a) h
  exact mul_abs_le (by split <;> omega) (rN_mul h)
theorem rD_le (a b : Int) (h : b ≠ 0) : (rD a b).natAbs ≤ b.natAbs := by
  have g := gcd_pos (a := a) h
  exact mul_abs_le (by split <;> omega) (rD_mul h)
theorem r_self {n d : Int} (hd : 0 < d) (hg : Int.gcd n d = 1) : rN n d = n ∧ rD n d = d := by
  obtain ⟨e1, e2⟩ := r_unique (a := n) (b := d) (n := n) (d := d) (by omega) hd hg rfl
  exact ⟨e1.symm, e2.symm⟩
/-! ### sums, products of fractions that were brought to lowest terms -/
theorem r_add {a b c d : Int} (hb : b ≠ 0) (hd : d ≠ 0) : rN (rN a b * rD c d + rN c d * rD a b) (rD a b * rD c d) = rN (a * d + c * b) (b * d) ∧ rD (rN a b * rD c d + rN c d * rD a b) (rD a b * rD c d) = rD (a * d + c * b) (b * d) := by
  have p1 := rD_pos (a := a) hb
  have p2 := rD_pos (a := c) hd
  have c1 := r_cross (a := a) hb
  have c2 := r_cross (a := c) hd
  refine r_congr (Int.ne_of_gt (Int.mul_pos p1 p2)) (Int.mul_ne_zero hb hd) ?_
  generalize rN a b = n at *
  generalize rD a b = m at *
  generalize rN c d = n' at *
  generalize rD c d = m' at *
  rw [Int.add_mul, Int.add_mul]
  have e1 : n * m' * (b * d) = a * d * (m * m') := by
    calc n * m' * (b * d) = (n * b) * (m' * d) := by ac_rfl
      _ = (a * m) * (m' * d) := by rw [c1]
      _ = a * d * (m * m') := by ac_rfl
  have e2 : n' * m * (b * d) = c * b * (m * m') := by
    calc n' * m * (b * d) = (n' * d) * (m * b) := by ac_rfl
      _ = (c * m') * (m * b) := by rw [c2]
      _ = c * b * (m * m') := by ac_rfl
  rw [e1, e2]
theorem r_neg {a b : Int} (hb : b ≠ 0) : rN (-rN a b) (rD a b) = rN (-a) b ∧ rD (-rN a b) (rD a b) = rD (-a) b := by
  have p1 := rD_pos (a := a) hb
  have c1 := r_cross (a := a) hb
  refine r_congr (by omega) hb ?_
  rw [Int.neg_mul, Int.neg_mul, c1]
theorem r_sub {a b c d : Int} (hb : b ≠ 0) (hd : d ≠ 0) : rN (rN a b * rD c d - rN c d * rD a b) (rD a b * rD c d) = rN (a * d - c * b) (b * d) ∧ rD (rN a b * rD c d - rN c d * rD a b) (rD a b * rD c d) = rD (a * d - c * b) (b * d) := by
  have p1 := rD_pos (a := a) hb
  have p2 := rD_pos (a := c) hd
  have c1 := r_cross (a := a) hb
  have c2 := r_cross (a := c) hd
  refine r_congr (Int.ne_of_gt (Int.mul_pos p1 p2)) (Int.mul_ne_zero hb hd) ?_
  generalize rN a b = n at *
  generalize rD a b = m at *
  generalize rN c d = n' at *
  generalize rD c d = m' at *
  rw [Int.sub_mul, Int.sub_mul]
  have e1 : n * m' * (b * d) = a * d * (m * m') := by
    calc n * m' * (b * d) = (n * b) * (m' * d) := by ac_rfl
      _ = (a * m) * (m' * d) := by rw [c1]
      _ = a * d * (m * m') := by ac_rfl
  have e2 : n' * m * (b * d) = c * b * (m * m') := by
    calc n' * m * (b * d) = (n' * d) * (m * b) := by ac_rfl
      _ = (c * m') * (m * b) := by rw [c2]
      _ = c * b * (m * m') := by ac_rfl
  rw [e1, e2]
theorem r_mul {a b c d : Int} (hb : b ≠ 0) (hd : d ≠ 0) : rN (rN a b * rN c d) (rD a b * rD c d) = rN (a * c) (b * d) ∧ rD (rN a b * rN c d) (rD a b * rD c d) = rD (a * c) (b * d) := by
  have p1 := rD_pos (a := a) hb
  have p2 := rD_pos (a := c) hd
  have c1 := r_cross (a := a) hb
  have c2 := r_cross (a := c) hd
  refine r_congr (Int.ne_of_gt (Int.mul_pos p1 p2)) (Int.mul_ne_zero hb hd) ?_
  generalize rN a b = n at *
  generalize rD a b = m at *
  generalize rN c d = n' at *
  generalize rD c d = m' at *
  calc n * n' * (b * d) = (n * b) * (n' * d) := by ac_rfl
    _ = (a * m) * (c * m') := by rw [c1, c2]
    _ = a * c * (m * m') := by ac_rfl
/-! ### Euclid -/
theorem gcd_step {a b : Int} (ha : 0 ≤ a) (hb : 0 < b) : Int.gcd b (a % b) = Int.gcd a b := by
  have h : 0 ≤ a % b := Int.emod_nonneg _ (by omega)
  obtain ⟨n, rfl⟩ : ∃ n : Nat, a = n := ⟨a.toNat, by omega⟩
  obtain ⟨m, rfl⟩ : ∃ m : Nat, b = m := ⟨b.toNat, by omega⟩
  rw [← Int.natCast_emod, Int.gcd_natCast_natCast, Int.gcd_natCast_natCast, Nat.gcd_comm n m, Nat.gcd_rec m n, Nat.gcd_comm]
theorem euclid_drop {a b : Int} (hb : 0 < b) (h : b < a) : 2 * (b * (a % b)) ≤ a * b := by
  have h0 : 0 ≤ a % b := Int.emod_nonneg _ (by omega)
  have h1 : a % b < b := Int.emod_lt_of_pos _ hb
  have h2 : 1 ≤ a / b := by
    rw [Int.le_ediv_iff_mul_le hb]
    omega
  have h3 := Int.mul_ediv_add_emod a b
  have h4 : b * 1 ≤ b * (a / b) := Int.mul_le_mul_of_nonneg_left h2 (by omega)
  have h5 : 2 * (a % b) ≤ a := by omega
  have h6 : b * (2 * (a % b)) ≤ b * a := Int.mul_le_mul_of_nonneg_left h5 (by omega)
  rw [Int.mul_comm a b]
  calc 2 * (b * (a % b)) = b * (2 * (a % b)) := by ac_rfl
    _ ≤ b * a := h6
/-! ### a ratio as an object -/
def rf (n d : Int) : List (Str × V) := [("num", .int n), ("den", .int d)]
theorem nd_ne : ¬ (("num" : Str) = "den") := by decide +kernel
theorem rf_num (n d : Int) : (rf n d).lookup ("num" : Str) = some (.int n) := by
  unfold rf
  rw [List.lookup_cons, beq_self_eq_true]
theorem rf_den (n d : Int) : (rf n d).lookup ("den" : Str) = some (.int d) := by
  unfold rf
  rw [List.lookup_cons, show (("den" : Str) == "num") = false by decide +kernel, List.lookup_cons, beq_self_eq_true]
theorem rf_none (n d : Int) {m : Str} (h1 : ¬ m = "num") (h2 : ¬ m = "den") : (rf n d).lookup m = none := by
  unfold rf
  rw [List.lookup_cons, beq_eq_false_iff_ne.mpr h1, List.lookup_cons, beq_eq_false_iff_ne.mpr h2]
  rfl
theorem rf_put (n d : Int) : putF "den" (.int d) (putF "num" (.int n) []) = rf n d := by
  show (if ("num" : Str) = "den" then [(("num" : Str), V.int d)] else (("num" : Str), V.int n) :: putF "den" (V.int d) []) = _
  rw [if_neg nd_ne]
  rfl
/-- a ratio n / d stands at x -/
def RatAt (C : Addr) (H : Hp) (x : Addr) (n d : Int) : Prop := ∃ dx, H x = some (.ins C dx (rf n d))
theorem RatAt.same {C : Addr} {H H' : Hp} {x : Addr} {n d : Int} (h : RatAt C H x n d) (s : Same H H') : RatAt C H' x n d := let ⟨dx, e⟩ := h; ⟨dx, s _ _ e⟩
section
variable {K : PySem.W.Frag} {σ : L2.St} {H : Hp} {Q : VK} {ta : TE} {f : Str}
def qFld (K : PySem.W.Frag) (f : Str) (Q : VK) : VK := fun x H1 => ∃ a C dx fs v, x = .ref a ∧ H1 a = some (.ins C dx fs) ∧ Cls K C ∧ NoAttr K C f ∧ fs.lookup f = some v ∧ Q v H1
theorem go_fld (h : ta σ H (qFld K f Q)) : tFld K ta f σ H Q := h
theorem go_fldV {a C dx : Addr} {fs : List (Str × V)} {v : V} (e : H a = some (.ins C dx fs)) (c : Cls K C) (n : NoAttr K C f) (l : fs.lookup f = some v) (h : Q v H) : qFld K f Q (.ref a) H := ⟨a, C, dx, fs, v, rfl, e, c, n, l, h⟩
theorem go_rnum {a C dx : Addr} {m d : Int} (e : H a = some (.ins C dx (rf m d))) (c : Cls K C) (n : NoAttr K C "num") (h : Q (.int m) H) : qFld K "num" Q (.ref a) H := go_fldV e c n (rf_num m d) h
theorem go_rden {a C dx : Addr} {m d : Int} (e : H a = some (.ins C dx (rf m d))) (c : Cls K C) (n : NoAttr K C "den") (h : Q (.int d) H) : qFld K "den" Q (.ref a) H := go_fldV e c n (rf_den m d) h
theorem go_make {C : Addr} {sp : Sp} {dvs : List V} {E : XK} {t : TA} (h : t σ H fun vs H1 => ∀ x dx, H1 x = none → H1 dx = none → dx ≠ x →
  sp (.ref x :: (vs ++ dvs)) (upd (upd H1 dx (.own x)) x (.ins C dx [])) (fun v H2 => v = .non ∧ Q (.ref x) H2) E) : tMake C sp dvs E t σ H Q := h
theorem go_meth {C : Addr} {m : Str} {sp : Sp} {dvs : List V} {E : XK} {t : TA} (h : ta σ H fun x H1 => ∃ a dx fs, x = .ref a ∧ H1 a = some (.ins C dx fs) ∧ fs.lookup m = none ∧
  t σ H1 fun vs H2 => sp (x :: (vs ++ dvs)) H2 Q E) : tMeth C m sp dvs E ta t σ H Q := h
def sFldN (K : PySem.W.Frag) (f : Str) (y : V) (σ : L2.St) (D : Ends) : VK := fun x H2 => ∃ a C dx fs, x = .ref a ∧ H2 a = some (.ins C dx fs) ∧ Cls K C ∧ NoAttr K C f ∧ fs.length < 1000 ∧ D.nx σ (upd H2 a (.ins C dx (putF f y fs)))
theorem go_sfld {D : Ends} {tv : TE} (h : tv σ H fun y H1 => ta σ H1 (sFldN K f y σ D)) : sFld K ta tv f D σ H := h
theorem go_sfldV {D : Ends} {y : V} {a C dx : Addr} {fs : List (Str × V)} (e : H a = some (.ins C dx fs)) (c : Cls K C) (n : NoAttr K C f) (l : fs.length < 1000) (h : D.nx σ (upd H a (.ins C dx (putF f y fs)))) : sFldN K f y σ D (.ref a) H :=
  ⟨a, C, dx, fs, rfl, e, c, n, l, h⟩
end
theorem same_made {H H1 : Hp} {z dz : Addr} {o1 o2 : HO} (hz : H z = none) (hdz : H dz = none) (s : ∀ c o, c ≠ z → upd (upd H dz o1) z o2 c = some o → H1 c = some o) : Same H H1 := fun t o ht => by
  refine s t o (ne_of_none ht hz) ?_
  rw [upd_ne (ne_of_none ht hz), upd_ne (ne_of_none ht hdz)]
  exact ht
theorem p_mono {x : Int} {k n : Nat} (h : x.natAbs < 2 ^ k) (hk : k ≤ n) : x.natAbs < 2 ^ n := Nat.lt_of_lt_of_le h (Nat.pow_le_pow_right (by decide) hk)
theorem p30 {x : Int} (h : x.natAbs ≤ 10 ^ 30 + 1) : x.natAbs < 2 ^ 100 := Nat.lt_of_le_of_lt h (by decide)
theorem p_add {x y : Int} {k : Nat} (h1 : x.natAbs < 2 ^ k) (h2 : y.natAbs < 2 ^ k) : (x + y).natAbs < 2 ^ (k + 1) := by
  have := Int.natAbs_add_le x y
  rw [Nat.pow_succ]
  omega
theorem p_sub {x y : Int} {k : Nat} (h1 : x.natAbs < 2 ^ k) (h2 : y.natAbs < 2 ^ k) : (x - y).natAbs < 2 ^ (k + 1) := by
  have := Int.natAbs_sub_le x y
  rw [Nat.pow_succ]
  omega
/-! ### lists of ratios -/
/-- each of xs is a ratio, with the terms of rs -/
def RatsAt (C : Addr) (H : Hp) (xs : List V) (rs : List (Int × Int)) : Prop := xs.length = rs.length ∧ ∀ (i : Nat) x r, xs[i]? = some x → rs[i]? = some r → ∃ p dx, x = .ref p ∧ H p = some (.ins C dx (rf r.1 r.2))
theorem RatsAt.same {C : Addr} {H H' : Hp} {xs : List V} {rs : List (Int × Int)} (h : RatsAt C H xs rs) (s : Same H H') : RatsAt C H' xs rs :=
  ⟨h.1, fun i x r a b => let ⟨p, dx, e, k⟩ := h.2 i x r a b; ⟨p, dx, e, s _ _ k⟩⟩
theorem RatsAt.get {C : Addr} {H : Hp} {xs : List V} {rs : List (Int × Int)} (h : RatsAt C H xs rs) {i : Nat} {x : V} (e : xs[i]? = some x) : ∃ r p dx, rs[i]? = some r ∧ x = .ref p ∧ H p = some (.ins C dx (rf r.1 r.2)) := by
  have hi := (List.getElem?_eq_some_iff.mp e).1
  have hi2 : i < rs.length := by rw [← h.1]; exact hi
  obtain ⟨p, dx, e2, k⟩ := h.2 i x _ e (List.getElem?_eq_getElem hi2)
  exact ⟨_, p, dx, List.getElem?_eq_getElem hi2, e2, k⟩
theorem RatsAt.nil {C : Addr} {H : Hp} : RatsAt C H [] [] := ⟨rfl, fun i x r h _ => by simp at h⟩
theorem RatsAt.snoc {C : Addr} {H : Hp} {xs : List V} {rs : List (Int × Int)} (h : RatsAt C H xs rs) {p dx : Addr} {n d : Int} (e : H p = some (.ins C dx (rf n d))) : RatsAt C H (xs ++ [.ref p]) (rs ++ [(n, d)]) := by
  refine ⟨by simp [h.1], fun i x r a b => ?_⟩
  rcases Nat.lt_or_ge i xs.length with q | q
  · rw [List.getElem?_append_left q] at a
    rw [List.getElem?_append_left (by rw [← h.1]; exact q)] at b
    exact h.2 i x r a b
  · rw [List.getElem?_append_right q] at a
    rw [List.getElem?_append_right (by rw [← h.1]; exact q), ← h.1] at b
    rcases Nat.eq_zero_or_pos (i - xs.length) with z | z
    · rw [z] at a b
      cases a
      cases b
      exact ⟨p, dx, rfl, e⟩
    · rw [List.getElem?_eq_none (by simp; omega)] at a
      cases a
/-- a comprehension's list, by what was made at each place -/
theorem rats_of {C : Addr} {H : Hp} {ys : List V} {rs : List (Int × Int)} (hl : ys.length = rs.length) (h : ∀ (k : Nat) y, ys[k]? = some y → ∃ r p dx, rs[k]? = some r ∧ y = .ref p ∧ H p = some (.ins C dx (rf r.1 r.2))) : RatsAt C H ys rs :=
  ⟨hl, fun i x r a b => by
    obtain ⟨r', p, dx, e1, e2, e3⟩ := h i x a
    rw [b] at e1
    cases e1
    exact ⟨p, dx, e2, e3⟩⟩
/-- the denominator of the common form -/
def cden (rs : List (Int × Int)) : Nat := rs.foldl (fun m r => Nat.lcm m r.2.natAbs) 1
theorem cden_snoc (rs : List (Int × Int)) (r : Int × Int) : cden (rs ++ [r]) = Nat.lcm (cden rs) r.2.natAbs := by
  unfold cden
  rw [List.foldl_append]
  rfl
theorem cden_take {rs : List (Int × Int)} {i : Nat} {r : Int × Int} (h : rs[i]? = some r) : cden (rs.take (i + 1)) = Nat.lcm (cden (rs.take i)) r.2.natAbs := by
  rw [List.take_add_one, h, show (some r).toList = [r] from rfl, cden_snoc]
theorem lfold_pos : ∀ (rs : List (Int × Int)) (m : Nat), 0 < m → (∀ r ∈ rs, 0 < r.2) → 0 < rs.foldl (fun m r => Nat.lcm m r.2.natAbs) m
  | [], m, h, _ => h
  | r :: t, m, h, hr => by
    rw [List.foldl_cons]
    refine lfold_pos t _ (Nat.lcm_pos h ?_) fun z hz => hr z (List.mem_cons_of_mem _ hz)
    have := hr r List.mem_cons_self
    omega
theorem cden_pos {rs : List (Int × Int)} (h : ∀ r ∈ rs, 0 < r.2) : 0 < cden rs := lfold_pos rs 1 (by decide) h
theorem lfold_dvd : ∀ (rs : List (Int × Int)) (m : Nat), m ∣ rs.foldl (fun m r => Nat.lcm m r.2.natAbs) m ∧ ∀ r ∈ rs, r.2.natAbs ∣ rs.foldl (fun m r => Nat.lcm m r.2.natAbs) m
  | [], m => ⟨Nat.dvd_refl _, fun r h => nomatch h⟩
  | s :: t, m => by
    rw [List.foldl_cons]
    obtain ⟨h1, h2⟩ := lfold_dvd t (Nat.lcm m s.2.natAbs)
    refine ⟨Nat.dvd_trans (Nat.dvd_lcm_left _ _) h1, fun r hr => ?_⟩
    rcases List.mem_cons.mp hr with rfl | hr
    · exact Nat.dvd_trans (Nat.dvd_lcm_right _ _) h1
    · exact h2 r hr
theorem cden_dvd {rs : List (Int × Int)} {r : Int × Int} (h : r ∈ rs) : r.2.natAbs ∣ cden rs := (lfold_dvd rs 1).2 r h
theorem lfold_least : ∀ (rs : List (Int × Int)) (m k : Nat), m ∣ k → (∀ r ∈ rs, r.2.natAbs ∣ k) → rs.foldl (fun m r => Nat.lcm m r.2.natAbs) m ∣ k
  | [], m, k, h, _ => h
  | s :: t, m, k, h, hr => by
    rw [List.foldl_cons]
    exact lfold_least t _ k (Nat.lcm_dvd h (hr s List.mem_cons_self)) fun z hz => hr z (List.mem_cons_of_mem _ hz)
theorem cden_least {rs : List (Int × Int)} {k : Nat} (h : ∀ r ∈ rs, r.2.natAbs ∣ k) : cden rs ∣ k := lfold_least rs 1 k (Nat.one_dvd _) h
theorem lfold_lt : ∀ (rs : List (Int × Int)) (m e : Nat), m < 2 ^ e → (∀ r ∈ rs, r.2.natAbs < 2 ^ 100) → rs.foldl (fun m r => Nat.lcm m r.2.natAbs) m < 2 ^ (e + 100 * rs.length)
  | [], m, e, h, _ => h
  | s :: t, m, e, h, hr => by
    rw [List.foldl_cons]
    have h1 : Nat.lcm m s.2.natAbs ≤ m * s.2.natAbs := Nat.div_le_self _ _
    have h2 : m * s.2.natAbs < 2 ^ e * 2 ^ 100 := Nat.mul_lt_mul'' h (hr s List.mem_cons_self)
    rw [← Nat.pow_add] at h2
    have := lfold_lt t (Nat.lcm m s.2.natAbs) (e + 100) (Nat.lt_of_le_of_lt h1 h2) fun z hz => hr z (List.mem_cons_of_mem _ hz)
    rw [List.length_cons, show e + 100 * (t.length + 1) = e + 100 + 100 * t.length by omega]
    exact this
theorem cden_lt {rs : List (Int × Int)} (h : ∀ r ∈ rs, r.2.natAbs < 2 ^ 100) (hl : rs.length ≤ 60) : cden rs < 2 ^ 9000 :=
  Nat.lt_of_lt_of_le (lfold_lt rs 1 1 (by decide) h) (Nat.pow_le_pow_right (by decide) (by omega))
/-- the numbers of the common form -/
def cnum (rs : List (Int × Int)) : List Int := rs.map fun r => r.1 * ((cden rs : Int) / r.2)
section
variable {K : PySem.W.Frag} {σ : L2.St} {H : Hp} {R : L2.St → Hp → Prop} {t : TG} {u : TGs}
theorem go_gtup {n : Nat} {a : Addr} {xs : List V} (h : SqT K H a xs) (hl : xs.length = n) (q : u xs σ H R) : gTup K n u (.ref a) σ H R := ⟨a, xs, rfl, h, hl, q⟩
theorem go_gcons {v : V} {r : List V} (h : t v σ H fun σ' H' => u r σ' H' R) : gCons t u (v :: r) σ H R := ⟨v, r, rfl, h⟩
theorem go_gnil (h : R σ H) : gNil [] σ H R := ⟨rfl, h⟩
end
/-! ### comprehensions that make objects -/
/-- what is told of an item stays as the heap grows, and as a list is written -/
structure Stays (P : Hp → Nat → V → Prop) : Prop where
  same : ∀ H H' k y, Same H H' → P H k y → P H' k y
  lst : ∀ H D zs zs' k y, H D = some (.lst zs) → P H k y → P (upd H D (.lst zs')) k y
theorem stays_rat {C : Addr} {rs : List (Int × Int)} : Stays fun H k y => ∃ r p dx, rs[k]? = some r ∧ y = .ref p ∧ H p = some (.ins C dx (rf r.1 r.2)) :=
  ⟨fun H H' k y s ⟨r, p, dx, a, b, c⟩ => ⟨r, p, dx, a, b, s _ _ c⟩, fun H D zs zs' k y e ⟨r, p, dx, a, b, c⟩ => ⟨r, p, dx, a, b, by rw [upd_ne (ne_of c e (by intro z; cases z))]; exact c⟩⟩
section
variable {K : PySem.W.Frag} {σ : L2.St} {H H1 : Hp} {Q : VK} {tl te : TE} {vs : List Nat} {j : Nat}
theorem lcLh {R : Addr → Hp → Prop} {a : Addr} (xs : List V) {P : Hp → Nat → V → Prop} (hP : Stays P) (hs : SqL K H1 a xs) (hz : xs.length ≤ 100000) (hw : ∀ x, wipe ((wipe σ vs).set j x) vs = wipe σ vs)
    (he : ∀ (i : Nat) x H', xs[i]? = some x → Same H1 H' → ∀ R : VK, (∀ y H'', Same H' H'' → P H'' i y → R y H'') → te ((wipe σ vs).set j (some x)) H' R)
    (q : ∀ D (ys : List V) H2, H1 D = none → Same H1 H2 → H2 D = some (.lst ys) → ys.length = xs.length → (∀ k y, ys[k]? = some y → P H2 k y) → R D H2) :
    ∃ b, V.ref a = .ref b ∧ (∃ xs, SqL K H1 b xs) ∧ ∀ D, H1 D = none → ∃ W : Nat → Nat → Hp → Prop, (∃ m, W 0 m (upd H1 D (.lst []))) ∧ ∀ i m H, W i m H →
      ((Itl K b).stop i H ∧ R D H) ∨ ((Itl K b).go i H ∧ ∃ Nx : Hp → Prop, (∀ H', Nx H' → ∃ m', m' < m ∧ W (i + 1) m' H') ∧ ∀ x H', (Itl K b).yld i H x H' → gName j x (wipe σ vs) H' fun σ2 H2 => wipe σ2 vs = wipe σ vs ∧ tYes σ2 H2 fun b H3 =>
        if b = true then te σ2 H3 fun y H4 => ∃ acc, H4 D = some (.lst acc) ∧ acc.length < sizeLine ∧ Nx (upd H4 D (.lst (acc ++ [y]))) else Nx H3) := by
  refine ⟨a, rfl, ⟨xs, hs⟩, fun D hD => ?_⟩
  refine lc_list (xs := xs) (fun i H' => Same H1 H' ∧ ∃ ys : List V, H' D = some (.lst ys) ∧ ys.length = i ∧ ∀ k y, ys[k]? = some y → P H' k y) ⟨same_new hD, [], upd_same, rfl, fun k y h => by simp at h⟩ (fun i H _ p => same_sqL p.1 hs) (fun i x H hx p => ?_) fun H p => ?_
  · obtain ⟨s, ys, e, hl, hp⟩ := p
    refine ⟨hw _, ?_⟩
    refine go_yes ?_
    refine iteT ?_
    refine he i x H hx s _ fun y H4 s4 hy => ?_
    have hi := (List.getElem?_eq_some_iff.mp hx).1
    have e4 := s4 _ _ e
    refine ⟨ys, e4, szlt (by omega), same_mut (s.trans s4) hD, ys ++ [y], upd_same, by simp [hl], fun k z hz => ?_⟩
    refine hP.lst _ _ ys _ _ _ e4 ?_
    rcases Nat.lt_or_ge k ys.length with h | h
    · rw [List.getElem?_append_left h] at hz
      exact hP.same _ _ _ _ s4 (hp k z hz)
    · rw [List.getElem?_append_right h] at hz
      rcases Nat.eq_or_lt_of_le h with e2 | e2
      · rw [← e2, Nat.sub_self] at hz
        cases hz
        rw [← e2, hl]
        exact hy
      · rw [List.getElem?_eq_none (by simp; omega)] at hz
        cases hz
  · obtain ⟨s, ys, e, hl, hp⟩ := p
    exact q D ys H hD s e hl hp
end
/-! ### lists of pairs -/
def PairsAt (H : Hp) (xs : List V) (ts : List (Int × Int)) : Prop := xs.length = ts.length ∧ ∀ (i : Nat) x t, xs[i]? = some x → ts[i]? = some t → ∃ p, x = .ref p ∧ H p = some (.tup [.int t.1, .int t.2])
theorem PairsAt.nil {H : Hp} : PairsAt H [] [] := ⟨rfl, fun i x r h _ => by simp at h⟩
theorem PairsAt.same {H H' : Hp} {xs : List V} {ts : List (Int × Int)} (h : PairsAt H xs ts) (s : Same H H') : PairsAt H' xs ts :=
  ⟨h.1, fun i x r a b => let ⟨p, e, k⟩ := h.2 i x r a b; ⟨p, e, s _ _ k⟩⟩
theorem PairsAt.get {H : Hp} {xs : List V} {ts : List (Int × Int)} (h : PairsAt H xs ts) {i : Nat} {t : Int × Int} (e : ts[i]? = some t) : ∃ p, xs[i]? = some (.ref p) ∧ H p = some (.tup [.int t.1, .int t.2]) := by
  have hi := (List.getElem?_eq_some_iff.mp e).1
  have hi2 : i < xs.length := by rw [h.1]; exact hi
  obtain ⟨p, e2, k⟩ := h.2 i _ t (List.getElem?_eq_getElem hi2) e
  exact ⟨p, by rw [List.getElem?_eq_getElem hi2, e2], k⟩
/-- a list is written: the pairs stand -/
theorem PairsAt.lst {H : Hp} {xs : List V} {ts : List (Int × Int)} {D : Addr} {zs zs' : List V} (h : PairsAt H xs ts) (e : H D = some (.lst zs)) : PairsAt (upd H D (.lst zs')) xs ts :=
  ⟨h.1, fun i x r a b => let ⟨p, e1, k⟩ := h.2 i x r a b; ⟨p, e1, by rw [upd_ne (ne_of k e (by intro z; cases z))]; exact k⟩⟩
theorem PairsAt.snoc {H : Hp} {xs : List V} {ts : List (Int × Int)} (h : PairsAt H xs ts) {p : Addr} {n d : Int} (e : H p = some (.tup [.int n, .int d])) : PairsAt H (xs ++ [.ref p]) (ts ++ [(n, d)]) := by
  refine ⟨by simp [h.1], fun i x r a b => ?_⟩
  rcases Nat.lt_or_ge i xs.length with q | q
  · rw [List.getElem?_append_left q] at a
    rw [List.getElem?_append_left (by rw [← h.1]; exact q)] at b
    exact h.2 i x r a b
  · rw [List.getElem?_append_right q] at a
    rw [List.getElem?_append_right (by rw [← h.1]; exact q), ← h.1] at b
    rcases Nat.eq_zero_or_pos (i - xs.length) with z | z
    · rw [z] at a b
      cases a
      cases b
      exact ⟨p, rfl, e⟩
    · rw [List.getElem?_eq_none (by simp; omega)] at a
      cases a
/-! ### the common form is the least -/
theorem form_coprime {rs : List (Int × Int)} (hpos : ∀ r ∈ rs, 0 < r.2) (hco : ∀ r ∈ rs, Int.gcd r.1 r.2 = 1) {g : Nat} (h1 : g ∣ cden rs) (h2 : ∀ n ∈ cnum rs, (g : Int) ∣ n) : g = 1 := by
  have hL := cden_pos hpos
  obtain ⟨m, hm⟩ := h1
  have hg : 0 < g := by
    rcases Nat.eq_zero_or_pos g with z | z
    · rw [z, Nat.zero_mul] at hm
      omega
    · exact z
  have hmp : 0 < m := by
    rcases Nat.eq_zero_or_pos m with z | z
    · rw [z, Nat.mul_zero] at hm
      omega
    · exact z
  have key : cden rs ∣ m := cden_least fun r hr => by
    have hd := cden_dvd hr
    have d0 := hpos r hr
    have co := hco r hr
    have hn : (g : Int) ∣ r.1 * ((cden rs : Int) / r.2) := h2 _ (List.mem_map_of_mem hr)
    obtain ⟨k, hk⟩ := hd
    have hrd : r.2 = (r.2.natAbs : Int) := by omega
    have hq : (cden rs : Int) / r.2 = (k : Int) := by
      rw [hk, hrd]
      push_cast
      rw [Int.natAbs_natCast]
      exact Int.mul_ediv_cancel_left _ (by omega)
    rw [hq] at hn
    have hn2 : g ∣ r.1.natAbs * k := by
      have := Int.natAbs_dvd_natAbs.mpr hn
      rw [Int.natAbs_natCast, Int.natAbs_mul, Int.natAbs_natCast] at this
      exact this
    have hn3 : g ∣ r.2.natAbs * k := by rw [← hk]; exact ⟨m, hm⟩
    have hgk : g ∣ k := by
      have := Nat.dvd_gcd hn2 hn3
      rw [Nat.gcd_mul_right] at this
      have e : Nat.gcd r.1.natAbs r.2.natAbs = 1 := co
      rw [e, Nat.one_mul] at this
      exact this
    obtain ⟨j, hj⟩ := hgk
    refine ⟨j, ?_⟩
    have : g * m = g * (r.2.natAbs * j) := by rw [← hm, hk, hj]; ac_rfl
    exact Nat.eq_of_mul_eq_mul_left hg this
  have := Nat.le_of_dvd hmp key
  rw [hm] at this
  rcases Nat.lt_or_ge 1 g with z | z
  · exfalso
    have : 2 * m ≤ g * m := Nat.mul_le_mul_right _ z
    omega
  · omega
theorem cnum_len (rs : List (Int × Int)) : (cnum rs).length = rs.length := by unfold cnum; rw [List.length_map]
theorem cnum_at {rs : List (Int × Int)} {i : Nat} {r : Int × Int} (h : rs[i]? = some r) : (cnum rs)[i]? = some (r.1 * ((cden rs : Int) / r.2)) := by
  unfold cnum
  rw [List.getElem?_map, h]
  rfl
theorem cnum_mul {rs : List (Int × Int)} {r : Int × Int} (h : r ∈ rs) : r.1 * ((cden rs : Int) / r.2) * r.2 = r.1 * (cden rs : Int) := by
  have : r.2 ∣ (cden rs : Int) := Int.natAbs_dvd_natAbs.mp (by rw [Int.natAbs_natCast]; exact cden_dvd h)
  rw [Int.mul_assoc, Int.ediv_mul_cancel this]
end Gx

set_option Elab.async false
set_option linter.all false
set_option maxRecDepth 100000
set_option maxHeartbeats 4000000
/-! Own lemmas: texts, sign by sign; numbers as texts. -/
namespace Gx
open PySem PySem.Spec PyProof.Rows L2
section
variable {X : Cx} {σ : L2.St} {H H1 : Hp} {Q : VK} {K : PySem.W.Frag}
def qInC : R2 := fun x y H Q => ∃ (c : Nat) (z : Str), x = .str ⟨#[c]⟩ ∧ y = .str z ∧ Q (.bl (decide (c ∈ z.cps.toList))) H
theorem o_in_sign : OpR X (compareOp .In) qInC := op_in_sign
theorem go_inC {c : Nat} {z : Str} (h : Q (.bl (decide (c ∈ z.cps.toList))) H) : qInC (.str (S [c])) (.str z) H Q := ⟨c, z, rfl, rfl, h⟩
def qNiC : R2 := fun x y H Q => ∃ (c : Nat) (z : Str), x = .str ⟨#[c]⟩ ∧ y = .str z ∧ Q (.bl (!decide (c ∈ z.cps.toList))) H
theorem o_notIn_sign : OpR X (compareOp .NotIn) qNiC := op_notIn_sign
theorem go_niC {c : Nat} {z : Str} (h : Q (.bl (!decide (c ∈ z.cps.toList))) H) : qNiC (.str (S [c])) (.str z) H Q := ⟨c, z, rfl, rfl, h⟩
def qIntStr : List V → Hp → VK → Prop := fun xs H Q => ∃ a n, xs = [.str a] ∧ PySem.intText? a = some n ∧ a.length ≤ 640 ∧ Q (.int n) H
theorem k_int_str : CallR X (.type "int") qIntStr := call_int_str
theorem go_intStr {a : Str} {n : Int} (e : PySem.intText? a = some n) (hl : a.length ≤ 640) (h : Q (.int n) H) : qIntStr [.str a] H Q := ⟨a, n, rfl, e, hl, h⟩
theorem go_intDigits {a : Str} (h : NumText.AllDigits a.cps.toList) (h1 : a.cps.toList ≠ []) (hl : a.length ≤ 640) (q : Q (.int ((NumText.digitsVal a.cps.toList : Nat) : Int)) H) : qIntStr [.str a] H Q :=
  go_intStr (intText_digits h h1 (by omega)) hl q
theorem len_toList (z : Str) : z.length = z.cps.toList.length := by simp [Str.length]
/-- the sign at a place -/
theorem atS_get {z : Str} {k : Nat} {c : Nat} (h : z.cps.toList[k]? = some c) : atI z.cps.toList (k : Int) = some c := atI_nat h
/-- for c in x -/
theorem foX {D : Ends} {tb : TS} {g : TG} (x : Str) (Pv : Nat → L2.St → Hp → Prop) (h0 : Pv 0 σ H1)
    (hs : ∀ i c σ H, x.cps.toList[i]? = some c → Pv i σ H → g (.str (S [c])) σ H fun σ2 H2 => tb { D with nx := Pv (i + 1), ct := Pv (i + 1), bk := D.nx } σ2 H2) (hd : ∀ σ H, Pv x.cps.toList.length σ H → D.nx σ H) :
    ∃ y, V.str x = .str y ∧ ∃ W : Nat → Nat → L2.St → Hp → Prop, (∃ m, W 0 m σ H1) ∧ ∀ i m σ H, W i m σ H →
      ((Its y).stop i H ∧ D.nx σ H) ∨ ((Its y).go i H ∧ ∃ N : L2.St → Hp → Prop, (∀ σ' H', N σ' H' → ∃ m', m' < m ∧ W (i + 1) m' σ' H') ∧ ∀ x2 H', (Its y).yld i H x2 H' → g x2 σ H' fun σ2 H2 => tb { D with nx := N, ct := N, bk := D.nx } σ2 H2) :=
  foS (x.cps.toList) Pv h0 hs hd
/-- an item of a written list at an int -/
theorem at_pick {xs : List V} {k : Int} (h0 : 0 ≤ k) (h : k < xs.length) : ∃ v, v ∈ xs ∧ atI xs k = some v := by
  have e : k = (k.toNat : Int) := by omega
  have h2 : k.toNat < xs.length := by omega
  rw [e]
  exact ⟨xs[k.toNat], List.getElem_mem h2, atI_nat (List.getElem?_eq_getElem h2)⟩
theorem at_pick2 {P : V → Prop} {xs : List V} {k : Int} (h0 : 0 ≤ k) (h : k < xs.length) (hp : ∀ v ∈ xs, P v) : ∃ v, P v ∧ atI xs k = some v := by
  obtain ⟨v, hm, e⟩ := at_pick h0 h
  exact ⟨v, hp v hm, e⟩
/-- one sign against another -/
theorem lt_sign (a b : Nat) : decide ((S [a]).cps.toList < (S [b]).cps.toList) = decide (a < b) := by
  show decide ([a] < [b]) = _
  by_cases h : a < b
  · rw [decide_eq_true h, decide_eq_true (by exact List.Lex.rel h)]
  · rw [decide_eq_false h, decide_eq_false]
    intro z
    cases z with
    | rel z => exact h z
    | cons z => cases z
/-- a text in a list of texts -/
theorem inV_str (x : Str) : ∀ ks : List Str, inV (.str x) (ks.map V.str) = ks.any (fun k => k == x)
  | [] => rfl
  | k :: r => by
    have := inV_str x r
    unfold inV at this ⊢
    rw [List.map_cons, List.any_cons, List.any_cons, this]
    rfl
theorem flat_strs (ks : List Str) : (ks.map V.str).all flatV = true := by
  rw [List.all_map, List.all_eq_true]
  intro k _
  rfl
theorem str_one (x : Str) (h : x.length = 1) : ∃ c, x = S [c] := by
  have : x.cps.toList.length = 1 := by rw [← len_toList]; exact h
  obtain ⟨c, hc⟩ := List.length_eq_one_iff.mp this
  exact ⟨c, by rw [← hc]⟩
end
/-! ### digits -/
theorem snocRec {α : Type} {P : List α → Prop} (nil : P []) (append_singleton : ∀ l a, P l → P (l ++ [a])) (l : List α) : P l := by
  have h : ∀ r : List α, P r.reverse := fun r => by
    induction r with
    | nil => exact nil
    | cons a r ih => rw [List.reverse_cons]; exact append_singleton _ _ ih
  have := h l.reverse
  rw [List.reverse_reverse] at this
  exact this
def isDig (c : Nat) : Bool := decide (48 ≤ c ∧ c ≤ 57)
theorem allDig {cs : List Nat} (h : cs.all isDig = true) : NumText.AllDigits cs := fun c hc => by
  have := List.all_eq_true.mp h c hc
  simpa [isDig] using this
theorem numL_dig (n : Nat) : (TL.numL n).all isDig = true := List.all_eq_true.mpr fun c hc => by
  have := TL.numL_digits n c hc
  simpa [isDig] using this
theorem digitsVal_snoc (cs : List Nat) (c : Nat) : NumText.digitsVal (cs ++ [c]) = NumText.digitsVal cs * 10 + (c - 48) := by
  unfold NumText.digitsVal
  rw [List.foldl_append]
  rfl
/-- a number's first sign -/
theorem numL_head : ∀ {n : Nat}, 0 < n → ∃ c r, TL.numL n = c :: r ∧ 49 ≤ c := by
  intro n
  induction n using Nat.strongRecOn with
  | _ n ih =>
    intro h0
    by_cases h : n < 10
    · exact ⟨48 + n, [], TL.numL_lt h, by omega⟩
    · obtain ⟨c, r, e, hc⟩ := ih (n / 10) (by omega) (by omega)
      refine ⟨c, r ++ [48 + n % 10], ?_, hc⟩
      rw [TL.numL_step (by omega), e]
      rfl
theorem val_zero_all : ∀ cs : List Nat, NumText.AllDigits cs → NumText.digitsVal cs = 0 → ∀ c ∈ cs, c = 48 := by
  intro cs
  induction cs using snocRec with
  | nil => intro _ _ c hc; cases hc
  | append_singleton l d ih =>
    intro h e c hc
    rw [digitsVal_snoc] at e
    have hd := h d (by simp)
    have h2 : NumText.AllDigits l := fun c hc => h c (List.mem_append_left _ hc)
    rcases List.mem_append.mp hc with hc | hc
    · exact ih h2 (by omega) c hc
    · rw [List.mem_singleton.mp hc]; omega
/-- digits without a zero ahead are the number's own -/
theorem numL_canon : ∀ cs : List Nat, NumText.AllDigits cs → cs ≠ [] → (∀ r, cs = 48 :: r → r = []) → TL.numL (NumText.digitsVal cs) = cs := by
  intro cs
  induction cs using snocRec with
  | nil => intro _ h; exact absurd rfl h
  | append_singleton l d ih =>
    intro h _ hz
    have hd := h d (by simp)
    have h2 : NumText.AllDigits l := fun c hc => h c (List.mem_append_left _ hc)
    rw [digitsVal_snoc]
    cases l with
    | nil =>
      show TL.numL (0 * 10 + (d - 48)) = [d]
      rw [TL.numL_lt (by omega)]
      congr 1
      omega
    | cons c r =>
      have hc := h2 c (by simp)
      have hc0 : c ≠ 48 := fun e => by
        subst e
        have := hz (r ++ [d]) rfl
        simp at this
      have e := ih h2 (by simp) (fun r' e' => by cases e'; exact absurd rfl hc0)
      have hp : 0 < NumText.digitsVal (c :: r) := by
        rcases Nat.eq_zero_or_pos (NumText.digitsVal (c :: r)) with z | z
        · exact absurd (val_zero_all _ h2 z c (by simp)) hc0
        · exact z
      rw [TL.numL_step (by omega)]
      have e1 : (NumText.digitsVal (c :: r) * 10 + (d - 48)) / 10 = NumText.digitsVal (c :: r) := by omega
      have e2 : 48 + (NumText.digitsVal (c :: r) * 10 + (d - 48)) % 10 = d := by omega
      rw [e1, e2, e]
theorem numL_iff {cs : List Nat} (h : NumText.AllDigits cs) : TL.numL (NumText.digitsVal cs) = cs ↔ cs ≠ [] ∧ ∀ r, cs = 48 :: r → r = [] := by
  constructor
  · intro e
    refine ⟨fun z => ?_, fun r er => ?_⟩
    · rw [z] at e
      exact TL.numL_ne _ e
    · rcases Nat.eq_zero_or_pos (NumText.digitsVal cs) with z | z
      · rw [z, er] at e
        have : TL.numL 0 = [48] := TL.numL_lt (by decide)
        rw [this] at e
        injection e with _ e
        exact e.symm
      · obtain ⟨c, r', e', hc⟩ := numL_head z
        rw [e, er] at e'
        injection e' with e1 _
        omega
  · rintro ⟨h1, h2⟩
    exact numL_canon cs h h1 h2
theorem val_lt : ∀ cs : List Nat, NumText.AllDigits cs → NumText.digitsVal cs < 10 ^ cs.length := by
  intro cs
  induction cs using snocRec with
  | nil => intro _; decide
  | append_singleton l d ih =>
    intro h
    have hd := h d (by simp)
    have := ih fun c hc => h c (List.mem_append_left _ hc)
    rw [digitsVal_snoc, List.length_append, List.length_singleton, Nat.pow_succ]
    omega
end Gx

set_option Elab.async false
set_option linter.all false
set_option maxRecDepth 100000
set_option maxHeartbeats 4000000
/-! Own lemmas: data at any depth (Dp), tuples joined and cut, a range with a step, a list turned round. -/
namespace Gx
open PySem PySem.Spec PyProof.Rows L2
section
variable {K : PySem.W.Frag} {H H' : Hp}
mutual
theorem dp_same (s : Same H H') : ∀ (d : PyData) (v : V), Dp K H v d → Dp K H' v d
  | .none, _, h => by cases h; exact .non
  | .bool b, _, h => by cases h; exact .bl b
  | .int i, _, h => by cases h; exact .int i
  | .str x, _, h => by cases h; exact .str x
  | .list ds, _, h => by
    cases h with
    | lst hs ha => exact .lst (Same.seq s hs) (dpAll_same s ds _ ha)
  | .tuple ds, _, h => by
    cases h with
    | tup hs ha => exact .tup (same_sqT s hs) (dpAll_same s ds _ ha)
  | .dict _, _, h => by cases h
theorem dpAll_same (s : Same H H') : ∀ (ds : List PyData) (vs : List V), DpAll K H vs ds → DpAll K H' vs ds
  | [], _, h => by cases h; exact .nil
  | d :: ds, _, h => by
    cases h with
    | cons h1 h2 => exact .cons (dp_same s d _ h1) (dpAll_same s ds _ h2)
end
theorem dpAll_len : ∀ {ds : List PyData} {vs : List V}, DpAll K H vs ds → vs.length = ds.length
  | [], _, h => by cases h; rfl
  | d :: ds, _, h => by
    cases h with
    | cons h1 h2 => simp [dpAll_len h2]
theorem dpAll_get : ∀ {ds : List PyData} {vs : List V} {i : Nat} {d : PyData}, DpAll K H vs ds → ds[i]? = some d → ∃ v, vs[i]? = some v ∧ Dp K H v d
  | [], _, i, d, _, e => by simp at e
  | d :: ds, _, 0, d', h, e => by
    cases h with
    | cons h1 h2 =>
      simp at e
      subst e
      exact ⟨_, rfl, h1⟩
  | d :: ds, _, i + 1, d', h, e => by
    cases h with
    | cons h1 h2 =>
      simp at e
      obtain ⟨v, e2, h3⟩ := dpAll_get h2 e
      exact ⟨v, by simpa using e2, h3⟩
theorem dpAll_last {K : PySem.W.Frag} {H : Hp} {ds : List PyData} {vs : List V} {v : V} (h : DpAll K H vs ds) (e : vs.getLast? = some v) : ∃ d, ds.getLast? = some d ∧ Dp K H v d := by
  have hl := dpAll_len h
  rw [List.getLast?_eq_getElem?] at e
  have hlt := (List.getElem?_eq_some_iff.mp e).1
  obtain ⟨d, ed⟩ : ∃ d, ds[ds.length - 1]? = some d := ⟨_, List.getElem?_eq_getElem (by omega)⟩
  obtain ⟨v2, e2, h2⟩ := dpAll_get h ed
  rw [← hl, e] at e2
  cases e2
  exact ⟨d, by rw [List.getLast?_eq_getElem?]; exact ed, h2⟩
theorem dpAll_append : ∀ {ds es : List PyData} {vs us : List V}, DpAll K H vs ds → DpAll K H us es → DpAll K H (vs ++ us) (ds ++ es)
  | [], es, _, us, h, k => by cases h; exact k
  | d :: ds, es, _, us, h, k => by
    cases h with
    | cons h1 h2 => exact .cons h1 (dpAll_append h2 k)
theorem dpAll_take : ∀ {ds : List PyData} {vs : List V} (n : Nat), DpAll K H vs ds → DpAll K H (vs.take n) (ds.take n)
  | [], _, n, h => by cases h; simp; exact .nil
  | d :: ds, _, 0, h => by simp; exact .nil
  | d :: ds, _, n + 1, h => by
    cases h with
    | cons h1 h2 => exact .cons h1 (dpAll_take n h2)
theorem dpAll_reverse : ∀ {ds : List PyData} {vs : List V}, DpAll K H vs ds → DpAll K H vs.reverse ds.reverse
  | [], _, h => by cases h; exact .nil
  | d :: ds, _, h => by
    cases h with
    | cons h1 h2 =>
      rw [List.reverse_cons, List.reverse_cons]
      exact dpAll_append (dpAll_reverse h2) (.cons h1 .nil)
/-! data without lists: they outlast what is stored into a list -/
mutual
def noL : PyData → Bool
  | .list _ => false
  | .dict _ => false
  | .tuple xs => noLAll xs
  | _ => true
def noLAll : List PyData → Bool
  | [] => true
  | d :: ds => noL d && noLAll ds
end
theorem sqT_put {l a : Addr} {ys zs xs : List V} (hl : H l = some (.lst ys)) (h : SqT K H a xs) : SqT K (upd H l (.lst zs)) a xs := by
  have ne : ∀ {o : HO}, H a = some o → o ≠ .lst ys → a ≠ l := fun e n z => by
    rw [z, hl] at e
    exact n (Option.some.inj e).symm
  rcases h with (h | ⟨o, h⟩) | h
  · exact .inl (.inl (by rw [upd_ne (ne h (fun z => by cases z))]; exact h))
  · exact .inl (.inr ⟨o, by rw [upd_ne (ne h (fun z => by cases z))]; exact h⟩)
  · exact .inr h
mutual
theorem dp_put {l : Addr} {ys zs : List V} (hl : H l = some (.lst ys)) : ∀ (d : PyData) (v : V), noL d = true → Dp K H v d → Dp K (upd H l (.lst zs)) v d
  | .none, _, _, h => by cases h; exact .non
  | .bool b, _, _, h => by cases h; exact .bl b
  | .int i, _, _, h => by cases h; exact .int i
  | .str x, _, _, h => by cases h; exact .str x
  | .list ds, _, n, _ => by simp [noL] at n
  | .tuple ds, _, n, h => by
    cases h with
    | tup hs ha => exact .tup (sqT_put hl hs) (dpAll_put hl ds _ (by simpa [noL] using n) ha)
  | .dict _, _, n, _ => by simp [noL] at n
theorem dpAll_put {l : Addr} {ys zs : List V} (hl : H l = some (.lst ys)) : ∀ (ds : List PyData) (vs : List V), noLAll ds = true → DpAll K H vs ds → DpAll K (upd H l (.lst zs)) vs ds
  | [], _, _, h => by cases h; exact .nil
  | d :: ds, _, n, h => by
    have n' : noL d = true ∧ noLAll ds = true := by simpa [noLAll] using n
    cases h with
    | cons h1 h2 => exact .cons (dp_put hl d _ n'.1 h1) (dpAll_put hl ds _ n'.2 h2)
end
theorem noL_all : ∀ {ds : List PyData}, (∀ d ∈ ds, noL d = true) → noLAll ds = true
  | [], _ => rfl
  | d :: ds, h => by
    show (noL d && noLAll ds) = true
    rw [h d (List.mem_cons_self ..), noL_all fun x hx => h x (List.mem_cons_of_mem _ hx)]
    rfl
theorem dp_tup {v : V} {ds : List PyData} (h : Dp K H v (.tuple ds)) : ∃ a xs, v = .ref a ∧ SqT K H a xs ∧ DpAll K H xs ds := by
  cases h with
  | tup hs ha => exact ⟨_, _, rfl, hs, ha⟩
variable {Q : VK} {R : L2.St → Hp → Prop}
theorem go_catA {a b : Addr} {xs ys : List V} (h1 : SqT K H a xs) (h2 : SqT K H b ys) (hz : xs.length + ys.length ≤ 100000) (hy : ys ≠ [])
    (q : ∀ p H', Same H H' → SqT K H' p (xs ++ ys) → Q (.ref p) H') : rCatA K (.ref a) (.ref b) H Q := by
  refine ⟨a, b, xs, ys, rfl, rfl, h1, h2, Nat.le_trans hz (by rw [sizeLine_eq]; decide), fun e => ?_, fun _ e => absurd e hy, fun _ _ p hp => ?_⟩
  · subst e
    exact q b H (Same.refl _) h2
  · exact q p _ (fun c o hc => by rw [upd_ne (ne_of_none hc hp)]; exact hc) (.inl (.inl upd_same))
theorem go_slTo {a : Addr} {xs : List V} {k : Nat} (h : SqT K H a xs) (hk : k ≤ xs.length) (q : ∀ p H', Same H H' → SqT K H' p (xs.take k) → Q (.ref p) H') : rSlA K (.ref a) none (some (k : Int)) H Q := by
  refine ⟨a, xs, rfl, h, fun e => ?_, fun _ p hp => ?_⟩
  · have e2 := e.2
    rw [HT.sIx_nat] at e2
    have : xs.take k = xs := List.take_of_length_le (by omega)
    exact q a H (Same.refl _) (by rw [this]; exact h)
  · have e : cutV xs none (some (k : Int)) = xs.take k := by
      unfold cutV
      rw [HT.sIx_none, HT.sIx_nat]
      simp
    exact q p _ (fun c o hc => by rw [upd_ne (ne_of_none hc hp)]; exact hc) (.inl (.inl (by rw [upd_same, e])))
theorem go_eqD {x y : V} {d : PyData} (h1 : Dp K H x d) (h2 : Dp K H y d) (hs : SeqAt.shaped d = true) (q : Q (.bl true) H) : rEqD K x y H Q :=
  ⟨d, d, h1, h2, hs, hs, by rw [SeqAt.eqv_refl d (SeqAt.canLay_of_shaped hs)]; exact q⟩
theorem go_neD {x y : V} {d : PyData} (h1 : Dp K H x d) (h2 : Dp K H y d) (hs : SeqAt.shaped d = true) (q : Q (.bl false) H) : rNeD K x y H Q :=
  ⟨d, d, h1, h2, hs, hs, by rw [SeqAt.eqv_refl d (SeqAt.canLay_of_shaped hs)]; exact q⟩
theorem at_0 {x : V} {l : List V} : atI (x :: l) 0 = some x := at_nat (xs := x :: l) (i := 0) rfl
theorem at_1 {x y : V} {l : List V} : atI (x :: y :: l) 1 = some y := at_nat (xs := x :: y :: l) (i := 1) rfl
theorem at_2 {x y z : V} {l : List V} : atI (x :: y :: z :: l) 2 = some z := at_nat (xs := x :: y :: z :: l) (i := 2) rfl
theorem at_last {xs : List V} (h : xs ≠ []) : atI xs (-1) = xs.getLast? := by
  have hl : 0 < xs.length := List.length_pos_iff.mpr h
  have e : ixN xs.length (-1) = some (xs.length - 1) := by
    unfold ixN
    rw [if_neg (by decide), if_pos (by omega)]
    congr 1
    omega
  unfold atI
  rw [e, Option.bind_some, List.getLast?_eq_getElem?]
theorem go_iRng3 {σ : L2.St} {ta : TA} {R : It → Hp → Prop} (h : ta σ H fun vs H1 => ∃ (i j c : Int) (n : Nat), vs = [.int i, .int j, .int c] ∧ RgC i j c n ∧ R (Itc i c n) H1) : iRng3 ta σ H R := h
/-- for i in range(n - 1, -1, -1) -/
theorem foRdn {σ : L2.St} {D : Ends} {g : TG} {tb : TS} {n : Nat} (Pv : Nat → L2.St → Hp → Prop) (hn : n ≤ 1000000) (h0 : Pv 0 σ H)
    (hs : ∀ (i : Nat) σ H, i < n → Pv i σ H → g (.int ((n - 1 - i : Nat) : Int)) σ H fun σ2 H2 => tb { D with nx := Pv (i + 1), ct := Pv (i + 1), bk := D.nx } σ2 H2) (hd : ∀ σ H, Pv n σ H → D.nx σ H) :
    ∃ (i j c : Int) (k : Nat), [V.int ((n : Int) - 1), .int (-1), .int (-1)] = [.int i, .int j, .int c] ∧ RgC i j c k ∧ ∃ W : Nat → Nat → L2.St → Hp → Prop, (∃ m, W 0 m σ H) ∧ ∀ i' m σ H, W i' m σ H →
      ((Itc i c k).stop i' H ∧ D.nx σ H) ∨ ((Itc i c k).go i' H ∧ ∃ N : L2.St → Hp → Prop, (∀ σ' H', N σ' H' → ∃ m', m' < m ∧ W (i' + 1) m' σ' H') ∧ ∀ x H', (Itc i c k).yld i' H x H' → g x σ H' fun σ2 H2 => tb { D with nx := N, ct := N, bk := D.nx } σ2 H2) := by
  have r := RgC.neg (i := (n : Int) - 1) (j := -1) (by omega) (by omega) (by omega) (by omega)
  have e : ((n : Int) - 1 - -1).toNat = n := by omega
  rw [e] at r
  refine ⟨_, _, _, n, rfl, r, for_rangeC Pv h0 (fun i σ H hi p => ?_) hd⟩
  have e2 : (n : Int) - 1 + (i : Nat) * (-1) = ((n - 1 - i : Nat) : Int) := by omega
  rw [e2]
  exact hs i σ H hi p
/-- t + ((..),): a view with one more item -/
theorem add_dp {vw p p2 : Addr} {xs : List V} {ds es : List PyData} (hv : Dp K H (.ref vw) (.tuple ds)) (hp : H p = none) (hp2 : upd H p (.tup xs) p2 = none) (hx : ∀ H', DpAll K H' xs es) (hl : ds.length ≤ 1000)
    (q : ∀ p3 H3, Same H H3 → Dp K H3 (.ref p3) (.tuple (ds ++ [.tuple es])) → Q (.ref p3) H3) : rCatA K (.ref vw) (.ref p2) (upd (upd H p (.tup xs)) p2 (.tup [.ref p])) Q := by
  obtain ⟨a, ys, e, h1, h2⟩ := dp_tup hv
  cases e
  have s1 : Same H (upd (upd H p (.tup xs)) p2 (.tup [.ref p])) := fun c o hc => by
    have h3 : upd H p (.tup xs) c = some o := by rw [upd_ne (ne_of_none hc hp)]; exact hc
    rw [upd_ne (ne_of_none h3 hp2)]
    exact h3
  have hpp : upd (upd H p (.tup xs)) p2 (.tup [.ref p]) p = some (.tup xs) := by
    have h3 : upd H p (.tup xs) p = some (.tup xs) := upd_same
    rw [upd_ne (ne_of_none h3 hp2)]
    exact h3
  have hlen := dpAll_len h2
  refine go_catA (same_sqT s1 h1) (.inl (.inl upd_same)) (by simp; omega) (by simp) fun p3 H3 s3 e3 => ?_
  refine q p3 H3 (s1.trans s3) (.tup e3 (dpAll_append (dpAll_same (s1.trans s3) _ _ h2) (.cons (.tup (.inl (.inl (s3 _ _ hpp))) (hx H3)) .nil)))
theorem go_revL {te : TE} {σ : L2.St} (h : te σ H fun x H1 => ∃ a xs, x = .ref a ∧ SqL K H1 a xs ∧ ∀ p, H1 p = none → Q (.ref p) (upd H1 p (.lst xs.reverse))) : tRevL K te σ H Q := h
end
end Gx

set_option Elab.async false
set_option linter.all false
set_option maxRecDepth 100000
set_option maxHeartbeats 4000000
/-! Own lemmas: what stands while one list is written. -/
namespace Gx
open PySem PySem.Spec PyProof.Rows L2
theorem PairsAt.but {q : Addr} {H H' : Hp} {zs xs : List V} {ts : List (Int × Int)} (h : PairsAt H xs ts) (e : H q = some (.lst zs)) (B : But q H H') : PairsAt H' xs ts :=
  ⟨h.1, fun i x r a b => let ⟨p, e1, k⟩ := h.2 i x r a b; ⟨p, e1, B _ _ (ne_of k e (by intro z; cases z)) k⟩⟩
theorem Pool.but {p : Pl} {b : Int} {q : Addr} {H H' : Hp} (h : Pool H p b) (B : But q H H') (n1 : q ≠ p.a) (n2 : q ≠ p.l) : Pool H' p b := by
  obtain ⟨p1, p2, p3, p4, e, k⟩ := h.ex
  exact ⟨⟨p1, p2, p3, p4, B _ _ n1.symm e, k⟩, B _ _ n2.symm h.li, h.ne⟩
end Gx

local macro_rules | `(tactic| walk_at "side") => `(tactic| first | decide | omega | assumption | exact Or.inl ⟨by decide, by decide⟩ | exact Or.inr ⟨by decide, by decide⟩ | exact Or.inl ⟨by omega, by omega⟩ | exact Or.inr ⟨by omega, by omega⟩ | (refine ⟨?_, ?_⟩ <;> first | decide | omega | assumption))
local macro_rules | `(tactic| walk_at "go1") => `(tactic| first
  | with_reducible refine Gx.go_seq ?_
  | with_reducible refine Gx.go_asg ?_
  | with_reducible refine Gx.go_name ?_
  | with_reducible refine Gx.go_var rfl ?_
  | with_reducible refine Gx.go_c ?_
  | with_reducible refine Gx.go_op ?_
  | with_reducible refine Gx.go_rI0 ?_
  | ((with_reducible refine Gx.go_rI ?k1 ?k2); (case k1 => walk_at "side"))
  | with_reducible refine Gx.go_test ?_
  | with_reducible refine Gx.go_if ?_
  | with_reducible refine Gx.go_cons ?_
  | with_reducible refine Gx.go_nil ?_
  | with_reducible refine Gx.go_CB ?_
  | with_reducible refine Gx.go_call ?_
  | with_reducible refine Gx.go_eqI ?_
  | with_reducible refine Gx.go_neI ?_
  | with_reducible refine Gx.go_eqS ?_
  | with_reducible refine Gx.go_neS ?_
  | with_reducible refine Gx.go_eqB ?_
  | with_reducible refine Gx.go_neB ?_
  | with_reducible refine Gx.go_eqN ?_
  | with_reducible refine Gx.ite_dt ?_
  | with_reducible refine Gx.go_ret ?_
  | with_reducible refine Gx.go_retN ?_
  | with_reducible refine Gx.go_next ?_
  | with_reducible refine Gx.go_drop ?_
  | with_reducible refine Gx.go_un ?_
  | with_reducible refine Gx.go_rU ?_
  | with_reducible refine Gx.go_and ?_
  | with_reducible refine Gx.go_or ?_
  | with_reducible refine Gx.go_not ?_
  | with_reducible refine Gx.go_andV ?_
  | with_reducible refine Gx.go_orV ?_
  | with_reducible refine Gx.go_notV ?_
  | with_reducible refine Gx.go_blA ?_
  | with_reducible refine L2.iteT ?_
  | with_reducible refine L2.iteF ?_
  | with_reducible refine Gx.ite_nt ?_
  | with_reducible refine Gx.ite_nf ?_
  | with_reducible refine Gx.go_ifE ?_
  | with_reducible refine Gx.go_chain ?_
  | with_reducible refine Gx.go_B ?_
  | with_reducible refine Gx.go_int1 ?_
  | with_reducible refine Gx.go_intB ?_
  | with_reducible refine Gx.go_lst ?_
  | with_reducible refine Gx.go_tup ?_
  | with_reducible refine Gx.go_sl ?_
  | with_reducible refine Gx.go_noPart ?_
  | with_reducible refine Gx.go_part ?_
  | with_reducible refine Gx.go_partI ?_
  | with_reducible refine Gx.isi_int_int ?_
  | with_reducible refine Gx.isi_int_bool ?_
  | with_reducible refine Gx.isi_int_str ?_
  | with_reducible refine Gx.isi_int_list ?_
  | with_reducible refine Gx.isi_int_tuple ?_
  | with_reducible refine Gx.isi_bool_int ?_
  | with_reducible refine Gx.isi_bool_bool ?_
  | with_reducible refine Gx.isi_bool_str ?_
  | with_reducible refine Gx.isi_bool_list ?_
  | with_reducible refine Gx.isi_bool_tuple ?_
  | with_reducible refine Gx.isi_str_int ?_
  | with_reducible refine Gx.isi_str_bool ?_
  | with_reducible refine Gx.isi_str_str ?_
  | with_reducible refine Gx.isi_str_list ?_
  | with_reducible refine Gx.isi_str_tuple ?_
  | with_reducible refine Gx.isi_NoneType_int ?_
  | with_reducible refine Gx.isi_NoneType_bool ?_
  | with_reducible refine Gx.isi_NoneType_str ?_
  | with_reducible refine Gx.isi_NoneType_list ?_
  | with_reducible refine Gx.isi_NoneType_tuple ?_
  | with_reducible refine Gx.go_bool1 ?_
  | with_reducible refine Gx.go_boolB ?_
  | with_reducible refine Gx.go_abs ?_
  | with_reducible refine Gx.go_max2 ?_
  | with_reducible refine Gx.go_min2 ?_
  | with_reducible refine Gx.go_ord ?_
  | with_reducible refine Gx.go_isN0 ?_
  | with_reducible refine Gx.go_isNI ?_
  | with_reducible refine Gx.go_isNS ?_
  | with_reducible refine Gx.go_isNB ?_
  | with_reducible refine Gx.go_isNR ?_
  | with_reducible refine Gx.go_notN0 ?_
  | with_reducible refine Gx.go_notNI ?_
  | with_reducible refine Gx.go_notNS ?_
  | with_reducible refine Gx.go_notNB ?_
  | with_reducible refine Gx.go_notNR ?_
  | with_reducible refine Gx.go_ltS ?_
  | with_reducible refine Gx.go_leS ?_
  | with_reducible refine Gx.go_BM ?_
  | with_reducible refine Gx.go_BM0 ?_
  | with_reducible refine Gx.go_not_t ?_
  | with_reducible refine Gx.go_not_f ?_
  | with_reducible refine Gx.go_iList ?_
  | with_reducible refine Gx.go_iRng1 ?_
  | with_reducible refine Gx.go_iRng2 ?_
  | with_reducible refine Gx.go_lc ?_
  | with_reducible refine Gx.go_for ?_
  | with_reducible refine Gx.go_sub ?_
  | with_reducible refine Gx.go_setL2 (by with_unfolding_all rfl) ?_
  | with_reducible refine Gx.go_ixL2 (by with_unfolding_all rfl) ?_
  | with_reducible refine Gx.go_setL (by assumption) (by with_unfolding_all rfl) ?_
  | with_reducible refine Gx.go_ixL1 (by assumption) (by with_unfolding_all rfl) ?_
  | with_reducible refine Gx.go_ixT1 (by assumption) (by with_unfolding_all rfl) ?_
  | with_reducible refine Gx.go_M1 ?_
  | with_reducible refine Gx.go_M0 ?_
  | with_reducible refine Gx.go_isS ?_
  | with_reducible refine Gx.go_iStr ?_
  | with_reducible refine Gx.sq_list_int (by assumption) ?_
  | with_reducible refine Gx.sq_list_bool (by assumption) ?_
  | with_reducible refine Gx.sq_list_str (by assumption) ?_
  | with_reducible refine Gx.sq_list_list (by assumption) ?_
  | with_reducible refine Gx.sq_list_tuple (by assumption) ?_
  | with_reducible refine Gx.sq_tuple_int (by assumption) ?_
  | with_reducible refine Gx.sq_tuple_bool (by assumption) ?_
  | with_reducible refine Gx.sq_tuple_str (by assumption) ?_
  | with_reducible refine Gx.sq_tuple_list (by assumption) ?_
  | with_reducible refine Gx.sq_tuple_tuple (by assumption) ?_
  | with_reducible refine Gx.go_fld ?_
  | with_reducible refine Gx.go_rnum (by assumption) (by assumption) (by assumption) ?_
  | with_reducible refine Gx.go_rden (by assumption) (by assumption) (by assumption) ?_
  | with_reducible refine Gx.go_make ?_
  | with_reducible refine Gx.go_meth ?_
  | with_reducible refine Gx.go_sfld ?_
  | with_reducible refine Gx.go_own (by assumption) (by assumption) ?_
  | with_reducible refine Gx.go_uOwn (by assumption) ?_
  | with_reducible refine Gx.go_gcons ?_
  | with_reducible refine Gx.go_gnil ?_
  | with_reducible refine Gx.go_brk ?_
  | with_reducible refine Gx.go_cont ?_)
local macro_rules | `(tactic| walk_at "go") => `(tactic| repeat walk_at "go1")
local macro_rules | `(tactic| walk_at "br") => `(tactic| first
  | with_reducible refine Gx.ite_d ?_ ?_
  | with_reducible refine Gx.ite_nd ?_ ?_
  | with_reducible refine Gx.ite_b ?_ ?_)
local macro_rules | `(tactic| walk_at "go1") => `(tactic| first
  | with_reducible refine Gx.go_iRng3 ?_
  | with_reducible refine Gx.go_revL ?_)
local macro_rules | `(tactic| walk_at "go1") => `(tactic| first
  | with_reducible refine Gx.go_inC ?_
  | with_reducible refine Gx.go_niC ?_)
namespace K60
open PySem PySem.Spec PyProof.Rows L2 Gx
def top (i : Nat) : Stmt := PySem.Challenge.pw_sureplay_k60_lots_that_were_given.main.body.getD i (.Pass ⟨0, 0, 0, 0⟩)
abbrev s_Ratio___init__ : Stmt := inClass (top 6) 0
abbrev s_Tape___init__ : Stmt := inClass (top 8) 0
abbrev s_Tape_take : Stmt := inClass (top 8) 1
abbrev s_Tape_chance : Stmt := inClass (top 8) 2
abbrev s_Tape_following : Stmt := inClass (top 8) 3
abbrev s__law_pool : Stmt := top 10
abbrev s__law_draw : Stmt := top 11
abbrev s__law_number : Stmt := top 14
abbrev s__law_same : Stmt := top 15
abbrev s__law_lowest : Stmt := top 16
abbrev s__law_is_ratio : Stmt := top 17
abbrev s__law_following : Stmt := top 18
abbrev s__law_told : Stmt := top 19
abbrev s__law_one : Stmt := top 20
abbrev s_law : Stmt := top 21
/-- where the defs and classes stand -/
structure Ad where
  f_Ratio___init__ : Addr
  d_Ratio___init__ : FuncData
  f_Tape___init__ : Addr
  d_Tape___init__ : FuncData
  f_Tape_take : Addr
  d_Tape_take : FuncData
  f_Tape_chance : Addr
  d_Tape_chance : FuncData
  f_Tape_following : Addr
  d_Tape_following : FuncData
  f__law_pool : Addr
  d__law_pool : FuncData
  f__law_draw : Addr
  d__law_draw : FuncData
  f__law_number : Addr
  d__law_number : FuncData
  f__law_same : Addr
  d__law_same : FuncData
  f__law_lowest : Addr
  d__law_lowest : FuncData
  f__law_is_ratio : Addr
  d__law_is_ratio : FuncData
  f__law_following : Addr
  d__law_following : FuncData
  f__law_told : Addr
  d__law_told : FuncData
  f__law_one : Addr
  d__law_one : FuncData
  f_law : Addr
  d_law : FuncData
  c_Ratio : Addr
  c_Tape : Addr
/-- what the top has left -/
structure Txt (P : Program) (K : PySem.W.Frag) (mg : Str → Option Value) (A : Ad) : Prop where
  F_Ratio___init__ : FunD K "__init__" "Ratio.__init__" (defArgs s_Ratio___init__) (defBody s_Ratio___init__) (defScope s_Ratio___init__) [V.int 1] [] A.f_Ratio___init__ A.d_Ratio___init__
  b_Ratio___init___0 : ∃ ds, Vals [] ds ∧ Binds K A.d_Ratio___init__ ["self", "num", "den"] ds
  b_Ratio___init___1 : ∃ ds, Vals [V.int 1] ds ∧ Binds K A.d_Ratio___init__ ["self", "num", "den"] ds
  mk_Ratio : Mk K A.c_Ratio A.f_Ratio___init__
  F_Tape___init__ : Fun K "__init__" "Tape.__init__" s_Tape___init__ A.f_Tape___init__ A.d_Tape___init__
  b_Tape___init__ : Binds K A.d_Tape___init__ ["self", "results"] []
  mk_Tape : Mk K A.c_Tape A.f_Tape___init__
  F_Tape_take : Fun K "take" "Tape.take" s_Tape_take A.f_Tape_take A.d_Tape_take
  b_Tape_take : Binds K A.d_Tape_take ["self", "count"] []
  me_Tape_take : Meth K A.c_Tape "take" A.f_Tape_take
  F_Tape_chance : Fun K "chance" "Tape.chance" s_Tape_chance A.f_Tape_chance A.d_Tape_chance
  b_Tape_chance : Binds K A.d_Tape_chance ["self"] []
  me_Tape_chance : Meth K A.c_Tape "chance" A.f_Tape_chance
  F_Tape_following : Fun K "following" "Tape.following" s_Tape_following A.f_Tape_following A.d_Tape_following
  b_Tape_following : Binds K A.d_Tape_following ["self"] []
  me_Tape_following : Meth K A.c_Tape "following" A.f_Tape_following
  F__law_pool : Fun K "_law_pool" "_law_pool" s__law_pool A.f__law_pool A.d__law_pool
  b__law_pool : Binds K A.d__law_pool ["_law_script", "_law_budget"] []
  m__law_pool : mg "_law_pool" = some (.ref A.f__law_pool)
  F__law_draw : Fun K "_law_draw" "_law_draw" s__law_draw A.f__law_draw A.d__law_draw
  b__law_draw : Binds K A.d__law_draw ["_law_pool_here", "_law_size"] []
  m__law_draw : mg "_law_draw" = some (.ref A.f__law_draw)
  F__law_number : Fun K "_law_number" "_law_number" s__law_number A.f__law_number A.d__law_number
  b__law_number : Binds K A.d__law_number ["_law_pool_here"] []
  m__law_number : mg "_law_number" = some (.ref A.f__law_number)
  F__law_same : Fun K "_law_same" "_law_same" s__law_same A.f__law_same A.d__law_same
  b__law_same : Binds K A.d__law_same ["_law_actual", "_law_due"] []
  m__law_same : mg "_law_same" = some (.ref A.f__law_same)
  F__law_lowest : Fun K "_law_lowest" "_law_lowest" s__law_lowest A.f__law_lowest A.d__law_lowest
  b__law_lowest : Binds K A.d__law_lowest ["_law_num", "_law_den"] []
  m__law_lowest : mg "_law_lowest" = some (.ref A.f__law_lowest)
  F__law_is_ratio : Fun K "_law_is_ratio" "_law_is_ratio" s__law_is_ratio A.f__law_is_ratio A.d__law_is_ratio
  b__law_is_ratio : Binds K A.d__law_is_ratio ["_law_actual", "_law_num", "_law_den"] []
  m__law_is_ratio : mg "_law_is_ratio" = some (.ref A.f__law_is_ratio)
  F__law_following : Fun K "_law_following" "_law_following" s__law_following A.f__law_following A.d__law_following
  b__law_following : Binds K A.d__law_following ["_law_taken"] []
  m__law_following : mg "_law_following" = some (.ref A.f__law_following)
  F__law_told : Fun K "_law_told" "_law_told" s__law_told A.f__law_told A.d__law_told
  b__law_told : Binds K A.d__law_told ["_law_tape", "_law_taken"] []
  m__law_told : mg "_law_told" = some (.ref A.f__law_told)
  F__law_one : Fun K "_law_one" "_law_one" s__law_one A.f__law_one A.d__law_one
  b__law_one : Binds K A.d__law_one ["_law_pool_here"] []
  m__law_one : mg "_law_one" = some (.ref A.f__law_one)
  F_law : Fun K "law" "law" s_law A.f_law A.d_law
  b_law : Binds K A.d_law ["_law_script"] []
  m_law : mg "law" = some (.ref A.f_law)
  m_Ratio : mg "Ratio" = some (.ref A.c_Ratio)
  cl_Ratio : Cls K A.c_Ratio
  na_Ratio_num : NoAttr K A.c_Ratio "num"
  na_Ratio_den : NoAttr K A.c_Ratio "den"
  ic_Ratio : C8.InsC K A.c_Ratio
  m_Tape : mg "Tape" = some (.ref A.c_Tape)
  cl_Tape : Cls K A.c_Tape
  na_Tape_results : NoAttr K A.c_Tape "results"
  na_Tape_taken : NoAttr K A.c_Tape "taken"
  g_gcd : mg "gcd" = some (.builtin "math.gcd")
  n_isinstance : mg "isinstance" = none
  n_str : mg "str" = none
  n_list : mg "list" = none
  n_len : mg "len" = none
  n_range : mg "range" = none
  n_int : mg "int" = none
  n_min : mg "min" = none
  n_tuple : mg "tuple" = none
  n_bool : mg "bool" = none
  n_abs : mg "abs" = none
theorem sc_Ratio___init__ : FnScope ["self", "num", "den", "part"] ["self", "num", "den"] (defScope s_Ratio___init__) := ⟨rfl, rfl, rfl, by decide +kernel, rfl, by decide +kernel, by decide +kernel⟩
theorem sc_Tape___init__ : FnScope ["self", "results"] ["self", "results"] (defScope s_Tape___init__) := ⟨rfl, rfl, rfl, by decide +kernel, rfl, by decide +kernel, by decide +kernel⟩
theorem sc_Tape_take : FnScope ["self", "count", "result"] ["self", "count"] (defScope s_Tape_take) := ⟨rfl, rfl, rfl, by decide +kernel, rfl, by decide +kernel, by decide +kernel⟩
theorem sc_Tape_chance : FnScope ["self", "ways", "_", "count"] ["self"] (defScope s_Tape_chance) := ⟨rfl, rfl, rfl, by decide +kernel, rfl, by decide +kernel, by decide +kernel⟩
theorem sc_Tape_following : FnScope ["self", "at", "result", "count", "row"] ["self"] (defScope s_Tape_following) := ⟨rfl, rfl, rfl, by decide +kernel, rfl, by decide +kernel, by decide +kernel⟩
theorem sc__law_pool : FnScope ["_law_script", "_law_budget"] ["_law_script", "_law_budget"] (defScope s__law_pool) := ⟨rfl, rfl, rfl, by decide +kernel, rfl, by decide +kernel, by decide +kernel⟩
theorem sc__law_draw : FnScope ["_law_pool_here", "_law_size", "_law_cell", "_law_value"] ["_law_pool_here", "_law_size"] (defScope s__law_draw) := ⟨rfl, rfl, rfl, by decide +kernel, rfl, by decide +kernel, by decide +kernel⟩
theorem sc__law_number : FnScope ["_law_pool_here"] ["_law_pool_here"] (defScope s__law_number) := ⟨rfl, rfl, rfl, by decide +kernel, rfl, by decide +kernel, by decide +kernel⟩
theorem sc__law_same : FnScope ["_law_actual", "_law_due", "_law_k"] ["_law_actual", "_law_due"] (defScope s__law_same) := ⟨rfl, rfl, rfl, by decide +kernel, rfl, by decide +kernel, by decide +kernel⟩
theorem sc__law_lowest : FnScope ["_law_num", "_law_den", "_law_a", "_law_b", "_law_k", "_law_c"] ["_law_num", "_law_den"] (defScope s__law_lowest) := ⟨rfl, rfl, rfl, by decide +kernel, rfl, by decide +kernel, by decide +kernel⟩
theorem sc__law_is_ratio : FnScope ["_law_actual", "_law_num", "_law_den", "_law_due"] ["_law_actual", "_law_num", "_law_den"] (defScope s__law_is_ratio) := ⟨rfl, rfl, rfl, by decide +kernel, rfl, by decide +kernel, by decide +kernel⟩
theorem sc__law_following : FnScope ["_law_taken", "_law_k", "_law_j"] ["_law_taken"] (defScope s__law_following) := ⟨rfl, rfl, rfl, by decide +kernel, rfl, by decide +kernel, by decide +kernel⟩
theorem sc__law_told : FnScope ["_law_tape", "_law_taken", "_law_ways", "_law_row"] ["_law_tape", "_law_taken"] (defScope s__law_told) := ⟨rfl, rfl, rfl, by decide +kernel, rfl, by decide +kernel, by decide +kernel⟩
theorem sc__law_one : FnScope ["_law_pool_here", "_law_results", "_law_passed", "_law_tape", "_law_taken", "_law_k", "_law_count", "_law_result"] ["_law_pool_here"] (defScope s__law_one) := ⟨rfl, rfl, rfl, by decide +kernel, rfl, by decide +kernel, by decide +kernel⟩
theorem sc_law : FnScope ["_law_script", "_law_pool_here", "_law_counts", "_law_ways", "_law_k", "_law_count", "_law_results", "_law_tape", "_law_at", "_law_place"] ["_law_script"] (defScope s_law) := ⟨rfl, rfl, rfl, by decide +kernel, rfl, by decide +kernel, by decide +kernel⟩
def F_Tape (x0 x1 : V) : List (Str × V) := [("results", x0), ("taken", x1)]
theorem F_Tape_results {x0 x1 : V} : (F_Tape x0 x1).lookup ("results" : Str) = some x0 := by
  unfold F_Tape;  rw [List.lookup_cons, beq_self_eq_true]
theorem go_F_Tape_results {K : PySem.W.Frag} {H : Hp} {Q : VK} {a C dx : Addr} {x0 x1 : V} (e : H a = some (.ins C dx (F_Tape x0 x1))) (c : Cls K C) (n : NoAttr K C "results") (h : Q x0 H) : qFld K "results" Q (.ref a) H := go_fldV e c n F_Tape_results h
theorem F_Tape_put_results {x0 x1 y : V} : putF "results" y (F_Tape x0 x1) = F_Tape y x1 := by
  unfold F_Tape
  simp only [putF, if_true]
theorem F_Tape_taken {x0 x1 : V} : (F_Tape x0 x1).lookup ("taken" : Str) = some x1 := by
  unfold F_Tape; rw [List.lookup_cons, show ((PySem.Str.ofString "taken") == (PySem.Str.ofString "results")) = false by decide +kernel]; rw [List.lookup_cons, beq_self_eq_true]
theorem go_F_Tape_taken {K : PySem.W.Frag} {H : Hp} {Q : VK} {a C dx : Addr} {x0 x1 : V} (e : H a = some (.ins C dx (F_Tape x0 x1))) (c : Cls K C) (n : NoAttr K C "taken") (h : Q x1 H) : qFld K "taken" Q (.ref a) H := go_fldV e c n F_Tape_taken h
theorem F_Tape_put_taken {x0 x1 y : V} : putF "taken" y (F_Tape x0 x1) = F_Tape x0 y := by
  unfold F_Tape
  simp only [putF, if_true, show ¬ ((PySem.Str.ofString "results") = (PySem.Str.ofString "taken")) by decide +kernel, if_false]
theorem F_Tape_made {x0 x1 : V} : (putF "taken" x1 (putF "results" x0 [])) = F_Tape x0 x1 := by
  unfold F_Tape
  simp only [putF, show ¬ ((PySem.Str.ofString "results") = (PySem.Str.ofString "taken")) by decide +kernel, if_false]
theorem F_Tape_no___init__ {x0 x1 : V} : (F_Tape x0 x1).lookup ("__init__" : Str) = none := by
  unfold F_Tape; rw [List.lookup_cons, show ((PySem.Str.ofString "__init__") == (PySem.Str.ofString "results")) = false by decide +kernel]; rw [List.lookup_cons, show ((PySem.Str.ofString "__init__") == (PySem.Str.ofString "taken")) = false by decide +kernel]; rfl
theorem F_Tape_no_take {x0 x1 : V} : (F_Tape x0 x1).lookup ("take" : Str) = none := by
  unfold F_Tape; rw [List.lookup_cons, show ((PySem.Str.ofString "take") == (PySem.Str.ofString "results")) = false by decide +kernel]; rw [List.lookup_cons, show ((PySem.Str.ofString "take") == (PySem.Str.ofString "taken")) = false by decide +kernel]; rfl
theorem F_Tape_no_chance {x0 x1 : V} : (F_Tape x0 x1).lookup ("chance" : Str) = none := by
  unfold F_Tape; rw [List.lookup_cons, show ((PySem.Str.ofString "chance") == (PySem.Str.ofString "results")) = false by decide +kernel]; rw [List.lookup_cons, show ((PySem.Str.ofString "chance") == (PySem.Str.ofString "taken")) = false by decide +kernel]; rfl
theorem F_Tape_no_following {x0 x1 : V} : (F_Tape x0 x1).lookup ("following" : Str) = none := by
  unfold F_Tape; rw [List.lookup_cons, show ((PySem.Str.ofString "following") == (PySem.Str.ofString "results")) = false by decide +kernel]; rw [List.lookup_cons, show ((PySem.Str.ofString "following") == (PySem.Str.ofString "taken")) = false by decide +kernel]; rfl

/-- what a tape gives next -/
def tRes (rs : List Int) (n : Nat) (c : Int) : Int := if n < rs.length then rs.getD n 0 % c else 0
def prodC (ts : List (Int × Int)) : Int := ts.foldl (fun w t => w * t.2) 1
theorem prodC_snoc (ts : List (Int × Int)) (t : Int × Int) : prodC (ts ++ [t]) = prodC ts * t.2 := by
  unfold prodC
  rw [List.foldl_append]
  rfl
theorem prodC_take {ts : List (Int × Int)} {i : Nat} {t : Int × Int} (h : ts[i]? = some t) : prodC (ts.take (i + 1)) = prodC (ts.take i) * t.2 := by
  rw [List.take_add_one, h, show (some t).toList = [t] from rfl, prodC_snoc]
theorem prodC_le : ∀ ts : List (Int × Int), (∀ t ∈ ts, 1 ≤ t.2 ∧ t.2 ≤ 16) → 1 ≤ prodC ts ∧ prodC ts ≤ 16 ^ ts.length := by
  intro ts
  induction ts using snocRec with
  | nil => intro _; exact ⟨by decide, by decide⟩
  | append_singleton l t ih =>
    intro h
    obtain ⟨h1, h2⟩ := ih fun x hx => h x (List.mem_append_left _ hx)
    obtain ⟨h3, h4⟩ := h t (by simp)
    rw [prodC_snoc, List.length_append, List.length_singleton, Int.pow_succ]
    refine ⟨?_, Int.mul_le_mul h2 h4 (by omega) (by omega)⟩
    have := Int.mul_le_mul h1 h3 (by omega) (by omega)
    omega
/-- the beginning of the next way, from the n-th result on downwards -/
def foll (ts : List (Int × Int)) : Nat → Option (List Int)
  | 0 => none
  | n + 1 => match ts[n]? with
    | some t => if t.1 + 1 < t.2 then some ((ts.take n).map (·.1) ++ [t.1 + 1]) else foll ts n
    | none => foll ts n
theorem foll_yes {ts : List (Int × Int)} {n : Nat} {t : Int × Int} (h : ts[n]? = some t) (hc : t.1 + 1 < t.2) : foll ts (n + 1) = some ((ts.take n).map (·.1) ++ [t.1 + 1]) := by
  rw [foll, h]
  exact if_pos hc
theorem foll_no {ts : List (Int × Int)} {n : Nat} {t : Int × Int} (h : ts[n]? = some t) (hc : ¬ t.1 + 1 < t.2) : foll ts (n + 1) = foll ts n := by
  rw [foll, h]
  exact if_neg hc
theorem foll_take (ts us : List (Int × Int)) : ∀ n, n ≤ ts.length → foll (ts ++ us) n = foll ts n
  | 0, _ => rfl
  | n + 1, h => by
    have ih := foll_take ts us n (by omega)
    have e : (ts ++ us)[n]? = ts[n]? := List.getElem?_append_left (by omega)
    rw [foll, foll, e, ih, List.take_append_of_le_length (by omega)]
theorem foll_len {ts : List (Int × Int)} : ∀ {n : Nat} {l : List Int}, foll ts n = some l → l.length ≤ ts.length + 1
  | 0, _, h => by cases h
  | n + 1, l, h => by
    rw [foll] at h
    split at h
    · split at h
      · cases h
        simp
        omega
      · exact foll_len h
    · exact foll_len h
/-- the same from the front -/
def follR : List (Int × Int) → Option (List Int)
  | [] => none
  | t :: r => match follR r with
    | some l => some (t.1 :: l)
    | none => if t.1 + 1 < t.2 then some [t.1 + 1] else none
theorem foll_cons (t : Int × Int) (r : List (Int × Int)) : ∀ n, n ≤ r.length → foll (t :: r) (n + 1) = match foll r n with | some l => some (t.1 :: l) | none => if t.1 + 1 < t.2 then some [t.1 + 1] else none
  | 0, _ => by
    show (if t.1 + 1 < t.2 then some (([] : List Int) ++ [t.1 + 1]) else none) = _
    rfl
  | n + 1, h => by
    have ih := foll_cons t r n (by omega)
    have hn : r[n]? = some r[n] := List.getElem?_eq_getElem (by omega)
    have hn2 : (t :: r)[n + 1]? = some r[n] := by simpa using hn
    by_cases hc : (r[n]).1 + 1 < (r[n]).2
    · rw [foll_yes hn2 hc, foll_yes hn hc]
      simp
    · rw [foll_no hn2 hc, foll_no hn hc, ih]
theorem foll_eq : ∀ ts : List (Int × Int), foll ts ts.length = follR ts
  | [] => rfl
  | t :: r => by
    rw [List.length_cons, foll_cons t r r.length (Nat.le_refl _), foll_eq r]
    rfl
/-- the digits of k, one for each count -/
def prodN (cs : List Int) : Int := cs.foldr (fun c w => c * w) 1
def digs : List Int → Int → List Int
  | [], _ => []
  | c :: cs, k => (k / prodN cs % c) :: digs cs k
theorem digs_len : ∀ (cs : List Int) (k : Int), (digs cs k).length = cs.length
  | [], _ => rfl
  | c :: cs, k => by show (digs cs k).length + 1 = cs.length + 1; rw [digs_len cs k]
theorem prodN_pos : ∀ cs : List Int, (∀ c ∈ cs, 1 ≤ c) → 1 ≤ prodN cs
  | [], _ => by decide
  | c :: cs, h => by
    have h1 := h c (by simp)
    have h2 := prodN_pos cs fun x hx => h x (by simp [hx])
    show 1 ≤ c * prodN cs
    have := Int.mul_le_mul h1 h2 (by omega) (by omega)
    omega
theorem digs_add : ∀ (cs : List Int) (k m : Int), (∀ c ∈ cs, 1 ≤ c) → digs cs (k + m * prodN cs) = digs cs k
  | [], _, _, _ => rfl
  | c :: cs, k, m, h => by
    have hc := h c (by simp)
    have hp := prodN_pos cs fun x hx => h x (by simp [hx])
    have ih := digs_add cs k (m * c) fun x hx => h x (by simp [hx])
    have e : k + m * prodN (c :: cs) = k + m * c * prodN cs := by
      show k + m * (c * prodN cs) = _
      rw [Int.mul_assoc]
    rw [e]
    show ((k + m * c * prodN cs) / prodN cs % c) :: digs cs (k + m * c * prodN cs) = _
    rw [ih, Int.add_mul_ediv_right _ _ (by omega), Int.add_mul_emod_self_right]
    rfl
theorem digs_mod (cs : List Int) (k : Int) (h : ∀ c ∈ cs, 1 ≤ c) : digs cs (k % prodN cs) = digs cs k := by
  have e := Int.emod_add_mul_ediv k (prodN cs)
  have := digs_add cs (k % prodN cs) (k / prodN cs) h
  rw [Int.mul_comm] at this
  rw [e] at this
  exact this.symm
theorem digs_zero : ∀ (cs : List Int), (∀ c ∈ cs, 1 ≤ c) → digs cs 0 = cs.map fun _ => 0
  | [], _ => rfl
  | c :: cs, h => by
    show (0 / prodN cs % c) :: digs cs 0 = 0 :: cs.map fun _ => 0
    rw [digs_zero cs fun x hx => h x (by simp [hx]), Int.zero_ediv, Int.zero_emod]
/-- the next way -/
theorem next_way : ∀ (cs : List Int) (k : Int), (∀ c ∈ cs, 1 ≤ c) → 0 ≤ k → k < prodN cs →
    (k + 1 < prodN cs → ∃ l, follR ((digs cs k).zip cs) = some l ∧ l.length ≤ cs.length ∧ ∃ z, digs cs (k + 1) = l ++ List.replicate z 0) ∧ (k + 1 = prodN cs → follR ((digs cs k).zip cs) = none)
  | [], k, _, h0, h1 => by
    have : prodN [] = 1 := rfl
    refine ⟨fun h => by omega, fun _ => rfl⟩
  | c :: cs, k, h, h0, h1 => by
    have hc := h c (by simp)
    have hcs : ∀ c ∈ cs, 1 ≤ c := fun x hx => h x (by simp [hx])
    have hp := prodN_pos cs hcs
    have eP : prodN (c :: cs) = c * prodN cs := rfl
    rw [eP] at h1 ⊢
    generalize hP : prodN cs = P at *
    have hr0 := Int.emod_nonneg k (b := P) (by omega)
    have hr1 := Int.emod_lt_of_pos k (b := P) (by omega)
    have hk := Int.emod_add_mul_ediv k P
    have hq0 : 0 ≤ k / P := Int.ediv_nonneg h0 (by omega)
    have hq1 : k / P < c := Int.ediv_lt_of_lt_mul (by omega) h1
    have hq : k / P % c = k / P := Int.emod_eq_of_lt hq0 hq1
    have ed : digs (c :: cs) k = (k / P) :: digs cs k := by
      show (k / prodN cs % c) :: digs cs k = _
      rw [hP, hq]
    obtain ⟨ih1, ih2⟩ := next_way cs (k % P) hcs hr0 (by rw [hP]; exact hr1)
    have em : digs cs (k % P) = digs cs k := by rw [← hP]; exact digs_mod cs k hcs
    rw [em] at ih1 ih2
    rw [ed]
    show (_ → ∃ l, (match follR ((digs cs k).zip cs) with | some l => some (k / P :: l) | none => if k / P + 1 < c then some [k / P + 1] else none) = some l ∧ _) ∧ (_ → (match follR ((digs cs k).zip cs) with | some l => some (k / P :: l) | none => if k / P + 1 < c then some [k / P + 1] else none) = none)
    rw [hP] at ih1 ih2
    by_cases hl : k % P + 1 < P
    · obtain ⟨l, e1, e2, z, e3⟩ := ih1 hl
      rw [e1]
      have hne : k + 1 ≠ c * P := fun e => by
        have h3 : (k + 1) % P = 0 := by rw [e]; exact Int.mul_emod_left _ _
        have h4 : (k + 1) % P = k % P + 1 := by
          have : k + 1 = (k % P + 1) + P * (k / P) := by omega
          rw [this, Int.add_mul_emod_self_left]
          exact Int.emod_eq_of_lt (by omega) hl
        omega
      refine ⟨fun _ => ⟨_, rfl, by simp; exact e2, z, ?_⟩, fun e => absurd e hne⟩
      have e5 : (k + 1) / P = k / P := by
        have : k + 1 = (k % P + 1) + P * (k / P) := by omega
        rw [this, Int.add_mul_ediv_left _ _ (by omega), Int.ediv_eq_zero_of_lt (by omega) hl, Int.zero_add]
      have e6 : digs cs (k % P + 1) = digs cs (k + 1) := by
        have := digs_add cs (k % P + 1) (k / P) hcs
        rw [hP] at this
        rw [← this]
        congr 1
        rw [Int.mul_comm]
        omega
      show ((k + 1) / prodN cs % c) :: digs cs (k + 1) = _
      rw [hP, e5, hq, ← e6, e3]
      rfl
    · have hl2 : k % P + 1 = P := by omega
      rw [ih2 hl2]
      have e7 : k + 1 = P * (k / P + 1) := by
        rw [Int.mul_add, Int.mul_one]
        omega
      by_cases hq2 : k / P + 1 < c
      · refine ⟨fun _ => ⟨[k / P + 1], if_pos hq2, by simp, cs.length, ?_⟩, fun e => ?_⟩
        · show ((k + 1) / prodN cs % c) :: digs cs (k + 1) = _
          have e8 : digs cs (k + 1) = digs cs 0 := by
            have := digs_add cs 0 (k / P + 1) hcs
            rw [hP, Int.zero_add, Int.mul_comm, ← e7] at this
            exact this
          rw [hP, e8, digs_zero cs hcs, e7, Int.mul_ediv_cancel_left _ (by omega), Int.emod_eq_of_lt (by omega) hq2, List.map_const']
          rfl
        · exfalso
          rw [e, Int.mul_comm c P] at e7
          have := Int.eq_of_mul_eq_mul_left (by omega) e7
          omega
      · refine ⟨fun h => ?_, fun _ => if_neg hq2⟩
        exfalso
        have e9 : k / P + 1 = c := by omega
        rw [e9, Int.mul_comm] at e7
        omega
/-- a tape stands at t: its results' list at r, what was taken in the list at k -/
structure TapeAt (C : Addr) (H : Hp) (t r k : Addr) (rs : List Int) (xs : List V) (ts : List (Int × Int)) : Prop where
  ob : ∃ dx, H t = some (.ins C dx (F_Tape (.ref r) (.ref k)))
  rl : H r = some (.lst (rs.map V.int))
  kl : H k = some (.lst xs)
  ps : PairsAt H xs ts
theorem TapeAt.same {C : Addr} {H H' : Hp} {t r k : Addr} {rs : List Int} {xs : List V} {ts : List (Int × Int)} (h : TapeAt C H t r k rs xs ts) (s : Same H H') : TapeAt C H' t r k rs xs ts :=
  ⟨let ⟨dx, e⟩ := h.ob; ⟨dx, s _ _ e⟩, s _ _ h.rl, s _ _ h.kl, h.ps.same s⟩
/-- what stands between two turns of _law_one -/
structure One (C : Addr) (p : Pl) (b : Int) (H : Hp) (t r k m g : Addr) (rs : List Int) (ts : List (Int × Int)) : Prop where
  tp : ∃ xs, TapeAt C H t r k rs xs ts
  ml : ∃ ys, H m = some (.lst ys) ∧ PairsAt H ys ts
  gl : H g = some (.lst (rs.map V.int))
  pool : Pool H p b
theorem One.same {C : Addr} {p : Pl} {b : Int} {H H' : Hp} {t r k m g : Addr} {rs : List Int} {ts : List (Int × Int)} (h : One C p b H t r k m g rs ts) (s : Same H H') : One C p b H' t r k m g rs ts :=
  ⟨let ⟨xs, e⟩ := h.tp; ⟨xs, e.same s⟩, let ⟨ys, e1, e2⟩ := h.ml; ⟨ys, s _ _ e1, e2.same s⟩, s _ _ h.gl, h.pool.same s⟩
theorem One.turn {C : Addr} {p : Pl} {b : Int} {H H' : Hp} {t r k m g : Addr} {rs : List Int} {ts : List (Int × Int)} (h : One C p b H t r k m g rs ts) (s : Turn p b H H') (n1 : r ≠ p.a) (n2 : k ≠ p.a) (n3 : m ≠ p.a) (n4 : g ≠ p.a) : One C p b H' t r k m g rs ts := by
  obtain ⟨zs, ez⟩ := h.pool.there
  obtain ⟨xs, ⟨dx, ho⟩, h1, h2, h3⟩ := h.tp
  obtain ⟨ys, e1, e2⟩ := h.ml
  exact ⟨⟨xs, ⟨dx, s.but _ _ (ne_of ho ez (by intro z; cases z)) ho⟩, s.but _ _ n1 h1, s.but _ _ n2 h2, h3.but ez s.but⟩, ⟨ys, s.but _ _ n3 e1, e2.but ez s.but⟩, s.but _ _ n4 h.gl, s.pool⟩
theorem prodN_snoc : ∀ (cs : List Int) (c : Int), prodN (cs ++ [c]) = prodN cs * c
  | [], c => by show c * 1 = 1 * c; omega
  | d :: cs, c => by
    show d * prodN (cs ++ [c]) = d * prodN cs * c
    rw [prodN_snoc cs c, Int.mul_assoc]
theorem digs_get : ∀ (cs : List Int) (k : Int) {j : Nat} {c : Int}, cs[j]? = some c → (digs cs k)[j]? = some (k / prodN (cs.drop (j + 1)) % c)
  | [], _, _, _, h => by cases h
  | c :: cs, k, 0, d, h => by cases h; rfl
  | c :: cs, k, j + 1, d, h => by
    have h2 : cs[j]? = some d := by simpa using h
    have := digs_get cs k h2
    show (digs cs k)[j]? = _
    rw [this]
    rfl
theorem tRes_digs {cs l : List Int} {k : Int} {z j : Nat} {c : Int} (h : digs cs k = l ++ List.replicate z 0) (hc : cs[j]? = some c) : tRes l j c = k / prodN (cs.drop (j + 1)) % c := by
  have e := digs_get cs k hc
  rw [h] at e
  unfold tRes
  split
  · rename_i hj
    rw [List.getElem?_append_left hj] at e
    rw [List.getD_eq_getElem?_getD, e]
    exact Int.emod_emod_of_dvd _ (Int.dvd_refl c)
  · rename_i hj
    rw [List.getElem?_append_right (by omega), List.getElem?_replicate] at e
    split at e
    · exact Option.some.inj e
    · cases e
theorem zip_len (cs : List Int) (k : Int) : ((digs cs k).zip cs).length = cs.length := by rw [List.length_zip, digs_len, Nat.min_self]
theorem zip_get {cs : List Int} {k : Int} {j : Nat} {c : Int} (hc : cs[j]? = some c) : ((digs cs k).zip cs)[j]? = some (k / prodN (cs.drop (j + 1)) % c, c) := by
  rw [List.getElem?_zip_eq_some]
  exact ⟨digs_get cs k hc, hc⟩
theorem tc (a : Int) (h : 0 ≤ a) : ∃ n : Nat, a = n := ⟨a.toNat, by omega⟩

end K60
local macro_rules | `(tactic| walk_at "go1") => `(tactic| first
  | with_reducible refine K60.go_F_Tape_results (by assumption) (by assumption) (by assumption) ?_
  | with_reducible refine K60.go_F_Tape_taken (by assumption) (by assumption) (by assumption) ?_)
namespace K60
open PySem PySem.Spec PyProof.Rows L2 Gx
section
variable {P : Program} {w : World} {K : PySem.W.Frag} {mg : Str → Option Value} {base : Heap} {A : Ad}
def sp_Ratio___init__ (C : Addr) : Sp := fun vs H Q _ => ∃ (p dx : Addr) (a b : Int), vs = [.ref p, .int a, .int b] ∧ H p = some (.ins C dx []) ∧ b ≠ 0 ∧ b.natAbs < 2 ^ 9000 ∧ ∀ H', (∀ c o, c ≠ p → H c = some o → H' c = some o) → H' p = some (.ins C dx (rf (rN a b) (rD a b))) → Q .non H'
theorem G_Ratio___init__ (T : Txt P K mg A) : FnOk P w K mg base CX0 2 A.f_Ratio___init__ A.d_Ratio___init__ ["self", "num", "den"] (sp_Ratio___init__ A.c_Ratio) := by
  refine (T.F_Ratio___init__.ok (k := 1) sc_Ratio___init__ (fun vs H Q E h => ?_) (fun cdv Ar outer s H vs Q E hr h => ?_))
  · obtain ⟨p, dx, a, b, rfl, _⟩ := h
    rfl
  · obtain ⟨p, dx, a, b, rfl, hp, hb, hz, q⟩ := h
    have cl := T.cl_Ratio
    have n1 := T.na_Ratio_num
    have n2 := T.na_Ratio_den
    refine ⟨_, (pss_cons (ps_if (pt_cmpR op_eq (pv 2) pe_int (nomark _))
        (pss_one ps_never)
        pss_nil)
      (pss_cons (ps_set (i := 3) sc_Ratio___init__.nd rfl (Or.inl rfl) (pe_callBfun cr_gcd rfl T.g_gcd (pa_cons (pv 1) (pa_cons (pv 2) pa_nil))))
      (Evl.pss_cut (ps_if (pt_cmpR op_lt (pv 2) pe_int (nomark _))
        (pss_one (ps_set (i := 3) sc_Ratio___init__.nd rfl (Or.inl rfl) (pe_un un_neg (pv 3))))
        pss_nil)
      (pss_cons (ps_fld (pv 0) (pe_op op_fdivX (pv 1) (pv 3)) rfl)
      (pss_one (ps_fld (pv 0) (pe_op op_fdivX (pv 2) (pv 3)) rfl)))))), ?_⟩
    try dsimp only [cxOf, Cx.nox, Cx.wish]
    walk_at "go"
    rw [decide_eq_false hb]
    walk_at "go"
    refine go_gcd ?_
    walk_at "go"
    have hg : ((Nat.gcd a.natAbs b.natAbs : Nat) : Int) = (Int.gcd a b : Int) := rfl
    rw [hg]
    have hgp := gcd_pos (a := a) hb
    have hgl : (Int.gcd a b : Int).natAbs ≤ b.natAbs := by
      rw [Int.natAbs_natCast]
      exact Nat.le_of_dvd (by omega) (Nat.gcd_dvd_right a.natAbs b.natAbs)
    refine go_cut (fun σ' H' => ∃ g : Int, σ' = [some (.ref p), some (.int a), some (.int b), some (.int g)] ∧ H' = H ∧ g = if b < 0 then -(Int.gcd a b : Int) else (Int.gcd a b : Int)) ?_ ?_
    · walk_at "go"
      walk_at "br"
      · intro h
        walk_at "go"
        exact ⟨_, rfl, rfl, by rw [if_pos h]⟩
      · intro h
        walk_at "go"
        exact ⟨_, rfl, rfl, by rw [if_neg h]⟩
    rintro σ' H' ⟨g, rfl, rfl, eg⟩
    obtain ⟨f1, f2, f3⟩ := rN_fdiv (a := a) hb eg
    have hgz : g.natAbs < 2 ^ 9000 := by
      have : g.natAbs = (Int.gcd a b : Int).natAbs := by rw [eg]; split <;> simp
      rw [this]
      exact Nat.lt_of_le_of_lt hgl hz
    walk_at "go"
    refine go_rI (divX f3 hgz (by decide) (by decide)) ?_
    walk_at "go"
    refine go_sfldV hp cl n1 (by show 0 < 1000; decide) ?_
    walk_at "go"
    refine go_rI (divX f3 hgz (by decide) (by decide)) ?_
    walk_at "go"
    refine go_sfldV (by exact upd_same) cl n2 (by show 1 < 1000; decide) ?_
    rw [f1, f2, rf_put, upd_upd]
    exact q _ (fun c o n e => by rw [upd_ne n]; exact e) upd_same
end
end K60

namespace K60
open PySem PySem.Spec PyProof.Rows L2 Gx
section
variable {P : Program} {w : World} {K : PySem.W.Frag} {mg : Str → Option Value} {base : Heap} {A : Ad}
def sp_Tape___init__ (K : PySem.W.Frag) (C : Addr) : Sp := fun vs H Q _ => ∃ (p dx a : Addr) (rs : List Int), vs = [.ref p, .ref a] ∧ H p = some (.ins C dx []) ∧ SqL K H a (rs.map V.int) ∧ ∀ H' r k, (∀ c o, c ≠ p → H c = some o → H' c = some o) → H r = none → H k = none → r ≠ k → TapeAt C H' p r k rs [] [] → Q .non H'
theorem G_Tape___init__ (T : Txt P K mg A) : FnOk P w K mg base CX0 1 A.f_Tape___init__ A.d_Tape___init__ ["self", "results"] (sp_Tape___init__ K A.c_Tape) := by
  refine (T.F_Tape___init__.ok (k := 0) sc_Tape___init__ (fun vs H Q E h => ?_) (fun cdv Ar outer s H vs Q E hr h => ?_))
  · obtain ⟨p, dx, a, rs, rfl, _⟩ := h
    rfl
  · obtain ⟨p, dx, a, rs, rfl, hp, hs, q⟩ := h
    have cl := T.cl_Tape
    have n1 := T.na_Tape_results
    have n2 := T.na_Tape_taken
    refine ⟨_, (pss_cons (ps_fld (pv 0) (pe_callTy k_list_of (by rfl) T.n_list (by decide +kernel) (pa_cons (pv 1) pa_nil)) rfl)
      (pss_one (ps_fld (pv 0) (pe_lst pa_nil) rfl))), ?_⟩
    try dsimp only [cxOf, Cx.nox, Cx.wish]
    walk_at "go"
    refine go_listOfL hs fun r hr => ?_
    walk_at "go"
    have nr : r ≠ p := (ne_of_none hp hr).symm
    refine go_sfldV (by rw [upd_ne nr.symm]; exact hp) cl n1 (by show 0 < 1000; decide) ?_
    walk_at "go"
    refine ⟨by show 0 ≤ sizeLine; decide, fun k hk => ?_⟩
    walk_at "go"
    have hk0 : k ≠ p ∧ k ≠ r ∧ H k = none := by
      have h1 : k ≠ p := fun e => by rw [e, upd_same] at hk; cases hk
      rw [upd_ne h1] at hk
      have h2 : k ≠ r := fun e => by rw [e, upd_same] at hk; cases hk
      rw [upd_ne h2] at hk
      exact ⟨h1, h2, hk⟩
    obtain ⟨kp, kr, hk1⟩ := hk0
    refine go_sfldV (dx := dx) (fs := putF "results" (.ref r) []) (by rw [upd_ne kp.symm, upd_same]) cl n2 (by show 1 < 1000; decide) ?_
    rw [F_Tape_made]
    refine q _ r k (fun c o n e => ?_) hr hk1 kr.symm ⟨⟨dx, upd_same⟩, ?_, ?_, .nil⟩
    · rw [upd_ne n, upd_ne (ne_of_none e hk1), upd_ne n, upd_ne (ne_of_none e hr)]
      exact e
    · rw [upd_ne nr, upd_ne kr.symm, upd_ne nr, upd_same]
    · rw [upd_ne kp, upd_same]
end
end K60

namespace K60
open PySem PySem.Spec PyProof.Rows L2 Gx
section
variable {P : Program} {w : World} {K : PySem.W.Frag} {mg : Str → Option Value} {base : Heap} {A : Ad}
def sp_Tape_take (C : Addr) : Sp := fun vs H Q _ => ∃ (t r k : Addr) (rs : List Int) (xs : List V) (ts : List (Int × Int)) (c : Int), vs = [.ref t, .int c] ∧ TapeAt C H t r k rs xs ts ∧ r ≠ k ∧ 1 ≤ c ∧ ts.length ≤ 1000 ∧ ∀ H' p, H p = none → But k H H' → TapeAt C H' t r k rs (xs ++ [.ref p]) (ts ++ [(tRes rs ts.length c, c)]) → Q (.int (tRes rs ts.length c)) H'
theorem G_Tape_take (T : Txt P K mg A) : FnOk P w K mg base CX0 1 A.f_Tape_take A.d_Tape_take ["self", "count"] (sp_Tape_take A.c_Tape) := by
  refine (T.F_Tape_take.ok (k := 0) sc_Tape_take (fun vs H Q E h => ?_) (fun cdv Ar outer s H vs Q E hr h => ?_))
  · obtain ⟨t, r, k, rs, xs, ts, c, rfl, _⟩ := h
    rfl
  · obtain ⟨t, r, k, rs, xs, ts, c, rfl, hT, hrk, hc, hl, q⟩ := h
    obtain ⟨⟨dx, ho⟩, hr, hk, hp⟩ := id hT
    have hxl := hp.1
    have cl := T.cl_Tape
    have n1 := T.na_Tape_results
    have n2 := T.na_Tape_taken
    refine ⟨_, (pss_cons (ps_set (i := 2) sc_Tape_take.nd rfl (Or.inl rfl) pe_int)
      (Evl.pss_cut (ps_if (pt_cmpR op_lt (pe_callB k_len (by rfl) T.n_len (by decide +kernel) (pa_cons (pe_fld (pv 0) rfl) pa_nil)) (pe_callB k_len (by rfl) T.n_len (by decide +kernel) (pa_cons (pe_fld (pv 0) rfl) pa_nil)) (nomark _))
        (pss_one (ps_set (i := 2) sc_Tape_take.nd rfl (Or.inl rfl) (pe_op op_mod (pe_ix ix_list (pe_fld (pv 0) rfl) (pe_callB k_len (by rfl) T.n_len (by decide +kernel) (pa_cons (pe_fld (pv 0) rfl) pa_nil)) (fun _ _ => rfl)) (pv 1))))
        pss_nil)
      (pss_cons (ps_expr (pe_bm PySem.F.plainAttrs_list PySem.F.slot_list_append PySem.F.type_list_append mt_append (pe_fld (pv 0) rfl) (pa_cons (pe_tup (pa_cons (pv 2) (pa_cons (pv 1) pa_nil))) pa_nil)))
      (pss_one (ps_ret (pv 2)))))), ?_⟩
    try dsimp only [cxOf, Cx.nox, Cx.wish]
    walk_at "go"
    refine go_cut (fun σ' H' => σ' = [some (.ref t), some (.int c), some (.int (tRes rs ts.length c))] ∧ H' = H) ?_ ?_
    · walk_at "go"
      refine go_lenL (.of hk) ?_
      walk_at "go"
      refine go_lenL (.of hr) ?_
      rw [List.length_map]
      walk_at "go"
      walk_at "br"
      · intro h
        walk_at "go"
        refine go_lenL (.of hk) ?_
        walk_at "go"
        refine go_ixL (.of hr) (at_int (by omega) h) ?_
        walk_at "go"
        refine ⟨?_, rfl⟩
        unfold tRes
        rw [if_pos (by omega), ← hxl, Int.toNat_natCast]
        rfl
      · intro h
        walk_at "go"
        refine ⟨?_, rfl⟩
        unfold tRes
        rw [if_neg (by omega)]
        rfl
    rintro σ' H' ⟨rfl, rfl⟩
    walk_at "go"
    refine ⟨.inl ⟨rfl, _, .inl (.inl hk)⟩, ?_⟩
    walk_at "go"
    refine ⟨by show 2 ≤ sizeLine; decide, fun p np => ?_⟩
    walk_at "go"
    have nkp : k ≠ p := ne_of_none hk np
    refine go_append (by rw [upd_ne nkp]; exact hk) (szlt (by omega)) ?_
    walk_at "go"
    have hk1 : upd H' p (.tup [.int (tRes rs ts.length c), .int c]) k = some (.lst xs) := by rw [upd_ne nkp]; exact hk
    refine q _ p np (fun b o n e => by rw [upd_ne n, upd_ne (ne_of_none e np)]; exact e) ⟨⟨dx, ?_⟩, ?_, upd_same, ?_⟩
    · rw [upd_ne (ne_of ho hk (by intro z; cases z)), upd_ne (ne_of_none ho np)]
      exact ho
    · rw [upd_ne hrk, upd_ne (ne_of_none hr np)]
      exact hr
    · exact ((hp.same (same_new np)).lst hk1).snoc (by rw [upd_ne nkp.symm, upd_same])
end
end K60

namespace K60
open PySem PySem.Spec PyProof.Rows L2 Gx
section
variable {P : Program} {w : World} {K : PySem.W.Frag} {mg : Str → Option Value} {base : Heap} {A : Ad}
def sp_Tape_chance (K : PySem.W.Frag) (C R : Addr) : Sp := fun vs H Q _ => ∃ (t r k : Addr) (rs : List Int) (xs : List V) (ts : List (Int × Int)), vs = [.ref t] ∧ TapeAt C H t r k rs xs ts ∧ ts.length ≤ 12 ∧ (∀ t ∈ ts, 1 ≤ t.2 ∧ t.2 ≤ 16) ∧ ∀ z H', Same H H' → RatAt R H' z 1 (prodC ts) → Q (.ref z) H'
theorem G_Tape_chance (T : Txt P K mg A) : FnOk P w K mg base CX0 4 A.f_Tape_chance A.d_Tape_chance ["self"] (sp_Tape_chance K A.c_Tape A.c_Ratio) := by
  refine (T.F_Tape_chance.ok (k := 3) sc_Tape_chance (fun vs H Q E h => ?_) (fun cdv Ar outer s H vs Q E hr h => ?_))
  · obtain ⟨t, r, k, rs, xs, ts, rfl, _⟩ := h
    rfl
  · obtain ⟨t, r, k, rs, xs, ts, rfl, hT, hl, hb, q⟩ := h
    obtain ⟨⟨dx, ho⟩, hrl, hk, hp⟩ := id hT
    have hxl := hp.1
    have cl := T.cl_Tape
    have n1 := T.na_Tape_results
    have n2 := T.na_Tape_taken
    refine ⟨_, (pss_cons (ps_set (i := 1) sc_Tape_chance.nd rfl (Or.inl rfl) pe_int)
      (pss_cons (ps_for PassesOwn.never rfl (pi_list (pe_fld (pv 0) rfl)) (pg_tup rfl (pgs_cons (pg_name (i := 2) sc_Tape_chance.nd rfl (Or.inl rfl)) (pgs_cons (pg_name (i := 3) sc_Tape_chance.nd rfl (Or.inl rfl)) pgs_nil)))
        (pss_one (ps_set (i := 1) sc_Tape_chance.nd rfl (Or.inl rfl) (pe_op op_mul (pv 1) (pv 3)))))
      (pss_one (ps_ret (pe_make T.mk_Ratio (G_Ratio___init__ T) (hr.mono (by decide)) rfl T.m_Ratio T.b_Ratio___init___0.choose_spec.2 T.b_Ratio___init___0.choose_spec.1 pass0 (pa_cons pe_int (pa_cons (pv 1) pa_nil))))))), ?_⟩
    try dsimp only [cxOf, Cx.nox, Cx.wish]
    have bound : ∀ i, i ≤ ts.length → 1 ≤ prodC (ts.take i) ∧ prodC (ts.take i) < 2 ^ 60 := fun i hi => by
      obtain ⟨h1, h2⟩ := prodC_le (ts.take i) fun x hx => hb x (List.mem_of_mem_take hx)
      have h3 : (ts.take i).length ≤ 12 := by rw [List.length_take]; omega
      have h4 : (16 : Int) ^ (ts.take i).length ≤ 16 ^ 12 := by
        have := Nat.pow_le_pow_right (n := 16) (by decide) h3
        exact_mod_cast this
      refine ⟨h1, ?_⟩
      have h5 : (16 : Int) ^ 12 < 2 ^ 60 := by decide
      omega
    walk_at "go"
    refine foL xs (fun i σ' H' => ∃ v w, σ' = [some (.ref t), some (.int (prodC (ts.take i))), v, w] ∧ H' = H) ⟨_, _, rfl, rfl⟩ ?_ ?_ ?_
    · rintro i σ' H' _ ⟨v, w, rfl, rfl⟩
      exact .of hk
    · rintro i x σ' H' hx ⟨v, w, rfl, rfl⟩
      have hi := (List.getElem?_eq_some_iff.mp hx).1
      have ht : ts[i]? = some ts[i] := List.getElem?_eq_getElem (by omega)
      obtain ⟨p, e1, e2⟩ := hp.get ht
      rw [hx] at e1
      cases e1
      obtain ⟨b1, b2⟩ := bound i (by omega)
      refine go_gtup (.of e2) rfl ?_
      walk_at "go"
      refine ⟨some (.int (ts[i]).1), some (.int (ts[i]).2), ?_, rfl⟩
      rw [prodC_take ht]
      rfl
    rintro σ' H' ⟨v, w, rfl, rfl⟩
    rw [hxl, List.take_length]
    obtain ⟨b1, b2⟩ := bound ts.length (Nat.le_refl _)
    rw [List.take_length] at b1 b2
    walk_at "go"
    intro z dz hz hdz hne
    refine ⟨z, dz, _, _, rfl, upd_same, by omega, ?_, fun H1 s e => ⟨rfl, q z H1 (same_made hz hdz s) ⟨dz, ?_⟩⟩⟩
    · exact p_mono (show (prodC ts).natAbs < 2 ^ 60 by omega) (by decide)
    · obtain ⟨e1, e2⟩ := r_self (n := 1) (d := prodC ts) (by omega) (by simp)
      rw [e, e1, e2]
end
end K60

namespace K60
open PySem PySem.Spec PyProof.Rows L2 Gx
section
variable {P : Program} {w : World} {K : PySem.W.Frag} {mg : Str → Option Value} {base : Heap} {A : Ad}
def sp_Tape_following (K : PySem.W.Frag) (C : Addr) : Sp := fun vs H Q _ => ∃ (t r k : Addr) (rs : List Int) (xs : List V) (ts : List (Int × Int)), vs = [.ref t] ∧ TapeAt C H t r k rs xs ts ∧ ts.length ≤ 1000 ∧ (foll ts ts.length = none → Q .non H) ∧ (∀ l, foll ts ts.length = some l → ∀ p H', Same H H' → H p = none → H' p = some (.lst (l.map V.int)) → Q (.ref p) H')
theorem G_Tape_following (T : Txt P K mg A) : FnOk P w K mg base CX0 1 A.f_Tape_following A.d_Tape_following ["self"] (sp_Tape_following K A.c_Tape) := by
  refine (T.F_Tape_following.ok (k := 0) sc_Tape_following (fun vs H Q E h => ?_) (fun cdv Ar outer s H vs Q E hr h => ?_))
  · obtain ⟨t, r, k, rs, xs, ts, rfl, _⟩ := h
    rfl
  · obtain ⟨t, r, k, rs, xs, ts, rfl, hT, hl, q0, q1⟩ := h
    obtain ⟨⟨dx, ho⟩, hr, hk, hp⟩ := id hT
    have hxl := hp.1
    have cl := T.cl_Tape
    have n1 := T.na_Tape_results
    have n2 := T.na_Tape_taken
    refine ⟨_, (pss_cons (ps_for PassesOwn.never rfl (pi_range3 rfl T.n_range (pa_cons (pe_op op_sub (pe_callB k_len (by rfl) T.n_len (by decide +kernel) (pa_cons (pe_fld (pv 0) rfl) pa_nil)) pe_int) (pa_cons (pe_un un_neg pe_int) (pa_cons (pe_un un_neg pe_int) pa_nil)))) (pg_name (i := 1) sc_Tape_following.nd rfl (Or.inl rfl))
        (pss_cons (ps_asg (pe_ix ix_list (pe_fld (pv 0) rfl) (pv 1) (fun _ _ => rfl)) (pg_tup rfl (pgs_cons (pg_name (i := 2) sc_Tape_following.nd rfl (Or.inl rfl)) (pgs_cons (pg_name (i := 3) sc_Tape_following.nd rfl (Or.inl rfl)) pgs_nil))))
      (pss_one (ps_if (pt_cmpR op_lt (pe_op op_add (pv 2) pe_int) (pv 3) (nomark _))
        (pss_one (ps_ret (pe_op op_cat (pe_lc (own := [("row", 4)]) (g := gName 4) (tt := tYes) rfl sc_Tape_following.nd (pi_list (pe_slice sl_list (pe_fld (pv 0) rfl) po_none (po_some (pv 1)))) (blkOk_by (N := ["self", "at", "result", "count", "row"]) (sc := defScope s_Tape_following) (by decide +kernel)) (fun _ _ _ _ _ => (pg_name (i := 4) sc_Tape_following.nd rfl (Or.inl rfl))) (fun _ _ _ _ _ => by exact pts_nil) (fun _ _ _ _ _ => by exact (pe_ix (ix_tupK (K := K) rfl) (pv 4) pe_int (fun _ _ => rfl)))) (pe_lst (pa_cons (pe_op op_add (pv 2) pe_int) pa_nil)))))
        pss_nil))))
      (pss_one (ps_ret pe_non))), ?_⟩
    try dsimp only [cxOf, Cx.nox, Cx.wish]
    walk_at "go"
    refine go_lenL (.of hk) ?_
    walk_at "go"
    rw [hxl]

    refine foRdn (fun i σ' H' => ∃ v w u x, σ' = [some (.ref t), v, w, u, x] ∧ H' = H ∧ foll ts ts.length = foll ts (ts.length - i)) (by omega) ⟨_, _, _, _, rfl, rfl, by rw [Nat.sub_zero]⟩ ?_ ?_
    · rintro i σ' H' hi ⟨v, w, u, x, rfl, rfl, hf⟩
      have hlt : ts.length - 1 - i < ts.length := by omega
      have ht : ts[ts.length - 1 - i]? = some ts[ts.length - 1 - i] := List.getElem?_eq_getElem hlt
      generalize ts[ts.length - 1 - i] = tt at ht
      obtain ⟨p, e1, e2⟩ := hp.get ht
      have hsub : ts.length - i = (ts.length - 1 - i) + 1 := by omega

      walk_at "go"
      refine go_ixL (.of hk) (at_nat e1) ?_
      refine go_gtup (.of e2) rfl ?_
      walk_at "go"
      walk_at "br"
      · intro h
        walk_at "go"
        refine go_slL (.of hk) fun p1 np1 => ?_
        rw [cut_to]
        have hp1 : PairsAt (upd H' p1 (.lst (xs.take (ts.length - 1 - i)))) xs ts := hp.same (same_new np1)
        refine lcL (xs.take (ts.length - 1 - i)) (fun k y => ∃ t : Int × Int, (ts.take (ts.length - 1 - i))[k]? = some t ∧ y = .int t.1) (.of upd_same) (by rw [List.length_take]; omega) (fun _ => rfl) ?_ ?_
        · intro j x H2 hx s2 R hR
          have hj := (List.getElem?_eq_some_iff.mp hx).1
          rw [List.length_take] at hj
          rw [List.getElem?_take_of_lt (by omega)] at hx
          have htj : ts[j]? = some ts[j] := List.getElem?_eq_getElem (by omega)
          obtain ⟨p2, f1, f2⟩ := hp1.get htj
          rw [hx] at f1
          cases f1
          walk_at "go"
          refine go_ixT (.inl (.inl (s2 _ _ f2))) at_0 ?_
          exact hR _ _ (Same.refl _) ⟨ts[j], by rw [List.getElem?_take_of_lt (by omega)]; exact htj, rfl⟩
        intro D ys H2 hD s2 eD hyl hP
        have ey : ys = ((ts.take (ts.length - 1 - i)).map (·.1)).map V.int := by
          refine List.ext_getElem? fun k => ?_
          cases e : ys[k]? with
          | none =>
            have := List.getElem?_eq_none_iff.mp e
            rw [List.getElem?_eq_none]
            simp at hyl ⊢
            omega
          | some y =>
            obtain ⟨t, er, rfl⟩ := hP k y e
            rw [List.getElem?_map, List.getElem?_map, er]
            rfl
        subst ey
        walk_at "go"
        refine ⟨by show 1 ≤ sizeLine; decide, fun p3 np3 => ?_⟩
        walk_at "go"
        have eD3 : upd H2 p3 (.lst [.int (tt.1 + 1)]) D = some (.lst (((ts.take (ts.length - 1 - i)).map (·.1)).map V.int)) := by rw [upd_ne (ne_of_none eD np3)]; exact eD
        refine go_cat eD3 upd_same (sz (by simp; omega)) fun p4 np4 => ?_
        walk_at "go"
        refine q1 _ (by rw [hf, hsub]; exact foll_yes ht h) p4 _ ((((same_new np1).trans s2).trans (same_new np3)).trans (same_new np4)) ((((same_new np1).trans s2).trans (same_new np3)).free np4) ?_
        rw [upd_same]
        simp
      · intro h
        walk_at "go"
        exact ⟨_, _, _, _, rfl, rfl, by rw [hf, hsub, foll_no ht h]; congr 1; omega⟩
    · rintro σ' H' ⟨v, w, u, x, rfl, rfl, hf⟩
      walk_at "go"
      rw [Nat.sub_self] at hf
      exact q0 hf
end
end K60

namespace K60
open PySem PySem.Spec PyProof.Rows L2 Gx
section
variable {P : Program} {w : World} {K : PySem.W.Frag} {mg : Str → Option Value} {base : Heap} {A : Ad}
def sp__law_pool (K : PySem.W.Frag) : Sp := fun vs H Q _ => ∃ (a : Addr) (ns : List Int) (b : Int), vs = [.ref a, .int b] ∧ SqL K H a (ns.map V.int) ∧ ns.length ≤ 100000 ∧ ∀ (p : Pl) H', p.ns = ns → H p.a = none → H p.l = none → Same H H' → Pool H' p b → Q (.ref p.a) H'
theorem G__law_pool (T : Txt P K mg A) : FnOk P w K mg base CX0 1 A.f__law_pool A.d__law_pool ["_law_script", "_law_budget"] (sp__law_pool K) := by
  refine (T.F__law_pool.ok (k := 0) sc__law_pool (fun vs H Q E h => ?_) (fun cdv Ar outer s H vs Q E hr h => ?_))
  · obtain ⟨a, ns, b, rfl, _⟩ := h
    rfl
  · obtain ⟨a, ns, b, rfl, hs, hl, q⟩ := h
    refine ⟨_, (pss_one (ps_ret (pe_lst (pa_cons (pe_callTy k_list_of (by rfl) T.n_list (by decide +kernel) (pa_cons (pv 0) pa_nil)) (pa_cons pe_int (pa_cons pe_int (pa_cons pe_int (pa_cons pe_int (pa_cons (pv 1) pa_nil))))))))), ?_⟩
    try dsimp only [cxOf, Cx.nox, Cx.wish]
    walk_at "go"
    refine go_listOfL hs fun l hl => ?_
    walk_at "go"
    refine ⟨by show 6 ≤ sizeLine; decide, fun p hp => ?_⟩
    have n : l ≠ p := fun e => by rw [e, upd_same] at hp; cases hp
    exact q ⟨p, l, ns⟩ _ rfl (by rw [upd_ne n.symm] at hp; exact hp) hl ((same_new hl).trans (same_new hp)) ⟨⟨0, 0, 1, 0, upd_same, by decide, by decide, by decide⟩, by show upd _ p _ l = _; rw [upd_ne n, upd_same], n⟩
end
end K60

namespace K60
open PySem PySem.Spec PyProof.Rows L2 Gx
section
variable {P : Program} {w : World} {K : PySem.W.Frag} {mg : Str → Option Value} {base : Heap} {A : Ad}
def sp__law_draw (K : PySem.W.Frag) : Sp := fun vs H Q _ => ∃ (p : Pl) (b k : Int), vs = [.ref p.a, .int k] ∧ Pool H p b ∧ 0 < k ∧ k < 1073741824 ∧ ∀ v H', 0 ≤ v → v < k → Turn p b H H' → Q (.int v) H'
theorem G__law_draw (T : Txt P K mg A) : FnOk P w K mg base CX0 1 A.f__law_draw A.d__law_draw ["_law_pool_here", "_law_size"] (sp__law_draw K) := by
  refine (T.F__law_draw.ok (k := 0) sc__law_draw (fun vs H Q E h => ?_) (fun cdv Ar outer s H vs Q E hr h => ?_))
  · obtain ⟨p, b, k, rfl, _⟩ := h
    rfl
  · obtain ⟨p, b, k, rfl, hp, hk0, hk1, q⟩ := h
    obtain ⟨p1, p2, p3, p4, e, h1, h3, h3'⟩ := id hp.ex
    have hn := hp.ne
    have eli := hp.li
    refine ⟨_, (Evl.pss_cut (ps_if (PW.pt (pw_and (pt_cmpR op_le (pe_ix ix_list (pv 0) pe_int (fun _ _ => rfl)) pe_int (nomark _)) (pw_and (pt_cmpR op_le (pe_ix ix_list (pv 0) pe_int (fun _ _ => rfl)) pe_int (nomark _)) (pw_and1 (pt_cmpR op_lt (pe_ix ix_list (pv 0) pe_int (fun _ _ => rfl)) (pe_callB k_len (by rfl) T.n_len (by decide +kernel) (pa_cons (pe_ix ix_list (pv 0) pe_int (fun _ _ => rfl)) pa_nil)) (nomark _))))))
        (pss_cons (ps_set (i := 2) sc__law_draw.nd rfl (Or.inl rfl) (pe_ix ix_list (pe_ix ix_list (pv 0) pe_int (fun _ _ => rfl)) (pe_ix ix_list (pv 0) pe_int (fun _ _ => rfl)) (fun _ _ => rfl)))
      (pss_cons (ps_asg (pe_op op_add (pe_ix ix_list (pv 0) pe_int (fun _ _ => rfl)) pe_int) (pg_sub (pv 0) pe_int set_list))
      (pss_cons (ps_asg (pe_op op_mod (pe_callTy k_int1 (by rfl) T.n_int (by decide +kernel) (pa_cons (pe_op op_add (pe_op op_mul (pe_ix ix_list (pv 0) pe_int (fun _ _ => rfl)) pe_int) (pv 2)) pa_nil)) pe_int) (pg_sub (pv 0) pe_int set_list))
      (pss_cons (ps_asg pe_int (pg_sub (pv 0) pe_int set_list))
      (pss_one (ps_if (pt_cmpR op_ge (pv 2) (pe_op op_pow pe_int pe_int) (nomark _))
        (pss_one (ps_asg (pv 2) (pg_sub (pv 0) pe_int set_list)))
        pss_nil))))))
        pss_nil)
      (pss_cons (ps_if (pt_cmpR op_gt (pe_ix ix_list (pv 0) pe_int (fun _ _ => rfl)) pe_int (nomark _))
        (pss_cons (ps_set (i := 3) sc__law_draw.nd rfl (Or.inl rfl) (pe_op op_mod (pe_callTy k_int1 (by rfl) T.n_int (by decide +kernel) (pa_cons (pe_ix ix_list (pv 0) pe_int (fun _ _ => rfl)) pa_nil)) (pv 1)))
      (pss_cons (ps_asg (pe_op op_fdiv (pe_ix ix_list (pv 0) pe_int (fun _ _ => rfl)) (pv 1)) (pg_sub (pv 0) pe_int set_list))
      (pss_cons (ps_asg pe_int (pg_sub (pv 0) pe_int set_list))
      (pss_one (ps_ret (pv 3))))))
        pss_nil)
      (pss_cons (ps_asg (pe_op op_sub (pe_ix ix_list (pv 0) pe_int (fun _ _ => rfl)) pe_int) (pg_sub (pv 0) pe_int set_list))
      (pss_cons (ps_asg (pe_op op_mod (pe_callTy k_int1 (by rfl) T.n_int (by decide +kernel) (pa_cons (pe_op op_add (pe_op op_mul (pe_ix ix_list (pv 0) pe_int (fun _ _ => rfl)) pe_int) pe_int) pa_nil)) pe_int) (pg_sub (pv 0) pe_int set_list))
      (pss_one (ps_ret (pe_op op_mod (pe_op op_mod (pe_callTy k_int1 (by rfl) T.n_int (by decide +kernel) (pa_cons (pe_op op_add (pe_op op_mul (pe_ix ix_list (pv 0) pe_int (fun _ _ => rfl)) pe_int) pe_int) pa_nil)) pe_int) (pv 1)))))))), ?_⟩
    try dsimp only [cxOf, Cx.nox, Cx.wish]
    walk_at "go"
    refine go_cut (fun σ' H' => ∃ (x : Option V) (p1 p2 p3 p4 : Int), σ' = [some (.ref p.a), some (.int k), x, none] ∧ H' p.a = some (.lst [.ref p.l, .int p1, .int p2, .int p3, .int p4, .int b]) ∧ But p.a H H' ∧ 0 ≤ p1 ∧ 0 ≤ p3 ∧ p3 < 2147483647) ?_ ?_
    · walk_at "go"
      have skip : ∃ (x : Option V) (p1 p2 p3 p4 : Int), L2.start ["_law_pool_here", "_law_size", "_law_cell", "_law_value"] [.ref p.a, .int k] = [some (.ref p.a), some (.int k), x, none] ∧ H p.a = some (.lst [.ref p.l, .int p1, .int p2, .int p3, .int p4, .int b]) ∧ But p.a H H ∧ 0 ≤ p1 ∧ 0 ≤ p3 ∧ p3 < 2147483647 :=
        ⟨none, p1, p2, p3, p4, rfl, e, .refl _ _, h1, h3, h3'⟩
      walk_at "br"
      · intro _
        walk_at "go"
        walk_at "br"
        · intro _
          walk_at "go"
          refine go_lenL (.of eli) ?_
          walk_at "go"
          rw [List.length_map]
          walk_at "br"
          · intro h
            walk_at "go"
            refine go_ixL (.of eli) (at_int h1 h) ?_
            walk_at "go"
            generalize p.ns.getD p1.toNat 0 = c
            have hm := Int.emod_nonneg (p3 * 31 + c) (b := 2147483647) (by decide)
            have hm' := Int.emod_lt_of_pos (p3 * 31 + c) (b := 2147483647) (by decide)
            walk_at "br"
            · intro _
              walk_at "go"
              exact ⟨_, _, _, _, _, rfl, upd_same, (But.refl _ _).upd, by omega, hm, hm'⟩
            · intro _
              walk_at "go"
              exact ⟨_, _, _, _, _, rfl, upd_same, (But.refl _ _).upd, by omega, hm, hm'⟩
          · intro _
            walk_at "go"
            exact skip
        · intro _
          walk_at "go"
          exact skip
      · intro _
        walk_at "go"
        exact skip
    rintro σ2 H2 ⟨x, p1, p2, p3, p4, rfl, e2, b2, h1, h3, h3'⟩
    walk_at "go"
    have fin : ∀ (r1 r2 r3 r4 : Int), 0 ≤ r1 → 0 ≤ r3 → r3 < 2147483647 → Turn p b H (upd H2 p.a (.lst [.ref p.l, .int r1, .int r2, .int r3, .int r4, .int b])) := fun r1 r2 r3 r4 k1 k3 k4 =>
      ⟨⟨⟨r1, r2, r3, r4, upd_same, k1, k3, k4⟩, b2.upd _ _ hn hp.li, hn⟩, b2.upd⟩
    walk_at "br"
    · intro _
      walk_at "go"
      refine q _ _ (Int.emod_nonneg _ (by omega)) (Int.emod_lt_of_pos _ hk0) (fin p1 (p2 / k) p3 0 h1 h3 h3')
    · intro _
      walk_at "go"
      refine q _ _ (Int.emod_nonneg _ (by omega)) (Int.emod_lt_of_pos _ hk0) (fin p1 p2 _ (p4 - 1) h1 (Int.emod_nonneg _ (by decide)) (Int.emod_lt_of_pos _ (by decide)))
end
end K60

namespace K60
open PySem PySem.Spec PyProof.Rows L2 Gx
section
variable {P : Program} {w : World} {K : PySem.W.Frag} {mg : Str → Option Value} {base : Heap} {A : Ad}
def sp__law_number (K : PySem.W.Frag) : Sp := fun vs H Q _ => ∃ (p : Pl) (b : Int), vs = [.ref p.a] ∧ Pool H p b ∧ ∀ v H', 0 ≤ v → v < 65536 → Turn p b H H' → Q (.int v) H'
theorem G__law_number (T : Txt P K mg A) : FnOk P w K mg base CX0 2 A.f__law_number A.d__law_number ["_law_pool_here"] (sp__law_number K) := by
  refine (T.F__law_number.ok (k := 1) sc__law_number (fun vs H Q E h => ?_) (fun cdv Ar outer s H vs Q E hr h => ?_))
  · obtain ⟨p, b, rfl, _⟩ := h
    rfl
  · obtain ⟨p, b, rfl, hp, q⟩ := h
    refine ⟨_, (pss_cons (ps_if (pt_cmpR op_eq (pe_call (G__law_draw T) (hr.mono (by decide)) rfl T.m__law_draw T.F__law_draw.kp T.b__law_draw .nil pass0 (pa_cons (pv 0) (pa_cons pe_int pa_nil))) pe_int (nomark _))
        (pss_one (ps_ret (pe_call (G__law_draw T) (hr.mono (by decide)) rfl T.m__law_draw T.F__law_draw.kp T.b__law_draw .nil pass0 (pa_cons (pv 0) (pa_cons pe_int pa_nil)))))
        pss_nil)
      (pss_one (ps_ret (pe_call (G__law_draw T) (hr.mono (by decide)) rfl T.m__law_draw T.F__law_draw.kp T.b__law_draw .nil pass0 (pa_cons (pv 0) (pa_cons pe_int pa_nil)))))), ?_⟩
    try dsimp only [cxOf, Cx.nox, Cx.wish]
    walk_at "go"
    refine ⟨p, b, 3, rfl, hp, by decide, by decide, fun v H1 hv0 hv1 t1 => ?_⟩
    walk_at "go"
    walk_at "br"
    · intro _
      walk_at "go"
      exact ⟨p, b, 65536, rfl, t1.pool, by decide, by decide, fun v H2 h0 h1 t2 => q _ _ h0 h1 (t1.trans t2)⟩
    · intro _
      walk_at "go"
      exact ⟨p, b, 9, rfl, t1.pool, by decide, by decide, fun v H2 h0 h1 t2 => q _ _ h0 (by omega) (t1.trans t2)⟩
end
end K60

namespace K60
open PySem PySem.Spec PyProof.Rows L2 Gx
section
variable {P : Program} {w : World} {K : PySem.W.Frag} {mg : Str → Option Value} {base : Heap} {A : Ad}
def sp__law_same (K : PySem.W.Frag) : Nat → Sp
  | 0 => fun _ _ _ _ => False
  | n + 1 => fun vs H Q _ => ∃ (x y : V), vs = [x, y] ∧ Eqd K H n x y ∧ Q (.bl true) H
theorem R__law_same (T : Txt P K mg A) : ∀ n : Nat, FnOk P w K mg base CX0 (n + 0) A.f__law_same A.d__law_same ["_law_actual", "_law_due"] (sp__law_same K n)
  | 0 => ⟨fun vs H Q E h => False.elim h, fun _ _ _ _ _ _ _ _ _ _ _ _ _ h => False.elim h⟩
  | n + 1 => by
    have IH := R__law_same T n
    refine (T.F__law_same.ok (k := n + 0) sc__law_same (fun vs H Q E h => ?_) (fun cdv Ar outer s H vs Q E hr h => ?_))
    · obtain ⟨x, y, rfl, _⟩ := h
      rfl
    · obtain ⟨x, y, rfl, hxy, q⟩ := h
      refine ⟨_, (pss_cons (ps_if (PW.pt (pw_or (pt_val (pe_callB call_isi (by rfl) T.n_isinstance (by decide +kernel) (pa_cons (pv 1) (pa_cons (pe_bltn (v := .ty "tuple") (by rfl) T.n_tuple (by decide +kernel) rfl) pa_nil)))) (pw_or1 (pt_val (pe_callB call_isi (by rfl) T.n_isinstance (by decide +kernel) (pa_cons (pv 1) (pa_cons (pe_bltn (v := .ty "list") (by rfl) T.n_list (by decide +kernel) rfl) pa_nil)))))))
        (pss_cons (ps_if (PW.pt (pw_or (pt_cmpR op_ne (pe_callB call_isi (by rfl) T.n_isinstance (by decide +kernel) (pa_cons (pv 1) (pa_cons (pe_bltn (v := .ty "tuple") (by rfl) T.n_tuple (by decide +kernel) rfl) pa_nil))) (pe_callB call_isi (by rfl) T.n_isinstance (by decide +kernel) (pa_cons (pv 0) (pa_cons (pe_bltn (v := .ty "tuple") (by rfl) T.n_tuple (by decide +kernel) rfl) pa_nil))) (nomark _)) (pw_or1 (pt_cmpR op_ne (pe_callB call_isi (by rfl) T.n_isinstance (by decide +kernel) (pa_cons (pv 1) (pa_cons (pe_bltn (v := .ty "list") (by rfl) T.n_list (by decide +kernel) rfl) pa_nil))) (pe_callB call_isi (by rfl) T.n_isinstance (by decide +kernel) (pa_cons (pv 0) (pa_cons (pe_bltn (v := .ty "list") (by rfl) T.n_list (by decide +kernel) rfl) pa_nil))) (nomark _)))))
        (pss_one (ps_ret pe_bl))
        pss_nil)
      (pss_cons (ps_if (pt_cmpR op_ne (pe_callB k_len (by rfl) T.n_len (by decide +kernel) (pa_cons (pv 0) pa_nil)) (pe_callB k_len (by rfl) T.n_len (by decide +kernel) (pa_cons (pv 1) pa_nil)) (nomark _))
        (pss_one (ps_ret pe_bl))
        pss_nil)
      (pss_cons (ps_for PassesOwn.never rfl (pi_range1 rfl T.n_range (pa_cons (pe_callB k_len (by rfl) T.n_len (by decide +kernel) (pa_cons (pv 1) pa_nil)) pa_nil)) (pg_name (i := 2) sc__law_same.nd rfl (Or.inl rfl))
        (pss_one (ps_if (pt_not (pt_val (pe_call IH (hr.mono (by omega)) rfl T.m__law_same T.F__law_same.kp T.b__law_same .nil pass0 (pa_cons (pe_ix ix_seq (pv 0) (pv 2) (fun _ _ => rfl)) (pa_cons (pe_ix ix_seq (pv 1) (pv 2) (fun _ _ => rfl)) pa_nil)))))
        (pss_one (ps_ret pe_bl))
        pss_nil)))
      (pss_one (ps_ret pe_bl)))))
        pss_nil)
      (pss_cons (ps_if (PW.pt (pw_or (pt_cmpR o_isN (pv 1) pe_non (nomark _)) (pw_or1 (pt_val (pe_callB call_isi (by rfl) T.n_isinstance (by decide +kernel) (pa_cons (pv 1) (pa_cons (pe_bltn (v := .ty "bool") (by rfl) T.n_bool (by decide +kernel) rfl) pa_nil)))))))
        (pss_one (ps_ret (pe_and (pe_cmpR op_eq (pe_cmpR o_isN (pv 0) pe_non (nomark _)) (pe_cmpR o_isN (pv 1) pe_non (nomark _)) (nomark _)) (pe_and (pe_or (pe_cmpR o_isN (pv 1) pe_non (nomark _)) (pe_one (pe_callB call_isi (by rfl) T.n_isinstance (by decide +kernel) (pa_cons (pv 0) (pa_cons (pe_bltn (v := .ty "bool") (by rfl) T.n_bool (by decide +kernel) rfl) pa_nil))))) (pe_one (pe_cmpR op_eq (pv 0) (pv 1) (nomark _)))))))
        pss_nil)
      (pss_cons (ps_if (pt_val (pe_callB call_isi (by rfl) T.n_isinstance (by decide +kernel) (pa_cons (pv 1) (pa_cons (pe_bltn (v := .ty "int") (by rfl) T.n_int (by decide +kernel) rfl) pa_nil))))
        (pss_one (ps_ret (pe_and (pe_callB call_isi (by rfl) T.n_isinstance (by decide +kernel) (pa_cons (pv 0) (pa_cons (pe_bltn (v := .ty "int") (by rfl) T.n_int (by decide +kernel) rfl) pa_nil))) (pe_and (pe_not (pe_callB call_isi (by rfl) T.n_isinstance (by decide +kernel) (pa_cons (pv 0) (pa_cons (pe_bltn (v := .ty "bool") (by rfl) T.n_bool (by decide +kernel) rfl) pa_nil)))) (pe_one (pe_cmpR op_eq (pv 0) (pv 1) (nomark _)))))))
        pss_nil)
      (pss_one (ps_ret (pe_and (pe_callB call_isi (by rfl) T.n_isinstance (by decide +kernel) (pa_cons (pv 0) (pa_cons (pe_bltn (v := .ty "str") (by rfl) T.n_str (by decide +kernel) rfl) pa_nil))) (pe_one (pe_cmpR op_eq (pv 0) (pv 1) (nomark _))))))))), ?_⟩
      try dsimp only [cxOf, Cx.nox, Cx.wish]
      walk_at "go"
      cases hxy with
      | non => walk_at "go"; exact q
      | bl b => walk_at "go"; (rw [decide_eq_true rfl]; exact q)
      | int i => walk_at "go"; (rw [decide_eq_true rfl]; exact q)
      | str z => walk_at "go"; (rw [decide_eq_true rfl]; exact q)
      | @lst m a b xs ys h1 h2 hl hz hall =>
        walk_at "go"
        rw [decide_eq_true rfl]
        walk_at "go"
        rw [decide_eq_true rfl]
        walk_at "go"
        refine go_lenL h1 ?_
        walk_at "go"
        refine go_lenL h2 ?_
        walk_at "go"
        rw [decide_eq_true (by omega : (xs.length : Int) = ys.length)]
        walk_at "go"
        refine go_lenL h2 ?_
        walk_at "go"
        refine foR1 (fun i σ' H' => ∃ v, σ' = [some (.ref a), some (.ref b), v] ∧ H' = H) (by omega) ⟨_, rfl, rfl⟩ ?_ ?_
        · rintro i σ' H' hi ⟨v, rfl, rfl⟩
          walk_at "go"
          have hi2 : i < ys.length := by omega
          have hi1 : i < xs.length := by omega
          refine go_ixQL h1 (at_nat (List.getElem?_eq_getElem hi1)) ?_
          walk_at "go"
          refine go_ixQL h2 (at_nat (List.getElem?_eq_getElem hi2)) ?_
          walk_at "go"
          refine ⟨_, _, rfl, hall i _ _ (List.getElem?_eq_getElem hi1) (List.getElem?_eq_getElem hi2), ?_⟩
          walk_at "go"
          exact ⟨_, rfl, rfl⟩
        · rintro σ' H' ⟨v, rfl, rfl⟩
          walk_at "go"
          exact q
      | @tup m a b xs ys h1 h2 hl hz hall =>
        walk_at "go"
        rw [decide_eq_true rfl]
        walk_at "go"
        rw [decide_eq_true rfl]
        walk_at "go"
        refine go_lenT h1 ?_
        walk_at "go"
        refine go_lenT h2 ?_
        walk_at "go"
        rw [decide_eq_true (by omega : (xs.length : Int) = ys.length)]
        walk_at "go"
        refine go_lenT h2 ?_
        walk_at "go"
        refine foR1 (fun i σ' H' => ∃ v, σ' = [some (.ref a), some (.ref b), v] ∧ H' = H) (by omega) ⟨_, rfl, rfl⟩ ?_ ?_
        · rintro i σ' H' hi ⟨v, rfl, rfl⟩
          walk_at "go"
          have hi2 : i < ys.length := by omega
          have hi1 : i < xs.length := by omega
          refine go_ixQT h1 (at_nat (List.getElem?_eq_getElem hi1)) ?_
          walk_at "go"
          refine go_ixQT h2 (at_nat (List.getElem?_eq_getElem hi2)) ?_
          walk_at "go"
          refine ⟨_, _, rfl, hall i _ _ (List.getElem?_eq_getElem hi1) (List.getElem?_eq_getElem hi2), ?_⟩
          walk_at "go"
          exact ⟨_, rfl, rfl⟩
        · rintro σ' H' ⟨v, rfl, rfl⟩
          walk_at "go"
          exact q
end
end K60

namespace K60
open PySem PySem.Spec PyProof.Rows L2 Gx
section
variable {P : Program} {w : World} {K : PySem.W.Frag} {mg : Str → Option Value} {base : Heap} {A : Ad}
def sp__law_lowest (K : PySem.W.Frag) : Sp := fun vs H Q _ => ∃ (w : Int), vs = [.int 1, .int w] ∧ 1 ≤ w ∧ ∀ p H', Same H H' → H' p = some (.tup [.int 1, .int w]) → Q (.ref p) H'
theorem G__law_lowest (T : Txt P K mg A) : FnOk P w K mg base CX0 1 A.f__law_lowest A.d__law_lowest ["_law_num", "_law_den"] (sp__law_lowest K) := by
  refine (T.F__law_lowest.ok (k := 0) sc__law_lowest (fun vs H Q E h => ?_) (fun cdv Ar outer s H vs Q E hr h => ?_))
  · obtain ⟨w, rfl, _⟩ := h
    rfl
  · obtain ⟨w, rfl, hw, q⟩ := h
    refine ⟨_, (pss_cons (ps_set (i := 2) sc__law_lowest.nd rfl (Or.inl rfl) (pe_callB k_abs (by rfl) T.n_abs (by decide +kernel) (pa_cons (pv 0) pa_nil)))
      (pss_cons (ps_set (i := 3) sc__law_lowest.nd rfl (Or.inl rfl) (pv 1))
      (pss_cons (ps_for PassesOwn.never rfl (pi_range1 rfl T.n_range (pa_cons pe_int pa_nil)) (pg_name (i := 4) sc__law_lowest.nd rfl (Or.inl rfl))
        (pss_cons (ps_if (pt_cmpR op_eq (pv 3) pe_int (nomark _))
        (pss_one ps_break)
        pss_nil)
      (pss_cons (ps_set (i := 5) sc__law_lowest.nd rfl (Or.inl rfl) (pe_op op_mod (pe_callTy k_int1 (by rfl) T.n_int (by decide +kernel) (pa_cons (pv 2) pa_nil)) (pv 3)))
      (pss_cons (ps_set (i := 2) sc__law_lowest.nd rfl (Or.inl rfl) (pv 3))
      (pss_one (ps_set (i := 3) sc__law_lowest.nd rfl (Or.inl rfl) (pv 5)))))))
      (pss_one (ps_ret (pe_tup (pa_cons (pe_op op_fdiv (pv 0) (pv 2)) (pa_cons (pe_op op_fdiv (pv 1) (pv 2)) pa_nil)))))))), ?_⟩
    try dsimp only [cxOf, Cx.nox, Cx.wish]
    walk_at "go"
    refine foR1 (fun i σ' H' => ∃ (a b : Int) (u v : Option V), σ' = [some (.int 1), some (.int w), some (.int a), some (.int b), u, v] ∧ H' = H ∧ ((i = 0 ∧ a = 1 ∧ b = w) ∨ (i = 1 ∧ a = w ∧ b = 1) ∨ (0 < i ∧ a = 1 ∧ b = 0))) (by decide)
      ⟨_, _, _, _, rfl, rfl, .inl ⟨rfl, by decide, rfl⟩⟩ ?_ ?_
    · rintro i σ' H' hi ⟨a, b, u, v, rfl, rfl, h⟩
      walk_at "go"
      walk_at "br"
      · intro hb
        walk_at "go"
        have ha : a = 1 := by omega
        subst ha
        refine ⟨by show 2 ≤ sizeLine; decide, fun p np => ?_⟩
        refine q p _ (same_new np) ?_
        rw [upd_same, Int.ediv_one, Int.ediv_one]
      · intro hb
        walk_at "go"
        refine ⟨_, _, _, _, rfl, rfl, ?_⟩
        rcases h with ⟨rfl, rfl, rfl⟩ | ⟨rfl, rfl, rfl⟩ | ⟨h0, rfl, rfl⟩
        · by_cases h1 : b = 1
          · subst h1
            exact .inr (.inr ⟨by omega, rfl, by decide⟩)
          · exact .inr (.inl ⟨rfl, rfl, Int.emod_eq_of_lt (by decide) (by omega)⟩)
        · exact .inr (.inr ⟨by omega, rfl, Int.emod_one _⟩)
        · exact absurd rfl hb
    · rintro σ' H' ⟨a, b, u, v, rfl, rfl, h⟩
      have ha : a = 1 := by
        rcases h with ⟨h0, _⟩ | ⟨h0, _⟩ | ⟨_, h0, _⟩
        · cases h0
        · cases h0
        · exact h0
      subst ha
      walk_at "go"
      refine ⟨by show 2 ≤ sizeLine; decide, fun p np => ?_⟩
      refine q p _ (same_new np) ?_
      rw [upd_same, Int.ediv_one, Int.ediv_one]
end
end K60

namespace K60
open PySem PySem.Spec PyProof.Rows L2 Gx
section
variable {P : Program} {w : World} {K : PySem.W.Frag} {mg : Str → Option Value} {base : Heap} {A : Ad}
def sp__law_is_ratio (C : Addr) : Sp := fun vs H Q _ => ∃ (x dx : Addr) (w : Int), vs = [.ref x, .int 1, .int w] ∧ H x = some (.ins C dx (rf 1 w)) ∧ 1 ≤ w ∧ ∀ H', Same H H' → Q (.bl true) H'
theorem G__law_is_ratio (T : Txt P K mg A) : FnOk P w K mg base CX0 4 A.f__law_is_ratio A.d__law_is_ratio ["_law_actual", "_law_num", "_law_den"] (sp__law_is_ratio A.c_Ratio) := by
  refine (T.F__law_is_ratio.ok (k := 3) sc__law_is_ratio (fun vs H Q E h => ?_) (fun cdv Ar outer s H vs Q E hr h => ?_))
  · obtain ⟨x, dx, w, rfl, _⟩ := h
    rfl
  · obtain ⟨x, dx, w, rfl, hx, hw, q⟩ := h
    have cl := T.cl_Ratio
    have n1 := T.na_Ratio_num
    have n2 := T.na_Ratio_den
    refine ⟨_, (pss_cons (ps_set (i := 3) sc__law_is_ratio.nd rfl (Or.inl rfl) (pe_call (G__law_lowest T) (hr.mono (by decide)) rfl T.m__law_lowest T.F__law_lowest.kp T.b__law_lowest .nil pass0 (pa_cons (pv 1) (pa_cons (pv 2) pa_nil))))
      (pss_one (ps_ret (pe_and (pe_callB (C8.call_isC T.ic_Ratio) (by rfl) T.n_isinstance (by decide +kernel) (pa_cons (pv 0) (pa_cons (pe_glob (v := .ref A.c_Ratio) rfl T.m_Ratio rfl) pa_nil))) (pe_one (pe_call (R__law_same T 3) (hr.mono (by decide)) rfl T.m__law_same T.F__law_same.kp T.b__law_same .nil pass0 (pa_cons (pe_lst (pa_cons (pe_fld (pv 0) rfl) (pa_cons (pe_fld (pv 0) rfl) pa_nil))) (pa_cons (pe_callTy k_list_of (by rfl) T.n_list (by decide +kernel) (pa_cons (pv 3) pa_nil)) pa_nil)))))))), ?_⟩
    try dsimp only [cxOf, Cx.nox, Cx.wish]
    walk_at "go"
    refine ⟨w, rfl, hw, fun p H1 s1 e1 => ?_⟩
    have hx1 := s1 _ _ hx
    walk_at "go"
    refine ⟨x, dx, _, rfl, hx1, ?_⟩
    walk_at "go"
    refine ⟨by show 2 ≤ sizeLine; decide, fun l nl => ?_⟩
    walk_at "go"
    refine go_listOfT (.inl (.inl (same_new nl _ _ e1))) fun l2 nl2 => ?_
    walk_at "go"
    refine ⟨_, _, rfl, .lst (.of (same_new nl2 _ _ upd_same)) (.of upd_same) rfl (by show 2 ≤ 100000; decide) (fun i x y hx hy => ?_), ?_⟩
    · rw [hx] at hy
      cases hy
      match i, hx with
      | 0, hx => cases hx; exact .int _
      | 1, hx => cases hx; exact .int _
    exact q _ ((s1.trans (same_new nl)).trans (same_new nl2))
end
end K60

namespace K60
open PySem PySem.Spec PyProof.Rows L2 Gx
section
variable {P : Program} {w : World} {K : PySem.W.Frag} {mg : Str → Option Value} {base : Heap} {A : Ad}
def sp__law_following (K : PySem.W.Frag) : Sp := fun vs H Q _ => ∃ (m : Addr) (xs : List V) (ts : List (Int × Int)), vs = [.ref m] ∧ H m = some (.lst xs) ∧ PairsAt H xs ts ∧ ts.length ≤ 1000 ∧ (foll ts ts.length = none → Q .non H) ∧ (∀ l, foll ts ts.length = some l → ∀ p H', Same H H' → H p = none → H' p = some (.lst (l.map V.int)) → Q (.ref p) H')
theorem G__law_following (T : Txt P K mg A) : FnOk P w K mg base CX0 1 A.f__law_following A.d__law_following ["_law_taken"] (sp__law_following K) := by
  refine (T.F__law_following.ok (k := 0) sc__law_following (fun vs H Q E h => ?_) (fun cdv Ar outer s H vs Q E hr h => ?_))
  · obtain ⟨m, xs, ts, rfl, _⟩ := h
    rfl
  · obtain ⟨m, xs, ts, rfl, hk, hp, hl, q0, q1⟩ := h
    have hxl := hp.1
    refine ⟨_, (pss_cons (ps_for PassesOwn.never rfl (pi_range3 rfl T.n_range (pa_cons (pe_op op_sub (pe_callB k_len (by rfl) T.n_len (by decide +kernel) (pa_cons (pv 0) pa_nil)) pe_int) (pa_cons (pe_un un_neg pe_int) (pa_cons (pe_un un_neg pe_int) pa_nil)))) (pg_name (i := 1) sc__law_following.nd rfl (Or.inl rfl))
        (pss_one (ps_if (pt_cmpR op_lt (pe_op op_add (pe_ix ix_tup (pe_ix ix_list (pv 0) (pv 1) (fun _ _ => rfl)) pe_int (fun _ _ => rfl)) pe_int) (pe_ix ix_tup (pe_ix ix_list (pv 0) (pv 1) (fun _ _ => rfl)) pe_int (fun _ _ => rfl)) (nomark _))
        (pss_one (ps_ret (pe_op op_cat (pe_lc (own := [("_law_j", 2)]) (g := gName 2) (tt := tYes) rfl sc__law_following.nd (pi_range1 rfl T.n_range (pa_cons (pv 1) pa_nil)) (blkOk_by (N := ["_law_taken", "_law_k", "_law_j"]) (sc := defScope s__law_following) (by decide +kernel)) (fun _ _ _ _ _ => (pg_name (i := 2) sc__law_following.nd rfl (Or.inl rfl))) (fun _ _ _ _ _ => by exact pts_nil) (fun _ _ _ _ _ => by exact (pe_ix (ix_tupK (K := K) rfl) (pe_ix (ix_listK (K := K) rfl) (pv 0) (pv 2) (fun _ _ => rfl)) pe_int (fun _ _ => rfl)))) (pe_lst (pa_cons (pe_op op_add (pe_ix ix_tup (pe_ix ix_list (pv 0) (pv 1) (fun _ _ => rfl)) pe_int (fun _ _ => rfl)) pe_int) pa_nil)))))
        pss_nil)))
      (pss_one (ps_ret pe_non))), ?_⟩
    try dsimp only [cxOf, Cx.nox, Cx.wish]
    walk_at "go"
    refine go_lenL (.of hk) ?_
    walk_at "go"
    rw [hxl]
    refine foRdn (fun i σ' H' => ∃ v u, σ' = [some (.ref m), v, u] ∧ H' = H ∧ foll ts ts.length = foll ts (ts.length - i)) (by omega) ⟨_, _, rfl, rfl, by rw [Nat.sub_zero]⟩ ?_ ?_
    · rintro i σ' H' hi ⟨v, u, rfl, rfl, hf⟩
      have hlt : ts.length - 1 - i < ts.length := by omega
      have ht : ts[ts.length - 1 - i]? = some ts[ts.length - 1 - i] := List.getElem?_eq_getElem hlt
      generalize ts[ts.length - 1 - i] = tt at ht
      obtain ⟨p, e1, e2⟩ := hp.get ht
      have hsub : ts.length - i = (ts.length - 1 - i) + 1 := by omega
      walk_at "go"
      refine go_ixL (.of hk) (at_nat e1) ?_
      walk_at "go"
      refine go_ixL (.of hk) (at_nat e1) ?_
      walk_at "go"
      walk_at "br"
      · intro h
        walk_at "go"
        refine lcR1 (fun k y => ∃ t : Int × Int, ts[k]? = some t ∧ y = .int t.1) (by omega) (by omega) (fun _ => rfl) ?_ ?_
        · intro j H2 hj s2 R hR
          have htj : ts[j]? = some ts[j] := List.getElem?_eq_getElem (by omega)
          obtain ⟨p2, f1, f2⟩ := hp.get htj
          walk_at "go"
          refine go_ixL (.of (s2 _ _ hk)) (at_nat f1) ?_
          walk_at "go"
          refine go_ixT (.inl (.inl (s2 _ _ f2))) at_0 ?_
          exact hR _ _ (Same.refl _) ⟨ts[j], htj, rfl⟩
        intro D ys H2 hD s2 eD hyl hP
        have ey : ys = ((ts.take (ts.length - 1 - i)).map (·.1)).map V.int := by
          refine List.ext_getElem? fun k => ?_
          cases e : ys[k]? with
          | none =>
            have := List.getElem?_eq_none_iff.mp e
            rw [List.getElem?_eq_none]
            simp at hyl ⊢
            omega
          | some y =>
            obtain ⟨t, er, rfl⟩ := hP k y e
            have hk2 := (List.getElem?_eq_some_iff.mp e).1
            rw [List.getElem?_map, List.getElem?_map, List.getElem?_take_of_lt (by omega), er]
            rfl
        subst ey
        have e1' := s2 _ _ hk
        have e2' := s2 _ _ e2
        walk_at "go"
        refine go_ixL (.of e1') (at_nat e1) ?_
        walk_at "go"
        refine ⟨by show 1 ≤ sizeLine; decide, fun p3 np3 => ?_⟩
        walk_at "go"
        have eD3 : upd H2 p3 (.lst [.int (tt.1 + 1)]) D = some (.lst (((ts.take (ts.length - 1 - i)).map (·.1)).map V.int)) := by rw [upd_ne (ne_of_none eD np3)]; exact eD
        refine go_cat eD3 upd_same (sz (by simp; omega)) fun p4 np4 => ?_
        walk_at "go"
        refine q1 _ (by rw [hf, hsub]; exact foll_yes ht h) p4 _ ((s2.trans (same_new np3)).trans (same_new np4)) ((s2.trans (same_new np3)).free np4) ?_
        rw [upd_same]
        simp
      · intro h
        walk_at "go"
        exact ⟨_, _, rfl, rfl, by rw [hf, hsub, foll_no ht h]; congr 1; omega⟩
    · rintro σ' H' ⟨v, u, rfl, rfl, hf⟩
      walk_at "go"
      rw [Nat.sub_self] at hf
      exact q0 hf
end
end K60

namespace K60
open PySem PySem.Spec PyProof.Rows L2 Gx
section
variable {P : Program} {w : World} {K : PySem.W.Frag} {mg : Str → Option Value} {base : Heap} {A : Ad}
def sp__law_told (K : PySem.W.Frag) (C : Addr) : Sp := fun vs H Q _ => ∃ (t r k m : Addr) (rs : List Int) (xs ys : List V) (ts : List (Int × Int)), vs = [.ref t, .ref m] ∧ TapeAt C H t r k rs xs ts ∧ H m = some (.lst ys) ∧ PairsAt H ys ts ∧ ts.length ≤ 12 ∧ (∀ t ∈ ts, 1 ≤ t.2 ∧ t.2 ≤ 16) ∧ ∀ H', Same H H' → Q (.bl true) H'
theorem G__law_told (T : Txt P K mg A) : FnOk P w K mg base CX0 5 A.f__law_told A.d__law_told ["_law_tape", "_law_taken"] (sp__law_told K A.c_Tape) := by
  refine (T.F__law_told.ok (k := 4) sc__law_told (fun vs H Q E h => ?_) (fun cdv Ar outer s H vs Q E hr h => ?_))
  · obtain ⟨t, r, k, m, rs, xs, ys, ts, rfl, _⟩ := h
    rfl
  · obtain ⟨t, r, k, m, rs, xs, ys, ts, rfl, hT, hm, hpm, hl, hb, q⟩ := h
    obtain ⟨⟨dx, ho⟩, hrl, hk, hp⟩ := id hT
    have hyl := hpm.1
    have hxl := hp.1
    have cl := T.cl_Tape
    have n1 := T.na_Tape_results
    have n2 := T.na_Tape_taken
    refine ⟨_, (pss_cons (ps_set (i := 2) sc__law_told.nd rfl (Or.inl rfl) pe_int)
      (pss_cons (ps_for PassesOwn.never rfl (pi_list (pv 1)) (pg_name (i := 3) sc__law_told.nd rfl (Or.inl rfl))
        (pss_one (ps_set (i := 2) sc__law_told.nd rfl (Or.inl rfl) (pe_op op_mul (pv 2) (pe_ix ix_tup (pv 3) pe_int (fun _ _ => rfl))))))
      (pss_cons (ps_if (PW.pt (pw_or (pt_not (pt_val (pe_call (R__law_same T 3) (hr.mono (by decide)) rfl T.m__law_same T.F__law_same.kp T.b__law_same .nil pass0 (pa_cons (pe_fld (pv 0) rfl) (pa_cons (pv 1) pa_nil))))) (pw_or1 (pt_not (pt_val (pe_call (G__law_is_ratio T) (hr.mono (by decide)) rfl T.m__law_is_ratio T.F__law_is_ratio.kp T.b__law_is_ratio .nil pass0 (pa_cons (pe_meth0 (pv 0) T.cl_Tape T.me_Tape_chance (G_Tape_chance T) (hr.mono (by decide)) T.b_Tape_chance .nil pass0) (pa_cons pe_int (pa_cons (pv 2) pa_nil)))))))))
        (pss_one (ps_ret pe_bl))
        pss_nil)
      (pss_one (ps_ret (pe_call (R__law_same T 3) (hr.mono (by decide)) rfl T.m__law_same T.F__law_same.kp T.b__law_same .nil pass0 (pa_cons (pe_meth0 (pv 0) T.cl_Tape T.me_Tape_following (G_Tape_following T) (hr.mono (by decide)) T.b_Tape_following .nil pass0) (pa_cons (pe_call (G__law_following T) (hr.mono (by decide)) rfl T.m__law_following T.F__law_following.kp T.b__law_following .nil pass0 (pa_cons (pv 1) pa_nil)) pa_nil)))))))), ?_⟩
    try dsimp only [cxOf, Cx.nox, Cx.wish]
    have bound : ∀ i, i ≤ ts.length → 1 ≤ prodC (ts.take i) ∧ prodC (ts.take i) < 2 ^ 60 := fun i hi => by
      obtain ⟨h1, h2⟩ := prodC_le (ts.take i) fun x hx => hb x (List.mem_of_mem_take hx)
      have h3 : (ts.take i).length ≤ 12 := by rw [List.length_take]; omega
      have h4 : (16 : Int) ^ (ts.take i).length ≤ 16 ^ 12 := by
        have := Nat.pow_le_pow_right (n := 16) (by decide) h3
        exact_mod_cast this
      refine ⟨h1, ?_⟩
      have h5 : (16 : Int) ^ 12 < 2 ^ 60 := by decide
      omega
    walk_at "go"
    refine foL ys (fun i σ' H' => ∃ w, σ' = [some (.ref t), some (.ref m), some (.int (prodC (ts.take i))), w] ∧ H' = H) ⟨_, rfl, rfl⟩ ?_ ?_ ?_
    · rintro i σ' H' _ ⟨w, rfl, rfl⟩
      exact .of hm
    · rintro i x σ' H' hx ⟨w, rfl, rfl⟩
      have hi := (List.getElem?_eq_some_iff.mp hx).1
      have ht : ts[i]? = some ts[i] := List.getElem?_eq_getElem (by omega)
      obtain ⟨p, e1, e2⟩ := hpm.get ht
      rw [hx] at e1
      cases e1
      obtain ⟨b1, b2⟩ := bound i (by omega)
      walk_at "go"
      rw [← prodC_take ht]
      exact ⟨_, rfl, rfl⟩
    rintro σ' H' ⟨w, rfl, rfl⟩
    rw [hyl, List.take_length]
    obtain ⟨b1, b2⟩ := bound ts.length (Nat.le_refl _)
    rw [List.take_length] at b1 b2
    walk_at "go"
    refine ⟨_, _, rfl, .lst (.of hk) (.of hm) (by omega) (by omega) (fun i x y hx hy => ?_), ?_⟩
    · have hi := (List.getElem?_eq_some_iff.mp hx).1
      have ht : ts[i]? = some ts[i] := List.getElem?_eq_getElem (by omega)
      obtain ⟨p1, e1, e2⟩ := hp.get ht
      obtain ⟨p2, e3, e4⟩ := hpm.get ht
      rw [hx] at e1
      rw [hy] at e3
      cases e1
      cases e3
      refine .tup (.inl (.inl e2)) (.inl (.inl e4)) rfl (by show 2 ≤ 100000; decide) (fun j x y hx hy => ?_)
      rw [hx] at hy
      cases hy
      match j, hx with
      | 0, hx => cases hx; exact .int _
      | 1, hx => cases hx; exact .int _
    walk_at "go"
    refine ⟨t, dx, _, rfl, ho, F_Tape_no_chance, ?_⟩
    walk_at "go"
    refine ⟨t, r, k, rs, xs, ts, rfl, hT, hl, hb, fun z H1 s1 ⟨dz, ez⟩ => ?_⟩
    walk_at "go"
    refine ⟨z, dz, _, rfl, ez, b1, fun H2 s2 => ?_⟩
    have s12 := s1.trans s2
    have ho2 := s12 _ _ ho
    walk_at "go"
    refine ⟨t, dx, _, rfl, ho2, F_Tape_no_following, ?_⟩
    walk_at "go"
    refine ⟨t, r, k, rs, xs, ts, rfl, hT.same s12, by omega, fun hn => ?_, fun l hl2 p3 H3 s3 n3 e3 => ?_⟩
    · walk_at "go"
      refine ⟨m, ys, ts, rfl, s12 _ _ hm, hpm.same s12, by omega, fun _ => ?_, fun l hl2 => by rw [hn] at hl2; cases hl2⟩
      walk_at "go"
      exact ⟨_, _, rfl, .non, q _ s12⟩
    · have s13 := s12.trans s3
      walk_at "go"
      refine ⟨m, ys, ts, rfl, s13 _ _ hm, hpm.same s13, by omega, fun hn => (by rw [hn] at hl2; cases hl2), fun l2 hl3 p4 H4 s4 n4 e4 => ?_⟩
      rw [hl2] at hl3
      cases hl3
      walk_at "go"
      refine ⟨_, _, rfl, .lst (.of (s4 _ _ e3)) (.of e4) rfl ?_ (fun i x y hx hy => ?_), q _ (s13.trans s4)⟩
      · rw [List.length_map]
        have := foll_len hl2
        omega
      · rw [hx] at hy
        cases hy
        rw [List.getElem?_map] at hx
        cases h : l[i]? with
        | none => rw [h] at hx; cases hx
        | some w => rw [h] at hx; cases hx; exact .int _
end
end K60

namespace K60
open PySem PySem.Spec PyProof.Rows L2 Gx
section
variable {P : Program} {w : World} {K : PySem.W.Frag} {mg : Str → Option Value} {base : Heap} {A : Ad}
def sp__law_one (K : PySem.W.Frag) (C : Addr) : Sp := fun vs H Q _ => ∃ (p : Pl) (b : Int), vs = [.ref p.a] ∧ Pool H p b ∧ ∀ H', Turn p b H H' → Q (.bl true) H'
theorem G__law_one (T : Txt P K mg A) : FnOk P w K mg base CX0 6 A.f__law_one A.d__law_one ["_law_pool_here"] (sp__law_one K A.c_Tape) := by
  refine (T.F__law_one.ok (k := 5) sc__law_one (fun vs H Q E h => ?_) (fun cdv Ar outer s H vs Q E hr h => ?_))
  · obtain ⟨p, b, rfl, _⟩ := h
    rfl
  · obtain ⟨p, b, rfl, hp, q⟩ := h
    have cl := T.cl_Tape
    have n1 := T.na_Tape_results
    have n2 := T.na_Tape_taken
    refine ⟨_, (pss_cons (ps_setLc (i := 1) (own := [("_law_k", 5)]) (g := gName 5) (tt := tYes) rfl sc__law_one.nd rfl rfl (sw_true rfl rfl rfl (by decide +kernel)) (pi_range1 rfl T.n_range (pa_cons (pe_call (G__law_draw T) (hr.mono (by decide)) rfl T.m__law_draw T.F__law_draw.kp T.b__law_draw .nil pass0 (pa_cons (pv 0) (pa_cons pe_int pa_nil))) pa_nil)) (blkOk_by (N := ["_law_pool_here", "_law_results", "_law_passed", "_law_tape", "_law_taken", "_law_k", "_law_count", "_law_result"]) (sc := defScope s__law_one) (by decide +kernel)) (fun _ _ _ _ _ => (pg_name (i := 5) sc__law_one.nd rfl (Or.inl rfl))) (fun _ _ _ _ _ => by exact pts_nil) (fun _ _ _ _ _ => by exact (pe_call (G__law_number T) (hr.mono (by decide)) rfl T.m__law_number T.F__law_number.kp T.b__law_number .nil pass0 (pa_cons (pv 0) pa_nil))))
      (pss_cons (ps_set (i := 2) sc__law_one.nd rfl (Or.inl rfl) (pe_callTy k_list_of (by rfl) T.n_list (by decide +kernel) (pa_cons (pv 1) pa_nil)))
      (pss_cons (ps_set (i := 3) sc__law_one.nd rfl (Or.inl rfl) (pe_make T.mk_Tape (G_Tape___init__ T) (hr.mono (by decide)) rfl T.m_Tape T.b_Tape___init__ .nil pass0 (pa_cons (pv 2) pa_nil)))
      (pss_cons (ps_expr (pe_bm PySem.F.plainAttrs_list PySem.F.slot_list_append PySem.F.type_list_append mt_append (pv 2) (pa_cons pe_int pa_nil)))
      (pss_cons (ps_set (i := 4) sc__law_one.nd rfl (Or.inl rfl) (pe_lst pa_nil))
      (pss_cons (ps_for PassesOwn.never rfl (pi_range1 rfl T.n_range (pa_cons (pe_call (G__law_draw T) (hr.mono (by decide)) rfl T.m__law_draw T.F__law_draw.kp T.b__law_draw .nil pass0 (pa_cons (pv 0) (pa_cons pe_int pa_nil))) pa_nil)) (pg_name (i := 5) sc__law_one.nd rfl (Or.inl rfl))
        (pss_cons (ps_if (pt_not (pt_val (pe_call (G__law_told T) (hr.mono (by decide)) rfl T.m__law_told T.F__law_told.kp T.b__law_told .nil pass0 (pa_cons (pv 3) (pa_cons (pv 4) pa_nil)))))
        (pss_one (ps_ret pe_bl))
        pss_nil)
      (pss_cons (ps_set (i := 6) sc__law_one.nd rfl (Or.inl rfl) (pe_op op_add pe_int (pe_call (G__law_draw T) (hr.mono (by decide)) rfl T.m__law_draw T.F__law_draw.kp T.b__law_draw .nil pass0 (pa_cons (pv 0) (pa_cons pe_int pa_nil)))))
      (pss_cons (ps_set (i := 7) sc__law_one.nd rfl (Or.inl rfl) pe_int)
      (Evl.pss_cut (ps_if (pt_cmpR op_lt (pv 5) (pe_callB k_len (by rfl) T.n_len (by decide +kernel) (pa_cons (pv 1) pa_nil)) (nomark _))
        (pss_one (ps_set (i := 7) sc__law_one.nd rfl (Or.inl rfl) (pe_op op_mod (pe_callTy k_int1 (by rfl) T.n_int (by decide +kernel) (pa_cons (pe_ix ix_list (pv 1) (pv 5) (fun _ _ => rfl)) pa_nil)) (pv 6))))
        pss_nil)
      (pss_cons (ps_expr (pe_bm PySem.F.plainAttrs_list PySem.F.slot_list_append PySem.F.type_list_append mt_append (pv 4) (pa_cons (pe_tup (pa_cons (pv 7) (pa_cons (pv 6) pa_nil))) pa_nil)))
      (pss_one (ps_if (pt_not (pt_val (pe_call (R__law_same T 3) (hr.mono (by decide)) rfl T.m__law_same T.F__law_same.kp T.b__law_same .nil pass0 (pa_cons (pe_meth (pv 3) T.cl_Tape T.me_Tape_take (G_Tape_take T) (hr.mono (by decide)) T.b_Tape_take .nil pass0 (pa_cons (pv 6) pa_nil)) (pa_cons (pv 7) pa_nil)))))
        (pss_one (ps_ret pe_bl))
        pss_nil))))))))
      (pss_one (ps_ret (pe_call (G__law_told T) (hr.mono (by decide)) rfl T.m__law_told T.F__law_told.kp T.b__law_told .nil pass0 (pa_cons (pv 3) (pa_cons (pv 4) pa_nil))))))))))), ?_⟩
    try dsimp only [cxOf, Cx.nox, Cx.wish]
    walk_at "go"
    refine ⟨p, b, 9, rfl, hp, by decide, by decide, fun n H1 hn0 hn1 t1 => ?_⟩
    walk_at "go"
    refine lcPool (fun _ v => ∃ w, v = V.int w ∧ 0 ≤ w) t1.pool (by omega) (by omega) (fun _ => rfl) ?_ ?_
    · intro i H' hi t R hR
      walk_at "go"
      exact ⟨p, b, rfl, t.pool, fun v H'' h0 h1 t' => hR _ _ t' ⟨v, rfl, h0⟩⟩
    intro g ys H2 hg t2 eg hlen hP
    obtain ⟨rs, rfl, hrs⟩ := ints_of (P := fun w => 0 ≤ w) hP
    rw [List.length_map] at hlen
    walk_at "go"
    refine go_listOfL (.of eg) fun l nl => ?_
    walk_at "go"
    intro t dt ht hdt hne
    refine ⟨t, dt, l, rs, rfl, upd_same, .of ?_, fun H3 r k s3 nr nk hrk hT => ⟨rfl, ?_⟩⟩
    · rw [upd_ne (ne_of_none upd_same ht), upd_ne (ne_of_none upd_same hdt), upd_same]
    have s23 : Same H2 H3 := (same_new nl).trans (same_made ht hdt s3)
    have s3' : Same (upd H2 l (.lst (rs.map V.int))) H3 := same_made ht hdt s3
    have el3 := s3' _ _ upd_same
    have nr' : upd H2 l (.lst (rs.map V.int)) r = none := by
      cases e : upd H2 l (.lst (rs.map V.int)) r with
      | none => rfl
      | some o =>
        rw [upd_ne (ne_of_none e ht), upd_ne (ne_of_none e hdt), e] at nr
        cases nr
    have nk' : upd H2 l (.lst (rs.map V.int)) k = none := by
      cases e : upd H2 l (.lst (rs.map V.int)) k with
      | none => rfl
      | some o =>
        rw [upd_ne (ne_of_none e ht), upd_ne (ne_of_none e hdt), e] at nk
        cases nk
    have lr : l ≠ r := ne_of_none upd_same nr'
    have lk : l ≠ k := ne_of_none upd_same nk'
    have nr2 : H2 r = none := by rw [upd_ne lr.symm] at nr'; exact nr'
    have nk2 : H2 k = none := by rw [upd_ne lk.symm] at nk'; exact nk'
    have t12 := t1.trans t2
    have t3 : Turn p b H H3 := t12.same s23
    walk_at "go"
    refine ⟨.inl ⟨rfl, _, .inl (.inl el3)⟩, ?_⟩
    walk_at "go"
    refine go_append el3 (szlt (by rw [List.length_map]; omega)) ?_
    walk_at "go"
    refine ⟨by show 0 ≤ sizeLine; decide, fun m nm => ?_⟩
    walk_at "go"
    have nm3 : H3 m = none := by
      cases e : H3 m with
      | none => rfl
      | some o =>
        by_cases z : m = l
        · rw [z, upd_same] at nm
          cases nm
        · rw [upd_ne z, e] at nm
          cases nm
    have ml : m ≠ l := fun e => by rw [e, upd_same] at nm; cases nm
    have hg3 : H3 g = some (.lst (rs.map V.int)) := s23 _ _ eg
    have gl : g ≠ l := ne_of_none eg nl
    have gr : g ≠ r := ne_of_none eg nr2
    have gk : g ≠ k := ne_of_none eg nk2
    have rm : r ≠ m := ne_of_none hT.rl nm3
    have km : k ≠ m := ne_of_none hT.kl nm3
    have gm : g ≠ m := ne_of_none hg3 nm3
    have rl : r ≠ l := lr.symm
    have kl : k ≠ l := lk.symm
    have pa := t3.pool
    have la : l ≠ p.a := t12.pool.nea nl
    have ll : l ≠ p.l := t12.pool.nel nl
    have ra : r ≠ p.a := t12.pool.nea nr2
    have ka : k ≠ p.a := t12.pool.nea nk2
    have kp : k ≠ p.l := t12.pool.nel nk2
    have ma : m ≠ p.a := t3.pool.nea nm3
    have mp : m ≠ p.l := t3.pool.nel nm3
    have ga : g ≠ p.a := t1.pool.nea hg
    have hH : ∀ H4, One A.c_Tape p b H4 t r k m g rs [] → True := fun _ _ => trivial
    have but4 : But p.a H (upd (upd H3 l (.lst (rs.map V.int ++ [.int 1]))) m (.lst [])) := fun c o nc ec => by
      have e3 := t3.but c o nc ec
      have nlc : c ≠ l := fun z => by
        have := t12.but c o nc ec
        rw [z, nl] at this
        cases this
      rw [upd_ne (ne_of_none e3 nm3), upd_ne nlc]
      exact e3
    have one0 : One A.c_Tape p b (upd (upd H3 l (.lst (rs.map V.int ++ [.int 1]))) m (.lst [])) t r k m g rs [] := by
      obtain ⟨⟨dx, ho⟩, h1, h2, h3⟩ := hT
      have up : ∀ {c o}, c ≠ l → H3 c = some o → upd (upd H3 l (.lst (rs.map V.int ++ [.int 1]))) m (.lst []) c = some o := fun {c o} n e => by
        rw [upd_ne (ne_of_none e nm3), upd_ne n]
        exact e
      refine ⟨⟨[], ⟨dx, up (ne_of ho el3 (by intro z; cases z)) ho⟩, up rl h1, up kl h2, .nil⟩, ⟨[], upd_same, .nil⟩, up gl hg3, ?_⟩
      exact (pa.upd la ll).new (by rw [upd_ne ml]; exact nm3)
    generalize upd (upd H3 l (.lst (rs.map V.int ++ [.int 1]))) m (.lst []) = H4 at *
    walk_at "go"
    refine ⟨p, b, 11, rfl, one0.pool, by decide, by decide, fun n5 H5 h50 h51 t5 => ?_⟩
    have one5 := one0.turn t5 ra ka ma ga
    walk_at "go"
    refine foR1 (fun i σ' H' => ∃ (ts : List (Int × Int)) (v6 v7 v8 : Option V), σ' = [some (.ref p.a), some (.ref g), some (.ref l), some (.ref t), some (.ref m), v6, v7, v8] ∧ One A.c_Tape p b H' t r k m g rs ts ∧ ts.length = i ∧ (∀ t ∈ ts, 1 ≤ t.2 ∧ t.2 ≤ 16) ∧ But p.a H H') (by omega)
      ⟨[], _, _, _, rfl, one5, rfl, (fun t ht => nomatch ht), but4.trans t5.but⟩ ?_ ?_
    · rintro i σ' H6 hi ⟨ts, v6, v7, v8, rfl, one6, hts, hb, but6⟩
      obtain ⟨xs, hT6⟩ := id one6.tp
      obtain ⟨ys6, em6, hp6⟩ := one6.ml
      walk_at "go"
      refine ⟨t, r, k, m, rs, xs, ys6, ts, rfl, hT6, em6, hp6, by omega, hb, fun H7 s7 => ?_⟩
      have one7 := one6.same s7
      walk_at "go"
      refine ⟨p, b, 9, rfl, one7.pool, by decide, by decide, fun v8 H8 h80 h81 t8 => ?_⟩
      have one8 := one7.turn t8 ra ka ma ga
      walk_at "go"
      refine go_cut (fun σ' H' => σ' = [some (.ref p.a), some (.ref g), some (.ref l), some (.ref t), some (.ref m), some (.int (i : Int)), some (.int (1 + v8)), some (.int (tRes rs i (1 + v8)))] ∧ H' = H8) ?_ ?_
      · walk_at "go"
        refine go_lenL (.of one8.gl) ?_
        rw [List.length_map]
        walk_at "go"
        walk_at "br"
        · intro h
          walk_at "go"
          refine go_ixL (.of one8.gl) (at_int (by omega) h) ?_
          walk_at "go"
          refine ⟨?_, rfl⟩
          unfold tRes
          rw [if_pos (by omega), Int.toNat_natCast]
          rfl
        · intro h
          walk_at "go"
          refine ⟨?_, rfl⟩
          unfold tRes
          rw [if_neg (by omega)]
          rfl
      rintro σ' H' ⟨rfl, rfl⟩
      obtain ⟨xs8, hT8⟩ := id one8.tp
      obtain ⟨ys8, em8, hp8⟩ := one8.ml
      have hyl := hp8.1
      walk_at "go"
      refine ⟨.inl ⟨rfl, _, .inl (.inl em8)⟩, ?_⟩
      walk_at "go"
      refine ⟨by show 2 ≤ sizeLine; decide, fun u nu => ?_⟩
      walk_at "go"
      have em9 : upd H' u (.tup [.int (tRes rs i (1 + v8)), .int (1 + v8)]) m = some (.lst ys8) := by rw [upd_ne (ne_of_none em8 nu)]; exact em8
      refine go_append em9 (szlt (by omega)) ?_
      walk_at "go"
      have one9 := one8.same (same_new (o := .tup [.int (tRes rs i (1 + v8)), .int (1 + v8)]) nu)
      have hp9 : PairsAt (upd (upd H' u (.tup [.int (tRes rs i (1 + v8)), .int (1 + v8)])) m (.lst (ys8 ++ [.ref u]))) (ys8 ++ [.ref u]) (ts ++ [(tRes rs i (1 + v8), 1 + v8)]) := by
        refine ((hp8.same (same_new nu)).lst em9).snoc ?_
        rw [upd_ne (ne_of upd_same em9 (by intro z; cases z)), upd_same]
      obtain ⟨xs9, ⟨dx9, ho9⟩, hr9, hk9, hq9⟩ := one9.tp
      have hT9 : TapeAt A.c_Tape (upd (upd H' u (.tup [.int (tRes rs i (1 + v8)), .int (1 + v8)])) m (.lst (ys8 ++ [.ref u]))) t r k rs xs9 ts :=
        ⟨⟨dx9, by rw [upd_ne (ne_of ho9 em9 (by intro z; cases z))]; exact ho9⟩, by rw [upd_ne rm]; exact hr9, by rw [upd_ne km]; exact hk9, hq9.lst em9⟩
      have hg9 : upd (upd H' u (.tup [.int (tRes rs i (1 + v8)), .int (1 + v8)])) m (.lst (ys8 ++ [.ref u])) g = some (.lst (rs.map V.int)) := by rw [upd_ne gm]; exact one9.gl
      have hpool9 := one9.pool.upd (q := m) (o := .lst (ys8 ++ [.ref u])) ma mp
      have em10 : upd (upd H' u (.tup [.int (tRes rs i (1 + v8)), .int (1 + v8)])) m (.lst (ys8 ++ [.ref u])) m = some (.lst (ys8 ++ [.ref u])) := upd_same
      have but9 : But p.a H (upd (upd H' u (.tup [.int (tRes rs i (1 + v8)), .int (1 + v8)])) m (.lst (ys8 ++ [.ref u]))) := fun c o nc ec => by
        have e3 := t3.but c o nc ec
        have e8 := t8.but c o nc (s7 _ _ (but6 c o nc ec))
        rw [upd_ne (ne_of_none e3 nm3), upd_ne (ne_of_none e8 nu)]
        exact e8
      generalize upd (upd H' u (.tup [.int (tRes rs i (1 + v8)), .int (1 + v8)])) m (.lst (ys8 ++ [.ref u])) = H9 at *
      obtain ⟨⟨dxx, hoo⟩, _⟩ := id hT9
      refine ⟨t, dxx, _, rfl, hoo, F_Tape_no_take, ?_⟩
      walk_at "go"
      refine ⟨t, r, k, rs, xs9, ts, 1 + v8, rfl, hT9, hrk, by omega, by omega, fun H10 w nw but10 hT10 => ?_⟩
      have ek : tRes rs ts.length (1 + v8) = tRes rs i (1 + v8) := by rw [hts]
      rw [ek] at hT10 ⊢
      walk_at "go"
      refine ⟨_, _, rfl, .int _, ?_⟩
      walk_at "go"
      refine ⟨_, _, _, _, rfl, ⟨⟨_, hT10⟩, ⟨_, but10 _ _ km.symm em10, hp9.but hT9.kl but10⟩, but10 _ _ gk hg9, hpool9.but but10 ka kp⟩, by simp [hts], fun x hx => ?_, fun c o nc ec => ?_⟩
      · rcases List.mem_append.mp hx with hx | hx
        · exact hb x hx
        · rw [List.mem_singleton.mp hx]
          exact ⟨by show 1 ≤ 1 + v8; omega, by show 1 + v8 ≤ 16; omega⟩
      · have nkc : c ≠ k := fun z => by
          have := t12.but c o nc ec
          rw [z, nk2] at this
          cases this
        exact but10 c o nkc (but9 c o nc ec)
    · rintro σ' H6 ⟨ts, v6, v7, v8, rfl, one6, hts, hb, but6⟩
      obtain ⟨xs, hT6⟩ := id one6.tp
      obtain ⟨ys6, em6, hp6⟩ := one6.ml
      walk_at "go"
      refine ⟨t, r, k, m, rs, xs, ys6, ts, rfl, hT6, em6, hp6, by omega, hb, fun H7 s7 => ?_⟩
      exact q H7 ⟨one6.pool.same s7, but6.trans (Same.but s7)⟩
end
end K60

namespace K60
open PySem PySem.Spec PyProof.Rows L2 Gx
section
variable {P : Program} {w : World} {K : PySem.W.Frag} {mg : Str → Option Value} {base : Heap} {A : Ad}
def sp_law (K : PySem.W.Frag) : Sp := fun vs H Q _ => ∃ (a : Addr) (ns : List Int), vs = [.ref a] ∧ SqL K H a (ns.map V.int) ∧ ns.length ≤ 63 ∧ ∀ H', Q (.bl true) H'
theorem G_law (T : Txt P K mg A) : FnOk P w K mg base CX0 7 A.f_law A.d_law ["_law_script"] (sp_law K) := by
  refine (T.F_law.ok (k := 6) sc_law (fun vs H Q E h => ?_) (fun cdv Ar outer s H vs Q E hr h => ?_))
  · obtain ⟨a, ns, rfl, _⟩ := h
    rfl
  · obtain ⟨a, ns, rfl, hs, hl, q⟩ := h
    have cl := T.cl_Tape
    have n1 := T.na_Tape_results
    have n2 := T.na_Tape_taken
    refine ⟨_, (pss_cons (ps_set (i := 1) sc_law.nd rfl (Or.inl rfl) (pe_call (G__law_pool T) (hr.mono (by decide)) rfl T.m__law_pool T.F__law_pool.kp T.b__law_pool .nil pass0 (pa_cons (pv 0) (pa_cons pe_int pa_nil))))
      (pss_cons (ps_if (pt_not (pt_val (pe_call (G__law_one T) (hr.mono (by decide)) rfl T.m__law_one T.F__law_one.kp T.b__law_one .nil pass0 (pa_cons (pv 1) pa_nil))))
        (pss_one (ps_ret pe_bl))
        pss_nil)
      (pss_cons (ps_set (i := 2) sc_law.nd rfl (Or.inl rfl) (pe_lst pa_nil))
      (pss_cons (ps_set (i := 3) sc_law.nd rfl (Or.inl rfl) pe_int)
      (pss_cons (ps_for PassesOwn.never rfl (pi_range1 rfl T.n_range (pa_cons (pe_call (G__law_draw T) (hr.mono (by decide)) rfl T.m__law_draw T.F__law_draw.kp T.b__law_draw .nil pass0 (pa_cons (pv 1) (pa_cons pe_int pa_nil))) pa_nil)) (pg_name (i := 4) sc_law.nd rfl (Or.inl rfl))
        (pss_cons (ps_set (i := 5) sc_law.nd rfl (Or.inl rfl) (pe_op op_add pe_int (pe_call (G__law_draw T) (hr.mono (by decide)) rfl T.m__law_draw T.F__law_draw.kp T.b__law_draw .nil pass0 (pa_cons (pv 1) (pa_cons pe_int pa_nil)))))
      (pss_one (ps_if (pt_cmpR op_le (pe_op op_mul (pv 3) (pv 5)) pe_int (nomark _))
        (pss_cons (ps_expr (pe_bm PySem.F.plainAttrs_list PySem.F.slot_list_append PySem.F.type_list_append mt_append (pv 2) (pa_cons (pv 5) pa_nil)))
      (pss_one (ps_set (i := 3) sc_law.nd rfl (Or.inl rfl) (pe_op op_mul (pv 3) (pv 5)))))
        pss_nil))))
      (pss_cons (ps_set (i := 6) sc_law.nd rfl (Or.inl rfl) (pe_lst pa_nil))
      (pss_cons (ps_for PassesOwn.never rfl (pi_range1 rfl T.n_range (pa_cons (pv 3) pa_nil)) (pg_name (i := 4) sc_law.nd rfl (Or.inl rfl))
        (pss_cons (ps_set (i := 7) sc_law.nd rfl (Or.inl rfl) (pe_make T.mk_Tape (G_Tape___init__ T) (hr.mono (by decide)) rfl T.m_Tape T.b_Tape___init__ .nil pass0 (pa_cons (pv 6) pa_nil)))
      (pss_cons (ps_for PassesOwn.never rfl (pi_range1 rfl T.n_range (pa_cons (pe_callB k_len (by rfl) T.n_len (by decide +kernel) (pa_cons (pv 2) pa_nil)) pa_nil)) (pg_name (i := 8) sc_law.nd rfl (Or.inl rfl))
        (pss_cons (ps_set (i := 9) sc_law.nd rfl (Or.inl rfl) (pv 4))
      (pss_cons (ps_for PassesOwn.never rfl (pi_list (pe_slice sl_list (pv 2) (po_some (pe_op op_add (pv 8) pe_int)) po_none)) (pg_name (i := 5) sc_law.nd rfl (Or.inl rfl))
        (pss_one (ps_set (i := 9) sc_law.nd rfl (Or.inl rfl) (pe_op op_fdiv (pv 9) (pv 5)))))
      (pss_one (ps_if (pt_not (pt_val (pe_call (R__law_same T 3) (hr.mono (by decide)) rfl T.m__law_same T.F__law_same.kp T.b__law_same .nil pass0 (pa_cons (pe_meth (pv 7) T.cl_Tape T.me_Tape_take (G_Tape_take T) (hr.mono (by decide)) T.b_Tape_take .nil pass0 (pa_cons (pe_ix ix_list (pv 2) (pv 8) (fun _ _ => rfl)) pa_nil)) (pa_cons (pe_op op_mod (pe_callTy k_int1 (by rfl) T.n_int (by decide +kernel) (pa_cons (pv 9) pa_nil)) (pe_ix ix_list (pv 2) (pv 8) (fun _ _ => rfl))) pa_nil)))))
        (pss_one (ps_ret pe_bl))
        pss_nil)))))
      (pss_cons (ps_set (i := 6) sc_law.nd rfl (Or.inl rfl) (pe_meth0 (pv 7) T.cl_Tape T.me_Tape_following (G_Tape_following T) (hr.mono (by decide)) T.b_Tape_following .nil pass0))
      (pss_one (ps_if (pt_cmpR op_ne (pe_cmpR o_isN (pv 6) pe_non (nomark _)) (pe_cmpR op_eq (pv 4) (pe_op op_sub (pv 3) pe_int) (nomark _)) (nomark _))
        (pss_one (ps_ret pe_bl))
        pss_nil))))))
      (pss_one (ps_ret pe_bl))))))))), ?_⟩
    try dsimp only [cxOf, Cx.nox, Cx.wish]
    walk_at "go"
    refine ⟨a, ns, 0, rfl, hs, by omega, fun p H1 _ _ _ s1 hp => ?_⟩
    walk_at "go"
    refine ⟨p, 0, rfl, hp, fun H2 t2 => ?_⟩
    walk_at "go"
    refine ⟨by show 0 ≤ sizeLine; decide, fun cl0 ncl => ?_⟩
    walk_at "go"
    have hpool := t2.pool.new (o := .lst []) ncl
    have ca := t2.pool.nea ncl
    have cp := t2.pool.nel ncl
    have e0 : upd H2 cl0 (.lst []) cl0 = some (.lst (([] : List Int).map V.int)) := upd_same
    generalize upd H2 cl0 (.lst []) = H3 at *
    refine ⟨p, 0, 5, rfl, hpool, by decide, by decide, fun n4 H4 h40 h41 t4 => ?_⟩
    walk_at "go"
    refine foR1 (fun i σ' H' => ∃ (cs : List Int) (v4 v5 v6 v7 v8 v9 : Option V), σ' = [some (.ref a), some (.ref p.a), some (.ref cl0), some (.int (prodN cs)), v4, v5, v6, v7, v8, v9] ∧ Pool H' p 0 ∧ H' cl0 = some (.lst (cs.map V.int)) ∧ (∀ c ∈ cs, 1 ≤ c ∧ c ≤ 6) ∧ prodN cs ≤ 120 ∧ cs.length ≤ i) (by omega)
      ⟨[], _, _, _, _, _, _, rfl, t4.pool, t4.but _ _ ca e0, (fun c hc => nomatch hc), by decide, Nat.le_refl _⟩ ?_ ?_
    · rintro i σ' H5 hi ⟨cs, v4, v5, v6, v7, v8, v9, rfl, hp5, e5, hb, hP, hcl⟩
      walk_at "go"
      refine ⟨p, 0, 6, rfl, hp5, by decide, by decide, fun c H6 hc0 hc1 t6 => ?_⟩
      have e6 := t6.but _ _ ca e5
      have hpos := prodN_pos cs fun c hc => (hb c hc).1
      walk_at "go"
      walk_at "br"
      · intro h
        walk_at "go"
        refine ⟨.inl ⟨rfl, _, .inl (.inl e6)⟩, ?_⟩
        walk_at "go"
        refine go_append e6 (szlt (by rw [List.length_map]; omega)) ?_
        walk_at "go"
        rw [← prodN_snoc]
        refine ⟨cs ++ [1 + c], _, _, _, _, _, _, rfl, t6.pool.upd ca cp, by rw [upd_same, List.map_append]; rfl, fun x hx => ?_, by rw [prodN_snoc]; exact h, by simp; omega⟩
        · rcases List.mem_append.mp hx with hx | hx
          · exact hb x hx
          · rw [List.mem_singleton.mp hx]; omega
      · intro h
        walk_at "go"
        exact ⟨cs, _, _, _, _, _, _, rfl, t6.pool, e6, hb, hP, by omega⟩
    rintro σ' H5 ⟨cs, v4, v5, v6, v7, v8, v9, rfl, _, e5, hb, hP, hcl⟩
    have hcl2 : cs.length ≤ 4 := by omega
    have hpos := prodN_pos cs fun c hc => (hb c hc).1
    have hb1 : ∀ c ∈ cs, 1 ≤ c := fun c hc => (hb c hc).1
    walk_at "go"
    refine ⟨by show 0 ≤ sizeLine; decide, fun g ng => ?_⟩
    walk_at "go"
    refine foR1 (fun i σ' H' => ∃ (v4 v5 v7 v8 v9 : Option V) (rv : V), σ' = [some (.ref a), some (.ref p.a), some (.ref cl0), some (.int (prodN cs)), v4, v5, some rv, v7, v8, v9] ∧ H' cl0 = some (.lst (cs.map V.int)) ∧ ((i : Int) < prodN cs → ∃ (g : Addr) (l : List Int), rv = .ref g ∧ H' g = some (.lst (l.map V.int)) ∧ l.length ≤ cs.length ∧ ∃ z, digs cs i = l ++ List.replicate z 0)) (by omega)
      ⟨_, _, _, _, _, _, rfl, by rw [upd_ne (ne_of_none e5 ng)]; exact e5, fun _ => ⟨g, [], rfl, upd_same, Nat.zero_le _, cs.length, ?_⟩⟩ ?_ ?_
    · show digs cs 0 = _
      rw [digs_zero cs hb1, List.map_const', List.nil_append]
    · rintro i σ' H6 hi ⟨v4, v5, v7, v8, v9, rv, rfl, e6, hr⟩
      obtain ⟨g, l, rfl, eg, hll, z, hz⟩ := hr hi
      obtain ⟨nw1, nw2⟩ := next_way cs i hb1 (by omega) hi
      walk_at "go"
      intro t dt ht hdt hne
      refine ⟨t, dt, g, l, rfl, upd_same, .of ?_, fun H7 r k s7 nr nk hrk hT => ⟨rfl, ?_⟩⟩
      · rw [upd_ne (ne_of_none eg ht), upd_ne (ne_of_none eg hdt)]
        exact eg
      have s67 : Same H6 H7 := same_made ht hdt s7
      have e7 := s67 _ _ e6
      have nk6 : H6 k = none := by
        cases e : H6 k with
        | none => rfl
        | some o =>
          rw [upd_ne (ne_of_none e ht), upd_ne (ne_of_none e hdt), e] at nk
          cases nk
      have ck : cl0 ≠ k := ne_of_none e6 nk6
      walk_at "go"
      refine go_lenL (.of e7) ?_
      rw [List.length_map]
      walk_at "go"
      refine foR1 (fun j σ' H' => ∃ (v5 v8 v9 : Option V) (xs : List V), σ' = [some (.ref a), some (.ref p.a), some (.ref cl0), some (.int (prodN cs)), some (.int (i : Int)), v5, some (.ref g), some (.ref t), v8, v9] ∧ H' cl0 = some (.lst (cs.map V.int)) ∧ TapeAt A.c_Tape H' t r k l xs (((digs cs i).zip cs).take j)) (by omega)
        ⟨_, _, _, _, rfl, e7, by rw [List.take_zero]; exact hT⟩ ?_ ?_
      · rintro j σ' H8 hj ⟨v5, v8, v9, xs, rfl, e8, hT8⟩
        have hj2 : j < cs.length := by omega
        have hcj : cs[j]? = some cs[j] := List.getElem?_eq_getElem hj2
        have hbj := hb cs[j] (List.getElem_mem hj2)
        generalize cs[j] = c at hcj hbj
        obtain ⟨hb0, hb6⟩ := hbj
        walk_at "go"
        have hcut : cutV (cs.map V.int) (some ((j : Int) + 1)) none = (cs.drop (j + 1)).map V.int := by
          rw [show ((j : Int) + 1) = ((j + 1 : Nat) : Int) by omega, cut_from, List.map_drop]
        refine go_slL (.of e8) fun p1 np1 => ?_
        rw [hcut]
        refine foL ((cs.drop (j + 1)).map V.int) (fun m σ' H' => ∃ v5, σ' = [some (.ref a), some (.ref p.a), some (.ref cl0), some (.int (prodN cs)), some (.int (i : Int)), v5, some (.ref g), some (.ref t), some (.int (j : Int)), some (.int ((i : Int) / prodN ((cs.drop (j + 1)).take m)))] ∧ H' = upd H8 p1 (.lst ((cs.drop (j + 1)).map V.int))) ⟨_, by rw [List.take_zero, show prodN [] = 1 from rfl, Int.ediv_one]; rfl, rfl⟩ ?_ ?_ ?_
        · rintro m σ' H9 _ ⟨v5, rfl, rfl⟩
          exact .of upd_same
        · rintro m x σ' H9 hx ⟨v5, rfl, rfl⟩
          rw [List.getElem?_map] at hx
          cases hd : (cs.drop (j + 1))[m]? with
          | none => rw [hd] at hx; cases hx
          | some d =>
            rw [hd] at hx
            cases hx
            obtain ⟨d1, d2⟩ := hb d (List.mem_of_mem_drop (List.mem_of_getElem? hd))
            walk_at "go"
            have hp1 := prodN_pos ((cs.drop (j + 1)).take m) fun c hc => hb1 c (List.mem_of_mem_drop (List.mem_of_mem_take hc))
            have e := prodN_snoc ((cs.drop (j + 1)).take m) d
            rw [Int.ediv_ediv_of_nonneg (by omega), ← e, show ((cs.drop (j + 1)).take m) ++ [d] = (cs.drop (j + 1)).take (m + 1) by rw [List.take_add_one, hd]; rfl]
            exact ⟨_, rfl, rfl⟩
        rintro σ' H9 ⟨v5, rfl, rfl⟩
        rw [List.length_map, List.take_length]
        have s9 : Same H8 (upd H8 p1 (.lst ((cs.drop (j + 1)).map V.int))) := same_new np1
        have hT9 := hT8.same s9
        have e9 := s9 _ _ e8
        generalize upd H8 p1 (.lst ((cs.drop (j + 1)).map V.int)) = H9 at *
        obtain ⟨⟨dxx, hoo⟩, _⟩ := id hT9
        have ec : atI (cs.map V.int) (j : Int) = some (.int c) := at_nat (by rw [List.getElem?_map, hcj]; rfl)
        have hlen : (((digs cs i).zip cs).take j).length = j := by rw [List.length_take, zip_len]; omega
        walk_at "go"
        refine ⟨t, dxx, _, rfl, hoo, F_Tape_no_take, ?_⟩
        walk_at "go"
        refine go_ixL (.of e9) ec ?_
        walk_at "go"
        refine ⟨t, r, k, l, xs, _, c, rfl, hT9, hrk, hb0, by omega, fun H10 w nw but10 hT10 => ?_⟩
        rw [hlen, tRes_digs hz hcj] at hT10 ⊢
        have e10 := but10 _ _ ck e9
        walk_at "go"
        refine go_ixL (.of e10) ec ?_
        walk_at "go"
        refine ⟨_, _, rfl, .int _, ?_⟩
        walk_at "go"
        have hT11 : TapeAt A.c_Tape H10 t r k l (xs ++ [.ref w]) (((digs cs i).zip cs).take (j + 1)) := by
          rw [List.take_add_one, zip_get hcj]
          exact hT10
        exact ⟨_, _, _, _, rfl, e10, hT11⟩
      · rintro σ' H8 ⟨v5, v8, v9, xs, rfl, e8, hT8⟩
        have hfull : ((digs cs i).zip cs).take ((cs.length : Int).toNat) = (digs cs i).zip cs := List.take_of_length_le (by rw [zip_len]; omega)
        rw [hfull] at hT8
        obtain ⟨⟨dxx, hoo⟩, _⟩ := id hT8
        have hfo := foll_eq ((digs cs i).zip cs)
        walk_at "go"
        refine ⟨t, dxx, _, rfl, hoo, F_Tape_no_following, ?_⟩
        walk_at "go"
        refine ⟨t, r, k, l, xs, _, rfl, hT8, by rw [zip_len]; omega, fun hn => ?_, fun l2 hl2 p2 H9 s9 n9 e9 => ?_⟩
        · rw [hfo] at hn
          have hi2 : (i : Int) + 1 = prodN cs := by
            by_cases h : (i : Int) + 1 < prodN cs
            · obtain ⟨l, h1, _⟩ := nw1 h
              rw [hn] at h1
              cases h1
            · omega
          walk_at "go"
          rw [decide_eq_true (show (i : Int) = prodN cs - 1 by omega)]
          walk_at "go"
          exact ⟨_, _, _, _, _, _, rfl, e8, fun h => by omega⟩
        · rw [hfo] at hl2
          have hi2 : (i : Int) + 1 < prodN cs := by
            by_cases h : (i : Int) + 1 = prodN cs
            · rw [nw2 h] at hl2
              cases hl2
            · omega
          obtain ⟨l3, h3, h4, h5⟩ := nw1 hi2
          rw [hl2] at h3
          cases h3
          walk_at "go"
          rw [decide_eq_false (show ¬ (i : Int) = prodN cs - 1 by omega)]
          walk_at "go"
          exact ⟨_, _, _, _, _, _, rfl, s9 _ _ e8, fun h => ⟨p2, l2, rfl, e9, h4, h5⟩⟩
    · rintro σ' H6 _
      obtain ⟨v4, v5, v7, v8, v9, rv, rfl, _⟩ := ‹_›
      walk_at "go"
      exact q _
end
end K60

set_option pp.maxSteps 60
namespace K60
open PySem L2 Gx
theorem all_mk {P : Program} {w : World} {K : PySem.W.Frag} {h : Heap} {mg : Str → Option Value} {f_Ratio___init__ f_Tape___init__ f_Tape_take f_Tape_chance f_Tape_following f__law_pool f__law_draw f__law_number f__law_same f__law_lowest f__law_is_ratio f__law_following f__law_told f__law_one f_law c_Ratio c_Tape : Addr} (X : K.In h) (G : h.Ns mainGlobals mg) {fa : Addr} (hfa : mg "law" = some (.ref fa))
    {oc_Ratio___init__ kV_Ratio___init__ dc_Ratio___init__ pm_Ratio___init__ cd_Ratio___init__ ct_Ratio___init__ : Value} {od_Ratio___init__ an_Ratio___init__ : Option Addr} {sl_Ratio___init__ : Array (Option Value)} {t_Ratio___init__ : Addr} {tc_Ratio___init__ : Value} {td_Ratio___init__ : Option Addr} {tn_Ratio___init__ : Nat} {ts_Ratio___init__ : Array (Option Value)} {tk_one : Tok}
    {oc_Tape___init__ kV_Tape___init__ dc_Tape___init__ pm_Tape___init__ cd_Tape___init__ ct_Tape___init__ : Value} {od_Tape___init__ an_Tape___init__ : Option Addr} {sl_Tape___init__ : Array (Option Value)}
    {oc_Tape_take kV_Tape_take dc_Tape_take pm_Tape_take cd_Tape_take ct_Tape_take : Value} {od_Tape_take an_Tape_take : Option Addr} {sl_Tape_take : Array (Option Value)}
    {oc_Tape_chance kV_Tape_chance dc_Tape_chance pm_Tape_chance cd_Tape_chance ct_Tape_chance : Value} {od_Tape_chance an_Tape_chance : Option Addr} {sl_Tape_chance : Array (Option Value)}
    {oc_Tape_following kV_Tape_following dc_Tape_following pm_Tape_following cd_Tape_following ct_Tape_following : Value} {od_Tape_following an_Tape_following : Option Addr} {sl_Tape_following : Array (Option Value)}
    {oc__law_pool kV__law_pool dc__law_pool pm__law_pool cd__law_pool ct__law_pool : Value} {od__law_pool an__law_pool : Option Addr} {sl__law_pool : Array (Option Value)}
    {oc__law_draw kV__law_draw dc__law_draw pm__law_draw cd__law_draw ct__law_draw : Value} {od__law_draw an__law_draw : Option Addr} {sl__law_draw : Array (Option Value)}
    {oc__law_number kV__law_number dc__law_number pm__law_number cd__law_number ct__law_number : Value} {od__law_number an__law_number : Option Addr} {sl__law_number : Array (Option Value)}
    {oc__law_same kV__law_same dc__law_same pm__law_same cd__law_same ct__law_same : Value} {od__law_same an__law_same : Option Addr} {sl__law_same : Array (Option Value)}
    {oc__law_lowest kV__law_lowest dc__law_lowest pm__law_lowest cd__law_lowest ct__law_lowest : Value} {od__law_lowest an__law_lowest : Option Addr} {sl__law_lowest : Array (Option Value)}
    {oc__law_is_ratio kV__law_is_ratio dc__law_is_ratio pm__law_is_ratio cd__law_is_ratio ct__law_is_ratio : Value} {od__law_is_ratio an__law_is_ratio : Option Addr} {sl__law_is_ratio : Array (Option Value)}
    {oc__law_following kV__law_following dc__law_following pm__law_following cd__law_following ct__law_following : Value} {od__law_following an__law_following : Option Addr} {sl__law_following : Array (Option Value)}
    {oc__law_told kV__law_told dc__law_told pm__law_told cd__law_told ct__law_told : Value} {od__law_told an__law_told : Option Addr} {sl__law_told : Array (Option Value)}
    {oc__law_one kV__law_one dc__law_one pm__law_one cd__law_one ct__law_one : Value} {od__law_one an__law_one : Option Addr} {sl__law_one : Array (Option Value)}
    {oc_law kV_law dc_law pm_law cd_law ct_law : Value} {od_law an_law : Option Addr} {sl_law : Array (Option Value)}
    (C_Ratio : PySem.W.nsIn K mainGlobals "Ratio" = some (some (.ref c_Ratio)))
    (C_Tape : PySem.W.nsIn K mainGlobals "Tape" = some (some (.ref c_Tape)))
    (g_Ratio___init__ : PySem.W.findIn K (.ref c_Ratio) "__init__" = some (some (.ref f_Ratio___init__)))
    (i_Ratio___init__ : PySem.W.isFn K (.ref f_Ratio___init__) = true)
    (l_Ratio___init__ : K.lookup f_Ratio___init__ = some ⟨oc_Ratio___init__, od_Ratio___init__, .func (PySem.W.fnOf "__init__" "Ratio.__init__" (defArgs s_Ratio___init__) (defBody s_Ratio___init__) (defScope s_Ratio___init__) (.ref t_Ratio___init__) kV_Ratio___init__ dc_Ratio___init__ pm_Ratio___init__ an_Ratio___init__ cd_Ratio___init__ ct_Ratio___init__), sl_Ratio___init__⟩)
    (t_Ratio___init___ : K.lookup t_Ratio___init__ = some ⟨tc_Ratio___init__, td_Ratio___init__, .seq #[.int 1 tk_one] tn_Ratio___init__, ts_Ratio___init__⟩)
    (c_Ratio___init___ : PySem.W.codeIn K cd_Ratio___init__ "Ratio.__init__" = true)
    (k_Ratio___init__ : PySem.W.keepIn K (.ref f_Ratio___init__) = true)
    (g_Tape___init__ : PySem.W.findIn K (.ref c_Tape) "__init__" = some (some (.ref f_Tape___init__)))
    (i_Tape___init__ : PySem.W.isFn K (.ref f_Tape___init__) = true)
    (l_Tape___init__ : K.lookup f_Tape___init__ = some ⟨oc_Tape___init__, od_Tape___init__, .func (PySem.W.fnOf "__init__" "Tape.__init__" (defArgs s_Tape___init__) (defBody s_Tape___init__) (defScope s_Tape___init__) .none kV_Tape___init__ dc_Tape___init__ pm_Tape___init__ an_Tape___init__ cd_Tape___init__ ct_Tape___init__), sl_Tape___init__⟩)
    (c_Tape___init___ : PySem.W.codeIn K cd_Tape___init__ "Tape.__init__" = true)
    (k_Tape___init__ : PySem.W.keepIn K (.ref f_Tape___init__) = true)
    (g_Tape_take : PySem.W.findIn K (.ref c_Tape) "take" = some (some (.ref f_Tape_take)))
    (i_Tape_take : PySem.W.isFn K (.ref f_Tape_take) = true)
    (l_Tape_take : K.lookup f_Tape_take = some ⟨oc_Tape_take, od_Tape_take, .func (PySem.W.fnOf "take" "Tape.take" (defArgs s_Tape_take) (defBody s_Tape_take) (defScope s_Tape_take) .none kV_Tape_take dc_Tape_take pm_Tape_take an_Tape_take cd_Tape_take ct_Tape_take), sl_Tape_take⟩)
    (c_Tape_take_ : PySem.W.codeIn K cd_Tape_take "Tape.take" = true)
    (k_Tape_take : PySem.W.keepIn K (.ref f_Tape_take) = true)
    (g_Tape_chance : PySem.W.findIn K (.ref c_Tape) "chance" = some (some (.ref f_Tape_chance)))
    (i_Tape_chance : PySem.W.isFn K (.ref f_Tape_chance) = true)
    (l_Tape_chance : K.lookup f_Tape_chance = some ⟨oc_Tape_chance, od_Tape_chance, .func (PySem.W.fnOf "chance" "Tape.chance" (defArgs s_Tape_chance) (defBody s_Tape_chance) (defScope s_Tape_chance) .none kV_Tape_chance dc_Tape_chance pm_Tape_chance an_Tape_chance cd_Tape_chance ct_Tape_chance), sl_Tape_chance⟩)
    (c_Tape_chance_ : PySem.W.codeIn K cd_Tape_chance "Tape.chance" = true)
    (k_Tape_chance : PySem.W.keepIn K (.ref f_Tape_chance) = true)
    (g_Tape_following : PySem.W.findIn K (.ref c_Tape) "following" = some (some (.ref f_Tape_following)))
    (i_Tape_following : PySem.W.isFn K (.ref f_Tape_following) = true)
    (l_Tape_following : K.lookup f_Tape_following = some ⟨oc_Tape_following, od_Tape_following, .func (PySem.W.fnOf "following" "Tape.following" (defArgs s_Tape_following) (defBody s_Tape_following) (defScope s_Tape_following) .none kV_Tape_following dc_Tape_following pm_Tape_following an_Tape_following cd_Tape_following ct_Tape_following), sl_Tape_following⟩)
    (c_Tape_following_ : PySem.W.codeIn K cd_Tape_following "Tape.following" = true)
    (k_Tape_following : PySem.W.keepIn K (.ref f_Tape_following) = true)
    (g__law_pool : PySem.W.nsIn K mainGlobals "_law_pool" = some (some (.ref f__law_pool)))
    (i__law_pool : PySem.W.isFn K (.ref f__law_pool) = true)
    (l__law_pool : K.lookup f__law_pool = some ⟨oc__law_pool, od__law_pool, .func (PySem.W.fnOf "_law_pool" "_law_pool" (defArgs s__law_pool) (defBody s__law_pool) (defScope s__law_pool) .none kV__law_pool dc__law_pool pm__law_pool an__law_pool cd__law_pool ct__law_pool), sl__law_pool⟩)
    (c__law_pool_ : PySem.W.codeIn K cd__law_pool "_law_pool" = true)
    (k__law_pool : PySem.W.keepIn K (.ref f__law_pool) = true)
    (g__law_draw : PySem.W.nsIn K mainGlobals "_law_draw" = some (some (.ref f__law_draw)))
    (i__law_draw : PySem.W.isFn K (.ref f__law_draw) = true)
    (l__law_draw : K.lookup f__law_draw = some ⟨oc__law_draw, od__law_draw, .func (PySem.W.fnOf "_law_draw" "_law_draw" (defArgs s__law_draw) (defBody s__law_draw) (defScope s__law_draw) .none kV__law_draw dc__law_draw pm__law_draw an__law_draw cd__law_draw ct__law_draw), sl__law_draw⟩)
    (c__law_draw_ : PySem.W.codeIn K cd__law_draw "_law_draw" = true)
    (k__law_draw : PySem.W.keepIn K (.ref f__law_draw) = true)
    (g__law_number : PySem.W.nsIn K mainGlobals "_law_number" = some (some (.ref f__law_number)))
    (i__law_number : PySem.W.isFn K (.ref f__law_number) = true)
    (l__law_number : K.lookup f__law_number = some ⟨oc__law_number, od__law_number, .func (PySem.W.fnOf "_law_number" "_law_number" (defArgs s__law_number) (defBody s__law_number) (defScope s__law_number) .none kV__law_number dc__law_number pm__law_number an__law_number cd__law_number ct__law_number), sl__law_number⟩)
    (c__law_number_ : PySem.W.codeIn K cd__law_number "_law_number" = true)
    (k__law_number : PySem.W.keepIn K (.ref f__law_number) = true)
    (g__law_same : PySem.W.nsIn K mainGlobals "_law_same" = some (some (.ref f__law_same)))
    (i__law_same : PySem.W.isFn K (.ref f__law_same) = true)
    (l__law_same : K.lookup f__law_same = some ⟨oc__law_same, od__law_same, .func (PySem.W.fnOf "_law_same" "_law_same" (defArgs s__law_same) (defBody s__law_same) (defScope s__law_same) .none kV__law_same dc__law_same pm__law_same an__law_same cd__law_same ct__law_same), sl__law_same⟩)
    (c__law_same_ : PySem.W.codeIn K cd__law_same "_law_same" = true)
    (k__law_same : PySem.W.keepIn K (.ref f__law_same) = true)
    (g__law_lowest : PySem.W.nsIn K mainGlobals "_law_lowest" = some (some (.ref f__law_lowest)))
    (i__law_lowest : PySem.W.isFn K (.ref f__law_lowest) = true)
    (l__law_lowest : K.lookup f__law_lowest = some ⟨oc__law_lowest, od__law_lowest, .func (PySem.W.fnOf "_law_lowest" "_law_lowest" (defArgs s__law_lowest) (defBody s__law_lowest) (defScope s__law_lowest) .none kV__law_lowest dc__law_lowest pm__law_lowest an__law_lowest cd__law_lowest ct__law_lowest), sl__law_lowest⟩)
    (c__law_lowest_ : PySem.W.codeIn K cd__law_lowest "_law_lowest" = true)
    (k__law_lowest : PySem.W.keepIn K (.ref f__law_lowest) = true)
    (g__law_is_ratio : PySem.W.nsIn K mainGlobals "_law_is_ratio" = some (some (.ref f__law_is_ratio)))
    (i__law_is_ratio : PySem.W.isFn K (.ref f__law_is_ratio) = true)
    (l__law_is_ratio : K.lookup f__law_is_ratio = some ⟨oc__law_is_ratio, od__law_is_ratio, .func (PySem.W.fnOf "_law_is_ratio" "_law_is_ratio" (defArgs s__law_is_ratio) (defBody s__law_is_ratio) (defScope s__law_is_ratio) .none kV__law_is_ratio dc__law_is_ratio pm__law_is_ratio an__law_is_ratio cd__law_is_ratio ct__law_is_ratio), sl__law_is_ratio⟩)
    (c__law_is_ratio_ : PySem.W.codeIn K cd__law_is_ratio "_law_is_ratio" = true)
    (k__law_is_ratio : PySem.W.keepIn K (.ref f__law_is_ratio) = true)
    (g__law_following : PySem.W.nsIn K mainGlobals "_law_following" = some (some (.ref f__law_following)))
    (i__law_following : PySem.W.isFn K (.ref f__law_following) = true)
    (l__law_following : K.lookup f__law_following = some ⟨oc__law_following, od__law_following, .func (PySem.W.fnOf "_law_following" "_law_following" (defArgs s__law_following) (defBody s__law_following) (defScope s__law_following) .none kV__law_following dc__law_following pm__law_following an__law_following cd__law_following ct__law_following), sl__law_following⟩)
    (c__law_following_ : PySem.W.codeIn K cd__law_following "_law_following" = true)
    (k__law_following : PySem.W.keepIn K (.ref f__law_following) = true)
    (g__law_told : PySem.W.nsIn K mainGlobals "_law_told" = some (some (.ref f__law_told)))
    (i__law_told : PySem.W.isFn K (.ref f__law_told) = true)
    (l__law_told : K.lookup f__law_told = some ⟨oc__law_told, od__law_told, .func (PySem.W.fnOf "_law_told" "_law_told" (defArgs s__law_told) (defBody s__law_told) (defScope s__law_told) .none kV__law_told dc__law_told pm__law_told an__law_told cd__law_told ct__law_told), sl__law_told⟩)
    (c__law_told_ : PySem.W.codeIn K cd__law_told "_law_told" = true)
    (k__law_told : PySem.W.keepIn K (.ref f__law_told) = true)
    (g__law_one : PySem.W.nsIn K mainGlobals "_law_one" = some (some (.ref f__law_one)))
    (i__law_one : PySem.W.isFn K (.ref f__law_one) = true)
    (l__law_one : K.lookup f__law_one = some ⟨oc__law_one, od__law_one, .func (PySem.W.fnOf "_law_one" "_law_one" (defArgs s__law_one) (defBody s__law_one) (defScope s__law_one) .none kV__law_one dc__law_one pm__law_one an__law_one cd__law_one ct__law_one), sl__law_one⟩)
    (c__law_one_ : PySem.W.codeIn K cd__law_one "_law_one" = true)
    (k__law_one : PySem.W.keepIn K (.ref f__law_one) = true)
    (g_law : PySem.W.nsIn K mainGlobals "law" = some (some (.ref f_law)))
    (i_law : PySem.W.isFn K (.ref f_law) = true)
    (l_law : K.lookup f_law = some ⟨oc_law, od_law, .func (PySem.W.fnOf "law" "law" (defArgs s_law) (defBody s_law) (defScope s_law) .none kV_law dc_law pm_law an_law cd_law ct_law), sl_law⟩)
    (c_law_ : PySem.W.codeIn K cd_law "law" = true)
    (k_law : PySem.W.keepIn K (.ref f_law) = true)
    (pg_Ratio : PySem.W.plainGet K c_Ratio Str.empty = true)
    (hd_Ratio : PySem.W.hasDictIn K c_Ratio = true)
    (po_Ratio : PySem.W.plainOver K c_Ratio = true)
    (sa_Ratio : PySem.W.findIn K (.ref c_Ratio) "__setattr__" = some (some (.builtin "object.__setattr__")))
    (mk_Ratio : PySem.W.makesIn K c_Ratio = true)
    (kc_Ratio : PySem.W.keepIn K (.ref c_Ratio) = true)
    (na_Ratio_num : PySem.W.findIn K (.ref c_Ratio) "num" = some none)
    (na_Ratio_den : PySem.W.findIn K (.ref c_Ratio) "den" = some none)
    (ha_Ratio : PySem.W.findIn K (.ref c_Ratio) "__class__" = some (some (.builtin "object.__class__")))
    (hn_Ratio : PySem.W.specialIn K (.builtin "object.__class__") "__get__" = some (some (.builtin "getset_descriptor.__get__")))
    (ht_Ratio : PySem.W.takesIn K (.builtin "object.__class__") = some true)
    (hm_Ratio : PySem.W.mroIn K c_Ratio (.type "object") = some true)
    (pg_Tape : PySem.W.plainGet K c_Tape Str.empty = true)
    (hd_Tape : PySem.W.hasDictIn K c_Tape = true)
    (po_Tape : PySem.W.plainOver K c_Tape = true)
    (sa_Tape : PySem.W.findIn K (.ref c_Tape) "__setattr__" = some (some (.builtin "object.__setattr__")))
    (mk_Tape : PySem.W.makesIn K c_Tape = true)
    (kc_Tape : PySem.W.keepIn K (.ref c_Tape) = true)
    (na_Tape_results : PySem.W.findIn K (.ref c_Tape) "results" = some none)
    (na_Tape_taken : PySem.W.findIn K (.ref c_Tape) "taken" = some none)
    (gf_gcd : PySem.W.nsIn K mainGlobals "gcd" = some (some (.builtin "math.gcd")))
    (n_isinstance : PySem.W.nsIn K mainGlobals "isinstance" = some none)
    (n_str : PySem.W.nsIn K mainGlobals "str" = some none)
    (n_list : PySem.W.nsIn K mainGlobals "list" = some none)
    (n_len : PySem.W.nsIn K mainGlobals "len" = some none)
    (n_range : PySem.W.nsIn K mainGlobals "range" = some none)
    (n_int : PySem.W.nsIn K mainGlobals "int" = some none)
    (n_min : PySem.W.nsIn K mainGlobals "min" = some none)
    (n_tuple : PySem.W.nsIn K mainGlobals "tuple" = some none)
    (n_bool : PySem.W.nsIn K mainGlobals "bool" = some none)
    (n_abs : PySem.W.nsIn K mainGlobals "abs" = some none) :
    ∃ fd : FuncData, (∀ (s : Shared) (v : Value), BindsTo s fd ⟨[v], []⟩ [("_law_script", v)]) ∧ ∀ base : Heap, K.In base → base.Ns mainGlobals mg → FnOk P w K mg base CX0 7 fa fd ["_law_script"] (sp_law K) := by
  have e := hfa.symm.trans (PySem.W.mg_of X G g_law)
  cases e
  have F_Ratio___init__ : FunD K "__init__" "Ratio.__init__" (defArgs s_Ratio___init__) (defBody s_Ratio___init__) (defScope s_Ratio___init__) [V.int 1] [] f_Ratio___init__ _ := ⟨⟨_, _, _, _, _, _, _, _, _, _, rfl, l_Ratio___init__, c_Ratio___init___, .inr ⟨by simp, t_Ratio___init__, _, [.int 1 tk_one], _, rfl, t_Ratio___init___, rfl, (.cons ⟨_, rfl⟩ .nil)⟩, .inl rfl⟩, k_Ratio___init__⟩
  have F_Tape___init__ := fun_mk (st := s_Tape___init__) l_Tape___init__ c_Tape___init___ k_Tape___init__
  have F_Tape_take := fun_mk (st := s_Tape_take) l_Tape_take c_Tape_take_ k_Tape_take
  have F_Tape_chance := fun_mk (st := s_Tape_chance) l_Tape_chance c_Tape_chance_ k_Tape_chance
  have F_Tape_following := fun_mk (st := s_Tape_following) l_Tape_following c_Tape_following_ k_Tape_following
  have F__law_pool := fun_mk (st := s__law_pool) l__law_pool c__law_pool_ k__law_pool
  have F__law_draw := fun_mk (st := s__law_draw) l__law_draw c__law_draw_ k__law_draw
  have F__law_number := fun_mk (st := s__law_number) l__law_number c__law_number_ k__law_number
  have F__law_same := fun_mk (st := s__law_same) l__law_same c__law_same_ k__law_same
  have F__law_lowest := fun_mk (st := s__law_lowest) l__law_lowest c__law_lowest_ k__law_lowest
  have F__law_is_ratio := fun_mk (st := s__law_is_ratio) l__law_is_ratio c__law_is_ratio_ k__law_is_ratio
  have F__law_following := fun_mk (st := s__law_following) l__law_following c__law_following_ k__law_following
  have F__law_told := fun_mk (st := s__law_told) l__law_told c__law_told_ k__law_told
  have F__law_one := fun_mk (st := s__law_one) l__law_one c__law_one_ k__law_one
  have F_law := fun_mk (st := s_law) l_law c_law_ k_law
  have T : Txt P K mg ⟨f_Ratio___init__, _, f_Tape___init__, _, f_Tape_take, _, f_Tape_chance, _, f_Tape_following, _, f__law_pool, _, f__law_draw, _, f__law_number, _, f__law_same, _, f__law_lowest, _, f__law_is_ratio, _, f__law_following, _, f__law_told, _, f__law_one, _, f_law, _, c_Ratio, c_Tape⟩ := ⟨F_Ratio___init__,
    (F_Ratio___init__.binds1 (ps := ["self", "num", "den"]) 3 1 (by simp) rfl fun _ _ _ _ _ _ _ us its hu hi => match us, hu, its, hi with | [_, _, _], _, [_], _ => ⟨_, rfl, rfl⟩),
    (F_Ratio___init__.binds1 (ps := ["self", "num", "den"]) 2 0 (by simp) rfl fun _ _ _ _ _ _ _ us its hu hi => match us, hu, its, hi with | [_, _], _, [_], _ => ⟨_, rfl, rfl⟩),
    ⟨mk_Ratio, g_Ratio___init__, i_Ratio___init__, kc_Ratio⟩,
    F_Tape___init__,
    (F_Tape___init__.binds (ps := ["self", "results"]) fun _ _ _ _ _ _ us hl => match us, hl with | [_, _], _ => rfl),
    ⟨mk_Tape, g_Tape___init__, i_Tape___init__, kc_Tape⟩,
    F_Tape_take,
    (F_Tape_take.binds (ps := ["self", "count"]) fun _ _ _ _ _ _ us hl => match us, hl with | [_, _], _ => rfl),
    ⟨g_Tape_take, i_Tape_take, k_Tape_take⟩,
    F_Tape_chance,
    (F_Tape_chance.binds (ps := ["self"]) fun _ _ _ _ _ _ us hl => match us, hl with | [_], _ => rfl),
    ⟨g_Tape_chance, i_Tape_chance, k_Tape_chance⟩,
    F_Tape_following,
    (F_Tape_following.binds (ps := ["self"]) fun _ _ _ _ _ _ us hl => match us, hl with | [_], _ => rfl),
    ⟨g_Tape_following, i_Tape_following, k_Tape_following⟩,
    F__law_pool,
    (F__law_pool.binds (ps := ["_law_script", "_law_budget"]) fun _ _ _ _ _ _ us hl => match us, hl with | [_, _], _ => rfl),
    (PySem.W.mg_of X G g__law_pool),
    F__law_draw,
    (F__law_draw.binds (ps := ["_law_pool_here", "_law_size"]) fun _ _ _ _ _ _ us hl => match us, hl with | [_, _], _ => rfl),
    (PySem.W.mg_of X G g__law_draw),
    F__law_number,
    (F__law_number.binds (ps := ["_law_pool_here"]) fun _ _ _ _ _ _ us hl => match us, hl with | [_], _ => rfl),
    (PySem.W.mg_of X G g__law_number),
    F__law_same,
    (F__law_same.binds (ps := ["_law_actual", "_law_due"]) fun _ _ _ _ _ _ us hl => match us, hl with | [_, _], _ => rfl),
    (PySem.W.mg_of X G g__law_same),
    F__law_lowest,
    (F__law_lowest.binds (ps := ["_law_num", "_law_den"]) fun _ _ _ _ _ _ us hl => match us, hl with | [_, _], _ => rfl),
    (PySem.W.mg_of X G g__law_lowest),
    F__law_is_ratio,
    (F__law_is_ratio.binds (ps := ["_law_actual", "_law_num", "_law_den"]) fun _ _ _ _ _ _ us hl => match us, hl with | [_, _, _], _ => rfl),
    (PySem.W.mg_of X G g__law_is_ratio),
    F__law_following,
    (F__law_following.binds (ps := ["_law_taken"]) fun _ _ _ _ _ _ us hl => match us, hl with | [_], _ => rfl),
    (PySem.W.mg_of X G g__law_following),
    F__law_told,
    (F__law_told.binds (ps := ["_law_tape", "_law_taken"]) fun _ _ _ _ _ _ us hl => match us, hl with | [_, _], _ => rfl),
    (PySem.W.mg_of X G g__law_told),
    F__law_one,
    (F__law_one.binds (ps := ["_law_pool_here"]) fun _ _ _ _ _ _ us hl => match us, hl with | [_], _ => rfl),
    (PySem.W.mg_of X G g__law_one),
    F_law,
    (F_law.binds (ps := ["_law_script"]) fun _ _ _ _ _ _ us hl => match us, hl with | [_], _ => rfl),
    (PySem.W.mg_of X G g_law),
    (PySem.W.mg_of X G C_Ratio),
    ⟨pg_Ratio, hd_Ratio, po_Ratio, sa_Ratio⟩,
    na_Ratio_num,
    na_Ratio_den,
    ⟨⟨pg_Ratio, hd_Ratio, po_Ratio, sa_Ratio⟩, ha_Ratio, hn_Ratio, ht_Ratio, hm_Ratio, by unfold PySem.W.kitOne; simp⟩,
    (PySem.W.mg_of X G C_Tape),
    ⟨pg_Tape, hd_Tape, po_Tape, sa_Tape⟩,
    na_Tape_results,
    na_Tape_taken,
    (PySem.W.mg_of X G gf_gcd),
    (PySem.W.mg_none_of X G n_isinstance),
    (PySem.W.mg_none_of X G n_str),
    (PySem.W.mg_none_of X G n_list),
    (PySem.W.mg_none_of X G n_len),
    (PySem.W.mg_none_of X G n_range),
    (PySem.W.mg_none_of X G n_int),
    (PySem.W.mg_none_of X G n_min),
    (PySem.W.mg_none_of X G n_tuple),
    (PySem.W.mg_none_of X G n_bool),
    (PySem.W.mg_none_of X G n_abs)⟩
  exact ⟨PySem.W.fnOf "law" "law" (defArgs s_law) (defBody s_law) (defScope s_law) .none kV_law dc_law pm_law an_law cd_law ct_law, fun s v => .of_eq rfl, fun base _ _ => G_law (P := P) (w := w) (base := base) T⟩
theorem walk {l : PySem.W.OpenLaw} {q : Program} {loose : List Str} {XP : (Str → Option Value) → Heap → Prop} {YP : World → Heap → Prop} {d : DefRec} {K : Params → PySem.W.Frag} (hn : l.most = some 63) (hdf : d.params.defaults = [])
    (hY : ∀ (w : World) (h : Heap), YP w h → (K w.params).In h)
    (F : ∀ (w : World) (mg : Str → Option Value) (fa : Addr) (h : Heap), (K w.params).In h → h.Ns mainGlobals mg → mg d.name = some (.ref fa) →
      ∃ fd : FuncData, (∀ (s : Shared) (u : Value), BindsTo s fd ⟨[u], []⟩ [("_law_script", u)]) ∧ ∀ base : Heap, (K w.params).In base → base.Ns mainGlobals mg → FnOk l.prog w (K w.params) mg base CX0 7 fa fd ["_law_script"] (sp_law (K w.params))) :
    PySem.W.WalkO q loose XP YP l.row.toRowW d [] (fun f vs => PySem.call f vs) :=
  L2.walk_of (n := 63) (k := 7) (x := "_law_script") (CX := fun _ => CX0) (sp := fun w => sp_law (K w.params)) hn (by decide) hdf ⟨rfl, by decide, by decide⟩ hY F (fun _ _ a ns hl _ hS => ⟨a, ns, rfl, hS, hl, fun _ => rfl⟩) fun _ _ _ _ _ z => z
end K60
open PySem PySem.W PyProof.Rows
set_option maxRecDepth 100000 in
set_option maxHeartbeats 0 in
theorem PySem.Challenge.cw_sureplay_k60_lots_that_were_given_holds : PySem.Challenge.rw_sureplay_k60_lots_that_were_given.Holds := by
  w_on; o_law; k_head; (case hw => w_witness2)
  k_fill
  refine K60.walk (l := PySem.Challenge.rw_sureplay_k60_lots_that_were_given) rfl rfl (fun w h Y => PySem.W.kIn_of Y) ?F
  case F =>
    intro w mg fa h KX G hmg
    refine' K60.all_mk KX G hmg ?C_Ratio ?C_Tape ?g_Ratio___init__ ?i_Ratio___init__ ?l_Ratio___init__ ?t_Ratio___init___ ?c_Ratio___init___ ?k_Ratio___init__ ?g_Tape___init__ ?i_Tape___init__ ?l_Tape___init__ ?c_Tape___init___ ?k_Tape___init__ ?g_Tape_take ?i_Tape_take ?l_Tape_take ?c_Tape_take_ ?k_Tape_take ?g_Tape_chance ?i_Tape_chance ?l_Tape_chance ?c_Tape_chance_ ?k_Tape_chance ?g_Tape_following ?i_Tape_following ?l_Tape_following ?c_Tape_following_ ?k_Tape_following ?g__law_pool ?i__law_pool ?l__law_pool ?c__law_pool_ ?k__law_pool ?g__law_draw ?i__law_draw ?l__law_draw ?c__law_draw_ ?k__law_draw ?g__law_number ?i__law_number ?l__law_number ?c__law_number_ ?k__law_number ?g__law_same ?i__law_same ?l__law_same ?c__law_same_ ?k__law_same ?g__law_lowest ?i__law_lowest ?l__law_lowest ?c__law_lowest_ ?k__law_lowest ?g__law_is_ratio ?i__law_is_ratio ?l__law_is_ratio ?c__law_is_ratio_ ?k__law_is_ratio ?g__law_following ?i__law_following ?l__law_following ?c__law_following_ ?k__law_following ?g__law_told ?i__law_told ?l__law_told ?c__law_told_ ?k__law_told ?g__law_one ?i__law_one ?l__law_one ?c__law_one_ ?k__law_one ?g_law ?i_law ?l_law ?c_law_ ?k_law ?pg_Ratio ?hd_Ratio ?po_Ratio ?sa_Ratio ?mk_Ratio ?kc_Ratio ?na_Ratio_num ?na_Ratio_den ?ha_Ratio ?hn_Ratio ?ht_Ratio ?hm_Ratio ?pg_Tape ?hd_Tape ?po_Tape ?sa_Tape ?mk_Tape ?kc_Tape ?na_Tape_results ?na_Tape_taken ?gf_gcd ?n_isinstance ?n_str ?n_list ?n_len ?n_range ?n_int ?n_min ?n_tuple ?n_bool ?n_abs
    (case C_Ratio => k_is)
    (case C_Tape => k_is)
    (case g_Ratio___init__ => k_is)
    (case i_Ratio___init__ => k_is)
    (case l_Ratio___init__ => k_is)
    (case t_Ratio___init___ => k_is)
    (case c_Ratio___init___ => k_is)
    (case k_Ratio___init__ => k_is)
    (case g_Tape___init__ => k_is)
    (case i_Tape___init__ => k_is)
    (case l_Tape___init__ => k_is)
    (case c_Tape___init___ => k_is)
    (case k_Tape___init__ => k_is)
    (case g_Tape_take => k_is)
    (case i_Tape_take => k_is)
    (case l_Tape_take => k_is)
    (case c_Tape_take_ => k_is)
    (case k_Tape_take => k_is)
    (case g_Tape_chance => k_is)
    (case i_Tape_chance => k_is)
    (case l_Tape_chance => k_is)
    (case c_Tape_chance_ => k_is)
    (case k_Tape_chance => k_is)
    (case g_Tape_following => k_is)
    (case i_Tape_following => k_is)
    (case l_Tape_following => k_is)
    (case c_Tape_following_ => k_is)
    (case k_Tape_following => k_is)
    (case g__law_pool => k_is)
    (case i__law_pool => k_is)
    (case l__law_pool => k_is)
    (case c__law_pool_ => k_is)
    (case k__law_pool => k_is)
    (case g__law_draw => k_is)
    (case i__law_draw => k_is)
    (case l__law_draw => k_is)
    (case c__law_draw_ => k_is)
    (case k__law_draw => k_is)
    (case g__law_number => k_is)
    (case i__law_number => k_is)
    (case l__law_number => k_is)
    (case c__law_number_ => k_is)
    (case k__law_number => k_is)
    (case g__law_same => k_is)
    (case i__law_same => k_is)
    (case l__law_same => k_is)
    (case c__law_same_ => k_is)
    (case k__law_same => k_is)
    (case g__law_lowest => k_is)
    (case i__law_lowest => k_is)
    (case l__law_lowest => k_is)
    (case c__law_lowest_ => k_is)
    (case k__law_lowest => k_is)
    (case g__law_is_ratio => k_is)
    (case i__law_is_ratio => k_is)
    (case l__law_is_ratio => k_is)
    (case c__law_is_ratio_ => k_is)
    (case k__law_is_ratio => k_is)
    (case g__law_following => k_is)
    (case i__law_following => k_is)
    (case l__law_following => k_is)
    (case c__law_following_ => k_is)
    (case k__law_following => k_is)
    (case g__law_told => k_is)
    (case i__law_told => k_is)
    (case l__law_told => k_is)
    (case c__law_told_ => k_is)
    (case k__law_told => k_is)
    (case g__law_one => k_is)
    (case i__law_one => k_is)
    (case l__law_one => k_is)
    (case c__law_one_ => k_is)
    (case k__law_one => k_is)
    (case g_law => k_is)
    (case i_law => k_is)
    (case l_law => k_is)
    (case c_law_ => k_is)
    (case k_law => k_is)
    (case pg_Ratio => k_is)
    (case hd_Ratio => k_is)
    (case po_Ratio => k_is)
    (case sa_Ratio => k_is)
    (case mk_Ratio => k_is)
    (case kc_Ratio => k_is)
    (case na_Ratio_num => k_is)
    (case na_Ratio_den => k_is)
    (case ha_Ratio => k_is)
    (case hn_Ratio => k_is)
    (case ht_Ratio => k_is)
    (case hm_Ratio => k_is)
    (case pg_Tape => k_is)
    (case hd_Tape => k_is)
    (case po_Tape => k_is)
    (case sa_Tape => k_is)
    (case mk_Tape => k_is)
    (case kc_Tape => k_is)
    (case na_Tape_results => k_is)
    (case na_Tape_taken => k_is)
    (case gf_gcd => k_is)
    (case n_isinstance => k_is)
    (case n_str => k_is)
    (case n_list => k_is)
    (case n_len => k_is)
    (case n_range => k_is)
    (case n_int => k_is)
    (case n_min => k_is)
    (case n_tuple => k_is)
    (case n_bool => k_is)
    (case n_abs => k_is)
#print axioms PySem.Challenge.cw_sureplay_k60_lots_that_were_given_holds
