import PyProof.Rows.All
import Wide.All
import OpenK.AllK
import Wide.FinOn
import HandS.Iter
import HandS.Style
import HandS.ForMost
import HandS.Wide
import HandS.IsInst
import HandS.TupAny
import HandS.Evl
import HandS.Codes
import HandS.Gcd
import HandS.OwnEq
import HandS.Defaults
import PySem.Challenge.RW_sureplay_k34_last_rows_and_ways
set_option Elab.async false
set_option linter.all false
set_option maxRecDepth 100000
set_option maxHeartbeats 4000000
set_option Elab.async false
set_option linter.all false
set_option maxRecDepth 100000
/-! Own lemmas: stepping through readings (go_), tests, heaps. No program in sight. -/
namespace Gx
open PySem PySem.Spec PyProof.Rows L2

/-! ### statements -/
section
variable {D : Ends} {σ : L2.St} {H : Hp} {t u c : TS} {te ta tb tc tl th : TE} {i : Nat} {Q : VK} {QB : Bool → Hp → Prop}
theorem go_seq (h : t { D with nx := u D } σ H) : tSeq t u D σ H := h
theorem go_cut (M : L2.St → Hp → Prop) (h : t { D with nx := M } σ H) (k : ∀ σ' H', M σ' H' → u D σ' H') : Evl.tCut t u D σ H := ⟨M, h, k⟩
theorem go_asg {g : TG} (h : te σ H fun x H1 => g x σ H1 D.nx) : tAsg te g D σ H := h
theorem go_name {v : V} {R : L2.St → Hp → Prop} (h : R (σ.set i (some v)) H) : gName i v σ H R := h
theorem go_drop (h : te σ H fun _ H1 => D.nx σ H1) : tDrop te D σ H := h
theorem go_ret (h : te σ H D.rt) : tRet te D σ H := h
theorem go_retN (h : D.rt .non H) : tRetN D σ H := h
theorem go_next (h : D.nx σ H) : tNext D σ H := h
theorem go_brk (h : D.bk σ H) : tBreak D σ H := h
theorem go_cont (h : D.ct σ H) : tCont D σ H := h
theorem go_if {tt : TT} (h : tt σ H fun b H1 => if b = true then t D σ H1 else u D σ H1) : tIfS tt t u D σ H := h
/-! ### expressions -/
theorem go_var {v : V} (e : σ[i]? = some (some v)) (h : Q v H) : tVar i σ H Q := ⟨v, e, h⟩
theorem go_c {v : V} (h : Q v H) : tC v σ H Q := h
theorem go_op {r : R2} (h : ta σ H fun x H1 => tb σ H1 fun y H2 => r x y H2 Q) : tOp r ta tb σ H Q := h
theorem go_un {r : V → Hp → VK → Prop} (h : ta σ H fun x H1 => r x H1 Q) : tUn r ta σ H Q := h
theorem go_rI0 {g : Int → Int → V} {a b : Int} (h : Q (g a b) H) : rI0 g (.int a) (.int b) H Q := ⟨a, b, rfl, rfl, h⟩
theorem go_rI {C : Int → Int → Prop} {g : Int → Int → V} {a b : Int} (hc : C a b) (h : Q (g a b) H) : rI C g (.int a) (.int b) H Q := ⟨a, b, rfl, rfl, hc, h⟩
theorem go_rU {g : Int → V} {a : Int} (h : Q (g a) H) : rU g (.int a) H Q := ⟨a, rfl, h⟩
theorem go_eqI {a b : Int} (h : Q (.bl (decide (a = b))) H) : rEq (.int a) (.int b) H Q := ⟨rfl, by simpa using h⟩
theorem go_neI {a b : Int} (h : Q (.bl (!decide (a = b))) H) : rNe (.int a) (.int b) H Q := ⟨rfl, by simpa using h⟩
theorem go_eqS {a b : Str} (h : Q (.bl (decide (a = b))) H) : rEq (.str a) (.str b) H Q := ⟨rfl, by simpa using h⟩
theorem go_neS {a b : Str} (h : Q (.bl (!decide (a = b))) H) : rNe (.str a) (.str b) H Q := ⟨rfl, by simpa using h⟩
theorem go_eqB {a b : Bool} (h : Q (.bl (decide (a = b))) H) : rEq (.bl a) (.bl b) H Q := ⟨rfl, by simpa using h⟩
theorem go_neB {a b : Bool} (h : Q (.bl (!decide (a = b))) H) : rNe (.bl a) (.bl b) H Q := ⟨rfl, by simpa using h⟩
theorem go_eqN (h : Q (.bl true) H) : rEq .non .non H Q := ⟨rfl, by simpa using h⟩
theorem ite_dt {α : Type} [DecidableEq α] {a : α} {A B : Prop} (h : A) : if decide (a = a) = true then A else B := by rw [decide_eq_true rfl]; exact h
theorem go_test (h : te σ H fun x H1 => ∃ k, x = .bl k ∧ QB k H1) : tTest te σ H QB := h
theorem go_B (h : te σ H fun x H1 => ∃ k, x = .bl k ∧ QB k H1) : tB te σ H QB := h
theorem go_bl {b : Bool} (h : QB b H) : ∃ k, V.bl b = .bl k ∧ QB k H := ⟨b, rfl, h⟩
theorem go_and {t u : TT} (h : t σ H fun b H1 => if b = true then u σ H1 QB else QB false H1) : tAnd t u σ H QB := h
theorem go_or {t u : TT} (h : t σ H fun b H1 => if b = true then QB true H1 else u σ H1 QB) : tOr t u σ H QB := h
theorem go_not {t : TT} (h : t σ H fun b H1 => QB (!b) H1) : tNot t σ H QB := h
theorem go_andV (h : ta σ H fun x H1 => ∃ c, x = .bl c ∧ if c = true then tb σ H1 Q else Q (.bl false) H1) : tAndV ta tb σ H Q := h
theorem go_orV (h : ta σ H fun x H1 => ∃ c, x = .bl c ∧ if c = true then Q (.bl true) H1 else tb σ H1 Q) : tOrV ta tb σ H Q := h
theorem go_notV (h : ta σ H fun x H1 => ∃ c, x = .bl c ∧ Q (.bl (!c)) H1) : tNotV ta σ H Q := h
theorem go_ifE {t : TT} (h : t σ H fun c H1 => if c = true then ta σ H1 Q else tb σ H1 Q) : tIf t ta tb σ H Q := h
theorem go_blA {b : Bool} {R : Bool → Prop} (h : R b) : ∃ k, V.bl b = .bl k ∧ R k := ⟨b, rfl, h⟩
theorem go_not_t {QB : Bool → Hp → Prop} (h : QB false H) : QB (!true) H := h
theorem go_not_f {QB : Bool → Hp → Prop} (h : QB true H) : QB (!false) H := h
theorem go_chain {r r' : R2} (h : ta σ H fun x H1 => tb σ H1 fun y H2 => r x y H2 fun z H3 => ∃ k, z = .bl k ∧ (if k = true then tc σ H3 fun w' H4 => r' y w' H4 Q else Q (.bl false) H3)) : tChain r r' ta tb tc σ H Q := h
/-! ### calls -/
theorem go_CB {r : List V → Hp → VK → Prop} {t : TA} (h : t σ H fun vs H1 => r vs H1 Q) : tCB r t σ H Q := h
theorem go_cons {t : TA} {R : List V → Hp → Prop} (h : ta σ H fun x H1 => t σ H1 fun xs H2 => R (x :: xs) H2) : tCons ta t σ H R := h
theorem go_nil {R : List V → Hp → Prop} (h : R [] H) : tNil σ H R := h
theorem go_call {sp : Sp} {dvs : List V} {E : XK} {t : TA} (h : t σ H fun vs H1 => sp (vs ++ dvs) H1 Q E) : tCall sp dvs E t σ H Q := h
theorem go_isi {K : PySem.W.Frag} {x c : V} {t u : Value} {b : Bool} (k : ClsV c u) (ty : TyX K H x t) (e : PySem.W.kitOne K t u = some b) (h : Q (.bl b) H) : rIsi K [x, c] H Q := ⟨x, c, t, u, b, rfl, k, ty, e, h⟩
theorem go_isiB {K : PySem.W.Frag} {x : V} {a c : String} {b : Bool} (ty : TyX K H x (.type a)) (e : kitB a c = some b) (h : Q (.bl b) H) : rIsi K [x, .ty c] H Q := ⟨x, .ty c, .type a, .type c, b, rfl, .ty c, ty, kit_ty e, h⟩
theorem go_lst {t : TA} (h : t σ H fun vs H1 => vs.length ≤ sizeLine ∧ ∀ l, H1 l = none → Q (.ref l) (upd H1 l (.lst vs))) : tLst t σ H Q := h
theorem go_tup {t : TA} (h : t σ H fun vs H1 => vs.length ≤ sizeLine ∧ ∀ l, H1 l = none → Q (.ref l) (upd H1 l (.tup vs))) : tTup t σ H Q := h
theorem go_sl {r : V → Option Int → Option Int → Hp → VK → Prop} {tlo tho : TO} (h : te σ H fun x H1 => tlo σ H1 fun lo H2 => tho σ H2 fun hi H3 => r x lo hi H3 Q) : tSl r te tlo tho σ H Q := h
theorem go_noPart {R : Option Int → Hp → Prop} (h : R none H) : tNoPart σ H R := h
theorem go_part {R : Option Int → Hp → Prop} (h : te σ H fun x H1 => ∃ i, x = .int i ∧ R (some i) H1) : tPart te σ H R := h
theorem go_partI {a : Int} {R : Int → Prop} (h : R a) : ∃ i, V.int a = .int i ∧ R i := ⟨a, rfl, h⟩
theorem go_slL {K : PySem.W.Frag} {a : Addr} {xs : List V} {lo hi : Option Int} (hs : SqL K H a xs) (h : ∀ p, H p = none → Q (.ref p) (upd H p (.lst (cutV xs lo hi)))) : rSlL K (.ref a) lo hi H Q := ⟨a, xs, rfl, hs, h⟩
theorem go_ixL {K : PySem.W.Frag} {a : Addr} {xs : List V} {k : Int} {v : V} (hs : SqL K H a xs) (e : atI xs k = some v) (h : Q v H) : rIxL K (.ref a) (.int k) H Q := ⟨a, xs, k, v, rfl, rfl, hs, e, h⟩
theorem go_ixT {K : PySem.W.Frag} {a : Addr} {xs : List V} {k : Int} {v : V} (hs : SqT K H a xs) (e : atI xs k = some v) (h : Q v H) : rIxT K (.ref a) (.int k) H Q := ⟨a, xs, k, v, rfl, rfl, hs, e, h⟩
end
/-! ### isinstance of scalars -/
theorem isi_int_int {K : PySem.W.Frag} {H : Hp} {Q : VK} {k : Int} (h : Q (.bl true) H) : rIsi K [(V.int k), .ty "int"] H Q := go_isiB (.base (.int _)) (by decide +kernel) h
theorem isi_int_bool {K : PySem.W.Frag} {H : Hp} {Q : VK} {k : Int} (h : Q (.bl false) H) : rIsi K [(V.int k), .ty "bool"] H Q := go_isiB (.base (.int _)) (by decide +kernel) h
theorem isi_int_str {K : PySem.W.Frag} {H : Hp} {Q : VK} {k : Int} (h : Q (.bl false) H) : rIsi K [(V.int k), .ty "str"] H Q := go_isiB (.base (.int _)) (by decide +kernel) h
theorem isi_int_list {K : PySem.W.Frag} {H : Hp} {Q : VK} {k : Int} (h : Q (.bl false) H) : rIsi K [(V.int k), .ty "list"] H Q := go_isiB (.base (.int _)) (by decide +kernel) h
theorem isi_int_tuple {K : PySem.W.Frag} {H : Hp} {Q : VK} {k : Int} (h : Q (.bl false) H) : rIsi K [(V.int k), .ty "tuple"] H Q := go_isiB (.base (.int _)) (by decide +kernel) h
theorem isi_bool_int {K : PySem.W.Frag} {H : Hp} {Q : VK} {k : Bool} (h : Q (.bl true) H) : rIsi K [(V.bl k), .ty "int"] H Q := go_isiB (.base (.bl _)) (by decide +kernel) h
theorem isi_bool_bool {K : PySem.W.Frag} {H : Hp} {Q : VK} {k : Bool} (h : Q (.bl true) H) : rIsi K [(V.bl k), .ty "bool"] H Q := go_isiB (.base (.bl _)) (by decide +kernel) h
theorem isi_bool_str {K : PySem.W.Frag} {H : Hp} {Q : VK} {k : Bool} (h : Q (.bl false) H) : rIsi K [(V.bl k), .ty "str"] H Q := go_isiB (.base (.bl _)) (by decide +kernel) h
theorem isi_bool_list {K : PySem.W.Frag} {H : Hp} {Q : VK} {k : Bool} (h : Q (.bl false) H) : rIsi K [(V.bl k), .ty "list"] H Q := go_isiB (.base (.bl _)) (by decide +kernel) h
theorem isi_bool_tuple {K : PySem.W.Frag} {H : Hp} {Q : VK} {k : Bool} (h : Q (.bl false) H) : rIsi K [(V.bl k), .ty "tuple"] H Q := go_isiB (.base (.bl _)) (by decide +kernel) h
theorem isi_str_int {K : PySem.W.Frag} {H : Hp} {Q : VK} {k : Str} (h : Q (.bl false) H) : rIsi K [(V.str k), .ty "int"] H Q := go_isiB (.base (.str _)) (by decide +kernel) h
theorem isi_str_bool {K : PySem.W.Frag} {H : Hp} {Q : VK} {k : Str} (h : Q (.bl false) H) : rIsi K [(V.str k), .ty "bool"] H Q := go_isiB (.base (.str _)) (by decide +kernel) h
theorem isi_str_str {K : PySem.W.Frag} {H : Hp} {Q : VK} {k : Str} (h : Q (.bl true) H) : rIsi K [(V.str k), .ty "str"] H Q := go_isiB (.base (.str _)) (by decide +kernel) h
theorem isi_str_list {K : PySem.W.Frag} {H : Hp} {Q : VK} {k : Str} (h : Q (.bl false) H) : rIsi K [(V.str k), .ty "list"] H Q := go_isiB (.base (.str _)) (by decide +kernel) h
theorem isi_str_tuple {K : PySem.W.Frag} {H : Hp} {Q : VK} {k : Str} (h : Q (.bl false) H) : rIsi K [(V.str k), .ty "tuple"] H Q := go_isiB (.base (.str _)) (by decide +kernel) h
theorem isi_NoneType_int {K : PySem.W.Frag} {H : Hp} {Q : VK} (h : Q (.bl false) H) : rIsi K [V.non, .ty "int"] H Q := go_isiB (.base .non) (by decide +kernel) h
theorem isi_NoneType_bool {K : PySem.W.Frag} {H : Hp} {Q : VK} (h : Q (.bl false) H) : rIsi K [V.non, .ty "bool"] H Q := go_isiB (.base .non) (by decide +kernel) h
theorem isi_NoneType_str {K : PySem.W.Frag} {H : Hp} {Q : VK} (h : Q (.bl false) H) : rIsi K [V.non, .ty "str"] H Q := go_isiB (.base .non) (by decide +kernel) h
theorem isi_NoneType_list {K : PySem.W.Frag} {H : Hp} {Q : VK} (h : Q (.bl false) H) : rIsi K [V.non, .ty "list"] H Q := go_isiB (.base .non) (by decide +kernel) h
theorem isi_NoneType_tuple {K : PySem.W.Frag} {H : Hp} {Q : VK} (h : Q (.bl false) H) : rIsi K [V.non, .ty "tuple"] H Q := go_isiB (.base .non) (by decide +kernel) h
theorem isi_list_int {K : PySem.W.Frag} {H : Hp} {Q : VK} {p : Addr} {xs : List V} (e : H p = some (.lst xs)) (h : Q (.bl false) H) : rIsi K [.ref p, .ty "int"] H Q := go_isiB (.base (.lst e)) (by decide +kernel) h
theorem isi_list_bool {K : PySem.W.Frag} {H : Hp} {Q : VK} {p : Addr} {xs : List V} (e : H p = some (.lst xs)) (h : Q (.bl false) H) : rIsi K [.ref p, .ty "bool"] H Q := go_isiB (.base (.lst e)) (by decide +kernel) h
theorem isi_list_str {K : PySem.W.Frag} {H : Hp} {Q : VK} {p : Addr} {xs : List V} (e : H p = some (.lst xs)) (h : Q (.bl false) H) : rIsi K [.ref p, .ty "str"] H Q := go_isiB (.base (.lst e)) (by decide +kernel) h
theorem isi_list_list {K : PySem.W.Frag} {H : Hp} {Q : VK} {p : Addr} {xs : List V} (e : H p = some (.lst xs)) (h : Q (.bl true) H) : rIsi K [.ref p, .ty "list"] H Q := go_isiB (.base (.lst e)) (by decide +kernel) h
theorem isi_list_tuple {K : PySem.W.Frag} {H : Hp} {Q : VK} {p : Addr} {xs : List V} (e : H p = some (.lst xs)) (h : Q (.bl false) H) : rIsi K [.ref p, .ty "tuple"] H Q := go_isiB (.base (.lst e)) (by decide +kernel) h
theorem isi_tuple_int {K : PySem.W.Frag} {H : Hp} {Q : VK} {p : Addr} {xs : List V} (e : H p = some (.tup xs)) (h : Q (.bl false) H) : rIsi K [.ref p, .ty "int"] H Q := go_isiB (.base (.tup e)) (by decide +kernel) h
theorem isi_tuple_bool {K : PySem.W.Frag} {H : Hp} {Q : VK} {p : Addr} {xs : List V} (e : H p = some (.tup xs)) (h : Q (.bl false) H) : rIsi K [.ref p, .ty "bool"] H Q := go_isiB (.base (.tup e)) (by decide +kernel) h
theorem isi_tuple_str {K : PySem.W.Frag} {H : Hp} {Q : VK} {p : Addr} {xs : List V} (e : H p = some (.tup xs)) (h : Q (.bl false) H) : rIsi K [.ref p, .ty "str"] H Q := go_isiB (.base (.tup e)) (by decide +kernel) h
theorem isi_tuple_list {K : PySem.W.Frag} {H : Hp} {Q : VK} {p : Addr} {xs : List V} (e : H p = some (.tup xs)) (h : Q (.bl false) H) : rIsi K [.ref p, .ty "list"] H Q := go_isiB (.base (.tup e)) (by decide +kernel) h
theorem isi_tuple_tuple {K : PySem.W.Frag} {H : Hp} {Q : VK} {p : Addr} {xs : List V} (e : H p = some (.tup xs)) (h : Q (.bl true) H) : rIsi K [.ref p, .ty "tuple"] H Q := go_isiB (.base (.tup e)) (by decide +kernel) h
section
variable {D : Ends} {σ : L2.St} {H : Hp} {t u c : TS} {te ta tb tc tl th : TE} {i : Nat} {Q : VK} {QB : Bool → Hp → Prop}
/-! ### what a test comes to -/
theorem ite_d {p : Prop} [Decidable p] {A B : Prop} (h1 : p → A) (h2 : ¬ p → B) : if decide p = true then A else B := by
  by_cases h : p
  · rw [decide_eq_true h]; exact h1 h
  · rw [decide_eq_false h]; exact h2 h
theorem ite_nd {p : Prop} [Decidable p] {A B : Prop} (h1 : ¬ p → A) (h2 : p → B) : if (!decide p) = true then A else B := by
  by_cases h : p
  · rw [decide_eq_true h]; exact h2 h
  · rw [decide_eq_false h]; exact h1 h
theorem ite_nt {A B : Prop} (h : B) : if (!true) = true then A else B := h
theorem ite_nf {A B : Prop} (h : A) : if (!false) = true then A else B := h
theorem ite_b {b : Bool} {A B : Prop} (h1 : b = true → A) (h2 : b = false → B) : if b = true then A else B := by
  cases b with
  | true => exact h1 rfl
  | false => exact h2 rfl
end
/-! ### readings by name -/
section
variable {X : Cx} {H : Hp} {Q : VK} {K : PySem.W.Frag}
def qInt1 : List V → Hp → VK → Prop := fun xs H Q => (∃ i, xs = [.int i] ∧ Q (.int i) H) ∨ ∃ k, xs = [.bl k] ∧ Q (.int (if k then 1 else 0)) H
theorem k_int1 : CallR X (.type "int") qInt1 := call_int1
theorem go_int1 {a : Int} (h : Q (.int a) H) : qInt1 [.int a] H Q := .inl ⟨a, rfl, h⟩
theorem go_intB {b : Bool} (h : Q (.int (if b then 1 else 0)) H) : qInt1 [.bl b] H Q := .inr ⟨b, rfl, h⟩
def qBool1 : List V → Hp → VK → Prop := fun xs H Q => (∃ i, xs = [.int i] ∧ Q (.bl (i != 0)) H) ∨ ∃ k, xs = [.bl k] ∧ Q (.bl k) H
theorem k_bool1 : CallR X (.type "bool") qBool1 := call_bool1
theorem go_bool1 {a : Int} (h : Q (.bl (a != 0)) H) : qBool1 [.int a] H Q := .inl ⟨a, rfl, h⟩
theorem go_boolB {b : Bool} (h : Q (.bl b) H) : qBool1 [.bl b] H Q := .inr ⟨b, rfl, h⟩
def qStrInt : List V → Hp → VK → Prop := fun xs H Q => ∃ i, xs = [.int i] ∧ i.natAbs.log2 < 1920 ∧ Q (.str (toString i)) H
theorem k_str_int : CallR X (.type "str") qStrInt := call_str_int
theorem go_str_int {a : Int} (ha : a.natAbs.log2 < 1920) (h : Q (.str (toString a)) H) : qStrInt [.int a] H Q := ⟨a, rfl, ha, h⟩
def qAbs : List V → Hp → VK → Prop := fun xs H Q => ∃ i, xs = [.int i] ∧ Q (.int (if i < 0 then -i else i)) H
theorem k_abs : CallR X (.builtin "abs") qAbs := call_abs
theorem go_abs {a : Int} (h : Q (.int (if a < 0 then -a else a)) H) : qAbs [.int a] H Q := ⟨a, rfl, h⟩
def qMax2 : List V → Hp → VK → Prop := fun xs H Q => ∃ i j, xs = [.int i, .int j] ∧ Q (.int (if j > i then j else i)) H
theorem k_max2 (hc : X.calm = true) : CallR X (.builtin "max") qMax2 := call_max2 hc
theorem go_max2 {a b : Int} (h : Q (.int (if b > a then b else a)) H) : qMax2 [.int a, .int b] H Q := ⟨a, b, rfl, h⟩
def qMin2 : List V → Hp → VK → Prop := fun xs H Q => ∃ i j, xs = [.int i, .int j] ∧ Q (.int (if j < i then j else i)) H
theorem k_min2 (hc : X.calm = true) : CallR X (.builtin "min") qMin2 := call_min2 hc
theorem go_min2 {a b : Int} (h : Q (.int (if b < a then b else a)) H) : qMin2 [.int a, .int b] H Q := ⟨a, b, rfl, h⟩
def qOrd : List V → Hp → VK → Prop := fun xs H Q => ∃ x, xs = [.str x] ∧ x.length = 1 ∧ Q (.int (x.cps.getD 0 0 : Nat)) H
theorem k_ord : CallR X (.builtin "ord") qOrd := call_ord
theorem go_ord {c : Nat} (h : Q (.int (c : Nat)) H) : qOrd [.str ⟨#[c]⟩] H Q := ⟨⟨#[c]⟩, rfl, rfl, h⟩
def qLen (K : PySem.W.Frag) : List V → Hp → VK → Prop := fun xs H Q => ∃ x n, xs = [x] ∧ LenV K x H n ∧ Q (.int n) H
theorem k_len : CallR X (.builtin "len") (qLen X.K) := call_len
theorem go_lenL {a : Addr} {xs : List V} (hs : SqL K H a xs) (h : Q (.int (xs.length : Nat)) H) : qLen K [.ref a] H Q := ⟨.ref a, xs.length, rfl, .inl ⟨xs, hs, rfl⟩, h⟩
theorem go_lenT {a : Addr} {xs : List V} (hs : SqT K H a xs) (h : Q (.int (xs.length : Nat)) H) : qLen K [.ref a] H Q := ⟨.ref a, xs.length, rfl, .inr ⟨xs, hs, rfl⟩, h⟩
theorem go_lenS {y : Str} (hz : y.length ≤ sizeLine) (h : Q (.int (y.length : Nat)) H) : qLen K [.str y] H Q := ⟨.str y, y.length, rfl, ⟨hz, rfl⟩, h⟩
def qListOf (K : PySem.W.Frag) : List V → Hp → VK → Prop := fun xs H Q => ∃ p ys, xs = [.ref p] ∧ (SqL K H p ys ∨ SqT K H p ys) ∧ ∀ l, H l = none → Q (.ref l) (upd H l (.lst ys))
theorem k_list_of : CallR X (.type "list") (qListOf X.K) := call_list_of
theorem go_listOfL {a : Addr} {xs : List V} (hs : SqL K H a xs) (h : ∀ l, H l = none → Q (.ref l) (upd H l (.lst xs))) : qListOf K [.ref a] H Q := ⟨a, xs, rfl, .inl hs, h⟩
theorem go_listOfT {a : Addr} {xs : List V} (hs : SqT K H a xs) (h : ∀ l, H l = none → Q (.ref l) (upd H l (.lst xs))) : qListOf K [.ref a] H Q := ⟨a, xs, rfl, .inr hs, h⟩
def qTupOf (K : PySem.W.Frag) : List V → Hp → VK → Prop := fun xs H Q => ∃ p ys, xs = [.ref p] ∧ ((SqL K H p ys ∧ ∀ l, H l = none → Q (.ref l) (upd H l (.tup ys))) ∨ (SqT K H p ys ∧ Q (.ref p) H))
theorem k_tuple_of : CallR X (.type "tuple") (qTupOf X.K) := call_tuple_of
theorem go_tupOfL {a : Addr} {xs : List V} (hs : SqL K H a xs) (h : ∀ l, H l = none → Q (.ref l) (upd H l (.tup xs))) : qTupOf K [.ref a] H Q := ⟨a, xs, rfl, .inl ⟨hs, h⟩⟩
theorem go_tupOfT {a : Addr} {xs : List V} (hs : SqT K H a xs) (h : Q (.ref a) H) : qTupOf K [.ref a] H Q := ⟨a, xs, rfl, .inr ⟨hs, h⟩⟩
theorem go_sum {a : Addr} {ns : List Int} (hs : SqL K H a (ns.map V.int)) (h : Q (.int ns.sum) H) : rSum K [.ref a] H Q := ⟨a, ns, rfl, hs, h⟩
theorem go_all {a : Addr} {bs : List Bool} (hs : SqL K H a (bs.map V.bl)) (h : Q (.bl (bs.all id)) H) : rAll K [.ref a] H Q := ⟨a, bs, rfl, hs, h⟩
theorem go_any {a : Addr} {bs : List Bool} (hs : SqL K H a (bs.map V.bl)) (h : Q (.bl (bs.any id)) H) : rAny K [.ref a] H Q := ⟨a, bs, rfl, hs, h⟩
def qIsN : R2 := fun x y H Q => y = .non ∧ Q (.bl (decide (x = .non))) H
theorem o_isN : OpR X (compareOp .Is) qIsN := op_isN
def qNotN : R2 := fun x y H Q => y = .non ∧ Q (.bl (!decide (x = .non))) H
theorem o_notN : OpR X (compareOp .IsNot) qNotN := op_notN
theorem go_isN0 (h : Q (.bl true) H) : qIsN .non .non H Q := ⟨rfl, by simpa using h⟩
theorem go_isNI {i : Int} (h : Q (.bl false) H) : qIsN (.int i) .non H Q := ⟨rfl, by simpa using h⟩
theorem go_isNS {i : Str} (h : Q (.bl false) H) : qIsN (.str i) .non H Q := ⟨rfl, by simpa using h⟩
theorem go_isNB {i : Bool} (h : Q (.bl false) H) : qIsN (.bl i) .non H Q := ⟨rfl, by simpa using h⟩
theorem go_isNR {i : Addr} (h : Q (.bl false) H) : qIsN (.ref i) .non H Q := ⟨rfl, by simpa using h⟩
theorem go_notN0 (h : Q (.bl false) H) : qNotN .non .non H Q := ⟨rfl, by simpa using h⟩
theorem go_notNI {i : Int} (h : Q (.bl true) H) : qNotN (.int i) .non H Q := ⟨rfl, by simpa using h⟩
theorem go_notNS {i : Str} (h : Q (.bl true) H) : qNotN (.str i) .non H Q := ⟨rfl, by simpa using h⟩
theorem go_notNB {i : Bool} (h : Q (.bl true) H) : qNotN (.bl i) .non H Q := ⟨rfl, by simpa using h⟩
theorem go_notNR {i : Addr} (h : Q (.bl true) H) : qNotN (.ref i) .non H Q := ⟨rfl, by simpa using h⟩
def qLtS : R2 := fun x y H Q => ∃ i j, x = .str i ∧ y = .str j ∧ Q (.bl (decide (i.cps.toList < j.cps.toList))) H
theorem o_lt_str : OpR X (compareOp .Lt) qLtS := op_lt_str
theorem go_ltS {a b : Str} (h : Q (.bl (decide (a.cps.toList < b.cps.toList))) H) : qLtS (.str a) (.str b) H Q := ⟨a, b, rfl, rfl, h⟩
def qLeS : R2 := fun x y H Q => ∃ i j, x = .str i ∧ y = .str j ∧ Q (.bl (!decide (j.cps.toList < i.cps.toList))) H
theorem o_le_str : OpR X (compareOp .LtE) qLeS := op_le_str
theorem go_leS {a b : Str} (h : Q (.bl (!decide (b.cps.toList < a.cps.toList))) H) : qLeS (.str a) (.str b) H Q := ⟨a, b, rfl, rfl, h⟩
def qAddS : R2 := fun x y H Q => ∃ i j, x = .str i ∧ y = .str j ∧ i.length + j.length ≤ sizeLine ∧ Q (.str (i ++ j)) H
theorem o_add_str : OpR X (binaryOp .Add) qAddS := op_add_str
theorem go_addS {a b : Str} (hz : a.length + b.length ≤ sizeLine) (h : Q (.str (a ++ b)) H) : qAddS (.str a) (.str b) H Q := ⟨a, b, rfl, rfl, hz, h⟩
theorem go_cat {l b : Addr} {xs zs : List V} (h1 : H l = some (.lst xs)) (h2 : H b = some (.lst zs)) (hz : xs.length + zs.length ≤ sizeLine) (h : ∀ p, H p = none → Q (.ref p) (upd H p (.lst (xs ++ zs)))) : rCat (.ref l) (.ref b) H Q := ⟨l, b, xs, zs, rfl, rfl, h1, h2, hz, h⟩
theorem go_slS {z : Str} {lo hi : Option Int} (hz : z.length ≤ sizeLine) (h : Q (.str (cutS z lo hi)) H) : rSlS (.str z) lo hi H Q := ⟨z, rfl, hz, h⟩
theorem go_ixS {z : Str} {i : Int} {c : Nat} (hz : z.length ≤ sizeLine) (e : atI z.cps.toList i = some c) (h : Q (.str ⟨#[c]⟩) H) : rIxS (.str z) (.int i) H Q := ⟨z, i, c, rfl, rfl, hz, e, h⟩
theorem go_append {l : Addr} {xs : List V} {y : V} (e : H l = some (.lst xs)) (hz : xs.length < sizeLine) (h : Q .non (upd H l (.lst (xs ++ [y])))) : rAppend (.ref l) [y] H Q := ⟨l, xs, y, rfl, rfl, e, hz, h⟩
theorem go_BM {T : String} {r : V → List V → Hp → VK → Prop} {to : TE} {t : TA} {σ : L2.St} (h : to σ H fun x H1 => tyV K T x H1 ∧ t σ H1 fun xs H2 => r x xs H2 Q) : tBM K T r to t σ H Q := h
theorem go_BM0 {T : String} {r : V → List V → Hp → VK → Prop} {to : TE} {σ : L2.St} (h : to σ H fun x H1 => tyV K T x H1 ∧ r x [] H1 Q) : tBM0 K T r to σ H Q := h
end
/-! ### rules within a comprehension: the written part told apart -/
section
variable {X : Cx} {K : PySem.W.Frag} {e : Expr} {ta : TE} {f : Str} {pos : Pos}
theorem pe_fldK (hK : X.K = K) (he : PE X e ta) (hb : attributeBase e f X.env (eval e X.env) = eval e X.env) : PE X (.Attribute e f pos) (tFld K ta f) := by subst hK; exact pe_fld he hb
theorem ix_listK (hK : X.K = K) : IxR X (rIxL K) := by subst hK; exact ix_list
theorem ix_tupK (hK : X.K = K) : IxR X (rIxT K) := by subst hK; exact ix_tup
theorem ix_seqK (hK : X.K = K) : IxR X (rIx K) := by subst hK; exact ix_seq
theorem sl_listK (hK : X.K = K) : SlR X (rSlL K) := by subst hK; exact sl_list
theorem k_lenK (hK : X.K = K) : CallR X (.builtin "len") (qLen K) := by subst hK; exact k_len
theorem call_isiK (hK : X.K = K) : CallR X (.builtin "isinstance") (rIsi K) := by subst hK; exact call_isi
theorem k_list_ofK (hK : X.K = K) : CallR X (.type "list") (qListOf K) := by subst hK; exact k_list_of
theorem k_tuple_ofK (hK : X.K = K) : CallR X (.type "tuple") (qTupOf K) := by subst hK; exact k_tuple_of
theorem cr_sumK (hK : X.K = K) (hc : X.calm = true) : CallR X (.builtin "sum") (rSum K) := by subst hK; exact cr_sum hc
theorem cr_allK (hK : X.K = K) (hc : X.calm = true) : CallR X (.builtin "all") (rAll K) := by subst hK; exact cr_all hc
theorem cr_anyK (hK : X.K = K) (hc : X.calm = true) : CallR X (.builtin "any") (rAny K) := by subst hK; exact cr_any hc
theorem op_in_seqK (hK : X.K = K) : OpR X (compareOp .In) (rIn K false) := by subst hK; exact op_in_seq
theorem op_notIn_seqK (hK : X.K = K) : OpR X (compareOp .NotIn) (rIn K true) := by subst hK; exact op_notIn_seq
theorem op_eqDK (hK : X.K = K) (hu : X.A.units + 64 < cLine) : OpR X (compareOp .Eq) (rEqD K) := by subst hK; exact op_eqD hu
theorem op_neDK (hK : X.K = K) (hu : X.A.units + 64 < cLine) : OpR X (compareOp .NotEq) (rNeD K) := by subst hK; exact op_neD hu
end
/-! ### heaps -/
theorem same_new {H : Hp} {p : Addr} {o : HO} (h : H p = none) : Same H (upd H p o) := fun b x e => by
  rw [upd_ne (ne_of_none e h)]
  exact e
/-- an object that H does not know may change -/
theorem same_mut {H H' : Hp} {p : Addr} {o : HO} (e : Same H H') (h : H p = none) : Same H (upd H' p o) := fun a u ha => by
  rw [upd_ne (ne_of_none ha h)]
  exact e a u ha
theorem same_sqL {K : PySem.W.Frag} {H H' : Hp} {a : Addr} {xs : List V} (e : Same H H') (h : SqL K H a xs) : SqL K H' a xs := e.seq h
theorem same_rd {H H' : Hp} {a : Addr} {u : HO} (e : Same H H') (h : Rd H a u) : Rd H' a u := by
  rcases h with h | ⟨o, h⟩
  · exact Or.inl (e a _ h)
  · exact Or.inr ⟨o, e a _ h⟩
theorem same_sqT {K : PySem.W.Frag} {H H' : Hp} {a : Addr} {xs : List V} (e : Same H H') (h : SqT K H a xs) : SqT K H' a xs := by
  rcases h with h | h
  · exact Or.inl (same_rd e h)
  · exact Or.inr h
theorem sz {n : Nat} (h : n ≤ 100000) : n ≤ sizeLine := Nat.le_trans h (by decide)
theorem szlt {n : Nat} (h : n ≤ 100000) : n < sizeLine := Nat.lt_of_le_of_lt h (by decide)
/-- the list of ints at a place in bounds -/
theorem at_nat {xs : List V} {i : Nat} {v : V} (h : xs[i]? = some v) : atI xs (i : Int) = some v := atI_nat h
theorem at_int {ns : List Int} {k : Int} (h0 : 0 ≤ k) (h : k < ns.length) : atI (ns.map V.int) k = some (.int (ns.getD k.toNat 0)) := by
  have e : k = (k.toNat : Int) := by omega
  have h2 : k.toNat < ns.length := by omega
  rw [e]
  refine at_nat ?_
  rw [List.getElem?_map, Int.toNat_natCast, List.getElem?_eq_getElem h2, List.getD_eq_getElem?_getD, List.getElem?_eq_getElem h2]
  rfl
/-! ### lists of ints: ==, slices, sums -/
theorem dp_ints {K : PySem.W.Frag} {H : Hp} : ∀ ns : List Int, DpAll K H (ns.map V.int) (ns.map PyData.int)
  | [] => .nil
  | n :: r => .cons (.int n) (dp_ints r)
theorem eqv_int (a b : Int) : PyData.eqv (.int a) (.int b) = decide (a = b) := by
  simp only [PyData.eqv]
  by_cases h : a = b
  · simp [h]
  · simp [h]
theorem eqvAll_ints : ∀ xs ys : List Int, PyData.eqvAll (xs.map PyData.int) (ys.map PyData.int) = decide (xs = ys)
  | [], [] => by simp [PyData.eqvAll]
  | [], _ :: _ => by simp [PyData.eqvAll]
  | _ :: _, [] => by simp [PyData.eqvAll]
  | x :: xs, y :: ys => by
    simp only [List.map_cons, PyData.eqvAll, eqv_int, eqvAll_ints xs ys]
    by_cases h : x = y <;> by_cases h2 : xs = ys <;> simp [h, h2]
theorem eqv_ints (xs ys : List Int) : PyData.eqv (.list (xs.map PyData.int)) (.list (ys.map PyData.int)) = decide (xs = ys) := by
  rw [PyData.eqv]
  exact eqvAll_ints xs ys
theorem depth_ints : ∀ xs : List Int, PyData.depthAll (xs.map PyData.int) = 0
  | [] => rfl
  | x :: xs => by
    rw [List.map_cons]
    unfold PyData.depthAll
    rw [depth_ints xs]
    rfl
theorem canLay_ints : ∀ xs : List Int, PyData.canLayAll0 (xs.map PyData.int) = true
  | [] => rfl
  | x :: xs => by
    rw [List.map_cons]
    simp only [PyData.canLayAll0, PyData.canLay0, canLay_ints xs, Bool.and_self]
theorem shaped_ints (xs : List Int) : SeqAt.shaped (.list (xs.map PyData.int)) = true := by
  unfold SeqAt.shaped
  have h1 : PyData.canLay0 (.list (xs.map PyData.int)) = true := by
    simp only [PyData.canLay0]
    exact canLay_ints xs
  have h2 : PyData.depth (.list (xs.map PyData.int)) ≤ 64 := by
    unfold PyData.depth
    rw [depth_ints xs]
    decide
  rw [h1, decide_eq_true h2]
  rfl
theorem go_eqInts {K : PySem.W.Frag} {H : Hp} {Q : VK} {a b : Addr} {xs ys : List Int} (h1 : SqL K H a (xs.map V.int)) (h2 : SqL K H b (ys.map V.int)) (h : Q (.bl (decide (xs = ys))) H) : rEqD K (.ref a) (.ref b) H Q :=
  ⟨_, _, .lst h1 (dp_ints xs), .lst h2 (dp_ints ys), shaped_ints xs, shaped_ints ys, by rw [eqv_ints]; exact h⟩
theorem go_neInts {K : PySem.W.Frag} {H : Hp} {Q : VK} {a b : Addr} {xs ys : List Int} (h1 : SqL K H a (xs.map V.int)) (h2 : SqL K H b (ys.map V.int)) (h : Q (.bl (!decide (xs = ys))) H) : rNeD K (.ref a) (.ref b) H Q :=
  ⟨_, _, .lst h1 (dp_ints xs), .lst h2 (dp_ints ys), shaped_ints xs, shaped_ints ys, by rw [eqv_ints]; exact h⟩
theorem cut_to (xs : List V) (k : Nat) : cutV xs none (some (k : Int)) = xs.take k := by
  unfold cutV
  rw [HT.sIx_none, HT.sIx_nat, List.drop_zero, Nat.sub_zero]
  rcases Nat.le_total k xs.length with h | h
  · rw [Nat.min_eq_left h]
  · rw [Nat.min_eq_right h, List.take_of_length_le (Nat.le_refl _), List.take_of_length_le h]
theorem cut_from (xs : List V) (k : Nat) : cutV xs (some (k : Int)) none = xs.drop k := by
  unfold cutV
  rw [HT.sIx_none, HT.sIx_nat]
  rcases Nat.le_total k xs.length with h | h
  · rw [Nat.min_eq_left h, List.take_of_length_le]
    rw [List.length_drop]
    exact Nat.le_refl _
  · rw [Nat.min_eq_right h, List.drop_of_length_le (Nat.le_refl _), List.drop_of_length_le h, List.take_nil]
theorem sum_take_succ (ws : List Int) (i : Nat) (h : i < ws.length) : (ws.take (i + 1)).sum = (ws.take i).sum + ws.getD i 0 := by
  rw [List.take_add_one, List.getElem?_eq_getElem h, List.sum_append, List.getD_eq_getElem?_getD, List.getElem?_eq_getElem h]
  simp
theorem sum_nonneg : ∀ {ws : List Int}, (∀ w ∈ ws, 0 ≤ w) → 0 ≤ ws.sum
  | [], _ => by simp
  | w :: r, h => by
    have h1 := h w (by simp)
    have h2 := sum_nonneg (ws := r) fun z hz => h z (by simp [hz])
    rw [List.sum_cons]
    omega
theorem sum_take_le {ws : List Int} (h : ∀ w ∈ ws, 0 ≤ w) (i : Nat) : (ws.take i).sum ≤ ws.sum := by
  have e := congrArg List.sum (List.take_append_drop i ws)
  rw [List.sum_append] at e
  have h2 := sum_nonneg (ws := ws.drop i) fun z hz => h z (List.mem_of_mem_drop hz)
  omega
/-- min, max as they are told -/
theorem lt_of_len {a b : Nat} (h : a < b) : (a : Int) < (b : Int) := by omega
/-! ### list comprehensions whose element changes nothing that stood -/
section
variable {K : PySem.W.Frag} {σ : L2.St} {H H1 : Hp} {Q : VK} {tl te : TE} {g : TG} {tt : TT} {vs : List Nat} {j : Nat} {wi : TI}
theorem go_iList {R : It → Hp → Prop} (h : tl σ H fun x H1 => ∃ a, x = .ref a ∧ (∃ xs, SqL K H1 a xs) ∧ R (Itl K a) H1) : iList K tl σ H R := h
theorem go_iListR {a : Addr} {xs : List V} {R : Addr → Prop} (hs : SqL K H a xs) (h : R a) : ∃ b, V.ref a = .ref b ∧ (∃ xs, SqL K H b xs) ∧ R b := ⟨a, rfl, ⟨xs, hs⟩, h⟩
theorem go_iRng1 {ta : TA} {R : It → Hp → Prop} (h : ta σ H fun vs H1 => ∃ j : Int, vs = [.int j] ∧ -(2 ^ 62) ≤ j ∧ j < 2 ^ 62 ∧ R (Itr 0 j.toNat) H1) : iRng1 ta σ H R := h
theorem go_iRng2 {ta : TA} {R : It → Hp → Prop} (h : ta σ H fun vs H1 => ∃ i j : Int, vs = [.int i, .int j] ∧ (-(2 ^ 62) ≤ i ∧ i < 2 ^ 62 ∧ -(2 ^ 62) ≤ j ∧ j < 2 ^ 62) ∧ R (Itr i (j - i).toNat) H1) : iRng2 ta σ H R := h
theorem go_rng1 {n : Int} {R : It → Hp → Prop} (hn : -(2 ^ 62) ≤ n ∧ n < 2 ^ 62) (h : R (Itr 0 n.toNat) H) : ∃ j : Int, [V.int n] = [.int j] ∧ -(2 ^ 62) ≤ j ∧ j < 2 ^ 62 ∧ R (Itr 0 j.toNat) H := ⟨n, rfl, hn.1, hn.2, h⟩
theorem go_rng2 {m n : Int} {R : It → Hp → Prop} (hm : -(2 ^ 62) ≤ m ∧ m < 2 ^ 62 ∧ -(2 ^ 62) ≤ n ∧ n < 2 ^ 62) (h : R (Itr m (n - m).toNat) H) :
    ∃ i j : Int, [V.int m, V.int n] = [.int i, .int j] ∧ (-(2 ^ 62) ≤ i ∧ i < 2 ^ 62 ∧ -(2 ^ 62) ≤ j ∧ j < 2 ^ 62) ∧ R (Itr i (j - i).toNat) H := ⟨m, n, rfl, hm, h⟩
theorem go_yes {QB : Bool → Hp → Prop} (h : QB true H) : tYes σ H QB := h
theorem go_lc (h : wi σ H fun J H1 => ∀ D, H1 D = none → ∃ W : Nat → Nat → Hp → Prop, (∃ m, W 0 m (upd H1 D (.lst []))) ∧ ∀ i m H, W i m H →
  (J.stop i H ∧ Q (.ref D) H) ∨ (J.go i H ∧ ∃ Nx : Hp → Prop, (∀ H', Nx H' → ∃ m', m' < m ∧ W (i + 1) m' H') ∧ ∀ x H', J.yld i H x H' → g x (wipe σ vs) H' fun σ2 H2 => wipe σ2 vs = wipe σ vs ∧ tt σ2 H2 fun b H3 =>
    if b = true then te σ2 H3 fun y H4 => ∃ acc, H4 D = some (.lst acc) ∧ acc.length < sizeLine ∧ Nx (upd H4 D (.lst (acc ++ [y]))) else Nx H3)) : tLc wi g tt te vs σ H Q := h
theorem go_for {D : Ends} {tb : TS} (h : wi σ H fun J H1 => ∃ W : Nat → Nat → L2.St → Hp → Prop, (∃ m, W 0 m σ H1) ∧ ∀ i m σ H, W i m σ H →
  (J.stop i H ∧ D.nx σ H) ∨ (J.go i H ∧ ∃ N : L2.St → Hp → Prop, (∀ σ' H', N σ' H' → ∃ m', m' < m ∧ W (i + 1) m' σ' H') ∧ ∀ x H', J.yld i H x H' → g x σ H' fun σ2 H2 => tb { D with nx := N, ct := N, bk := D.nx } σ2 H2)) : tFor wi g tb D σ H := h
/-- what is in the list being made: all of them so, and all else as it was -/
structure Acc (P : Nat → V → Prop) (H : Hp) (D : Addr) (i : Nat) (H' : Hp) : Prop where
  made : ∃ ys : List V, H' D = some (.lst ys) ∧ ys.length = i ∧ ∀ k y, ys[k]? = some y → P k y
  same : Same H H'
theorem acc_step {P : Nat → V → Prop} {H H' : Hp} {D : Addr} {i : Nat} {y : V} (hD : H D = none) (a : Acc P H D i H') (hy : P i y) (hi : i < 100000) : ∃ acc, H' D = some (.lst acc) ∧ acc.length < sizeLine ∧ Acc P H D (i + 1) (upd H' D (.lst (acc ++ [y]))) := by
  obtain ⟨⟨ys, e, hl, hp⟩, hs⟩ := a
  refine ⟨ys, e, szlt (by omega), ⟨ys ++ [y], upd_same, by simp [hl], fun k z hz => ?_⟩, same_mut hs hD⟩
  rcases Nat.lt_or_ge k ys.length with h | h
  · rw [List.getElem?_append_left h] at hz
    exact hp k z hz
  · rw [List.getElem?_append_right h] at hz
    rcases Nat.eq_or_lt_of_le h with e2 | e2
    · rw [← e2, Nat.sub_self] at hz
      cases hz
      rw [← e2, hl]
      exact hy
    · rw [List.getElem?_eq_none (by simp; omega)] at hz
      cases hz
theorem Acc.keep {P : Nat → V → Prop} {H H' H2 : Hp} {D : Addr} {i : Nat} (a : Acc P H D i H') (s : Same H' H2) : Acc P H D i H2 := by
  obtain ⟨⟨ys, e, hl, hp⟩, hs⟩ := a
  exact ⟨⟨ys, s _ _ e, hl, hp⟩, hs.trans s⟩
/-- [e for x in a list], behind the list's reading -/
theorem lcL {R : Addr → Hp → Prop} {a : Addr} (xs : List V) (P : Nat → V → Prop) (hs : SqL K H1 a xs) (hz : xs.length ≤ 100000) (hw : ∀ x, wipe ((wipe σ vs).set j x) vs = wipe σ vs)
    (he : ∀ (i : Nat) x H', xs[i]? = some x → Same H1 H' → ∀ R : VK, (∀ y H'', Same H' H'' → P i y → R y H'') → te ((wipe σ vs).set j (some x)) H' R)
    (q : ∀ D (ys : List V) H2, H1 D = none → Same H1 H2 → H2 D = some (.lst ys) → ys.length = xs.length → (∀ k y, ys[k]? = some y → P k y) → R D H2) :
    ∃ b, V.ref a = .ref b ∧ (∃ xs, SqL K H1 b xs) ∧ ∀ D, H1 D = none → ∃ W : Nat → Nat → Hp → Prop, (∃ m, W 0 m (upd H1 D (.lst []))) ∧ ∀ i m H, W i m H →
      ((Itl K b).stop i H ∧ R D H) ∨ ((Itl K b).go i H ∧ ∃ Nx : Hp → Prop, (∀ H', Nx H' → ∃ m', m' < m ∧ W (i + 1) m' H') ∧ ∀ x H', (Itl K b).yld i H x H' → gName j x (wipe σ vs) H' fun σ2 H2 => wipe σ2 vs = wipe σ vs ∧ tYes σ2 H2 fun b H3 =>
        if b = true then te σ2 H3 fun y H4 => ∃ acc, H4 D = some (.lst acc) ∧ acc.length < sizeLine ∧ Nx (upd H4 D (.lst (acc ++ [y]))) else Nx H3) := by
  refine ⟨a, rfl, ⟨xs, hs⟩, fun D hD => ?_⟩
  refine lc_list (xs := xs) (Acc P H1 D) ⟨⟨[], upd_same, rfl, fun k y h => by simp at h⟩, same_new hD⟩ (fun i H _ p => same_sqL p.same hs) (fun i x H hx p => ?_) fun H p => ?_
  · refine ⟨hw _, ?_⟩
    refine go_yes ?_
    refine iteT ?_
    refine he i x H hx p.same _ fun y H4 s4 hy => ?_
    have hi := (List.getElem?_eq_some_iff.mp hx).1
    exact acc_step hD (p.keep s4) hy (by omega)
  · obtain ⟨⟨ys, e, hl, hp⟩, s⟩ := p
    exact q D ys H hD s e hl hp
/-- [e for x in range(n)], behind the reading of n -/
theorem lcR1 {R : Addr → Hp → Prop} {n : Int} (P : Nat → V → Prop) (hz : n ≤ 100000) (hn : -(2 ^ 62) ≤ n) (hw : ∀ x, wipe ((wipe σ vs).set j x) vs = wipe σ vs)
    (he : ∀ (i : Nat) H', i < n.toNat → Same H1 H' → ∀ R : VK, (∀ y H'', Same H' H'' → P i y → R y H'') → te ((wipe σ vs).set j (some (.int i))) H' R)
    (q : ∀ D (ys : List V) H2, H1 D = none → Same H1 H2 → H2 D = some (.lst ys) → ys.length = n.toNat → (∀ k y, ys[k]? = some y → P k y) → R D H2) :
    ∃ k : Int, [V.int n] = [.int k] ∧ -(2 ^ 62) ≤ k ∧ k < 2 ^ 62 ∧ ∀ D, H1 D = none → ∃ W : Nat → Nat → Hp → Prop, (∃ m, W 0 m (upd H1 D (.lst []))) ∧ ∀ i m H, W i m H →
      ((Itr 0 k.toNat).stop i H ∧ R D H) ∨ ((Itr 0 k.toNat).go i H ∧ ∃ Nx : Hp → Prop, (∀ H', Nx H' → ∃ m', m' < m ∧ W (i + 1) m' H') ∧ ∀ x H', (Itr 0 k.toNat).yld i H x H' → gName j x (wipe σ vs) H' fun σ2 H2 => wipe σ2 vs = wipe σ vs ∧ tYes σ2 H2 fun b H3 =>
        if b = true then te σ2 H3 fun y H4 => ∃ acc, H4 D = some (.lst acc) ∧ acc.length < sizeLine ∧ Nx (upd H4 D (.lst (acc ++ [y]))) else Nx H3) := by
  refine ⟨n, rfl, hn, by omega, fun D hD => ?_⟩
  refine lc_range (lo := 0) (n := n.toNat) (Acc P H1 D) ⟨⟨[], upd_same, rfl, fun k y h => by simp at h⟩, same_new hD⟩ (fun i H hi p => ?_) fun H p => ?_
  · refine ⟨hw _, ?_⟩
    refine go_yes ?_
    refine iteT ?_
    rw [Int.zero_add]
    refine he i H hi p.same _ fun y H4 s4 hy => ?_
    exact acc_step hD (p.keep s4) hy (by omega)
  · obtain ⟨⟨ys, e, hl, hp⟩, s⟩ := p
    exact q D ys H hD s e hl hp
/-- for x in a list, behind the list's reading -/
theorem foL {D : Ends} {tb : TS} {a : Addr} (xs : List V) (Pv : Nat → L2.St → Hp → Prop) (h0 : Pv 0 σ H1) (hl : ∀ i σ H, i ≤ xs.length → Pv i σ H → SqL K H a xs)
    (hs : ∀ i x σ H, xs[i]? = some x → Pv i σ H → g x σ H fun σ2 H2 => tb { D with nx := Pv (i + 1), ct := Pv (i + 1), bk := D.nx } σ2 H2) (hd : ∀ σ H, Pv xs.length σ H → D.nx σ H) :
    ∃ b, V.ref a = .ref b ∧ (∃ xs, SqL K H1 b xs) ∧ ∃ W : Nat → Nat → L2.St → Hp → Prop, (∃ m, W 0 m σ H1) ∧ ∀ i m σ H, W i m σ H →
      ((Itl K b).stop i H ∧ D.nx σ H) ∨ ((Itl K b).go i H ∧ ∃ N : L2.St → Hp → Prop, (∀ σ' H', N σ' H' → ∃ m', m' < m ∧ W (i + 1) m' σ' H') ∧ ∀ x H', (Itl K b).yld i H x H' → g x σ H' fun σ2 H2 => tb { D with nx := N, ct := N, bk := D.nx } σ2 H2) :=
  ⟨a, rfl, ⟨xs, hl 0 σ H1 (Nat.zero_le _) h0⟩, for_list Pv h0 hl hs hd⟩
/-- for x in range(n), behind the reading of n -/
theorem foR1 {D : Ends} {tb : TS} {n : Int} (Pv : Nat → L2.St → Hp → Prop) (hn : -(2 ^ 62) ≤ n ∧ n < 2 ^ 62) (h0 : Pv 0 σ H1)
    (hs : ∀ (i : Nat) σ H, (i : Int) < n → Pv i σ H → g (.int i) σ H fun σ2 H2 => tb { D with nx := Pv (i + 1), ct := Pv (i + 1), bk := D.nx } σ2 H2) (hd : ∀ σ H, Pv n.toNat σ H → D.nx σ H) :
    ∃ k : Int, [V.int n] = [.int k] ∧ -(2 ^ 62) ≤ k ∧ k < 2 ^ 62 ∧ ∃ W : Nat → Nat → L2.St → Hp → Prop, (∃ m, W 0 m σ H1) ∧ ∀ i m σ H, W i m σ H →
      ((Itr 0 k.toNat).stop i H ∧ D.nx σ H) ∨ ((Itr 0 k.toNat).go i H ∧ ∃ N : L2.St → Hp → Prop, (∀ σ' H', N σ' H' → ∃ m', m' < m ∧ W (i + 1) m' σ' H') ∧ ∀ x H', (Itr 0 k.toNat).yld i H x H' → g x σ H' fun σ2 H2 => tb { D with nx := N, ct := N, bk := D.nx } σ2 H2) :=
  ⟨n, rfl, hn.1, hn.2, for_range Pv h0 (fun i σ H hi p => by rw [Int.zero_add]; exact hs i σ H (by omega) p) hd⟩
/-- while, by a measure that the invariant bears -/
theorem go_while {D : Ends} {c : TT} {tb : TS} (W : Nat → L2.St → Hp → Prop) (m : Nat) (h0 : W m σ H) (hs : ∀ m σ H, W m σ H → c σ H fun b H1 => if b = true then ∃ N : L2.St → Hp → Prop, (∀ σ' H', N σ' H' → ∃ m', m' < m ∧ W m' σ' H') ∧ tb { D with nx := N, ct := N, bk := D.nx } σ H1 else D.nx σ H1) :
    tWhile c tb D σ H := ⟨W, ⟨m, h0⟩, hs⟩
theorem go_loop {D : Ends} {tb : TS} {W : Nat → L2.St → Hp → Prop} {m : Nat} (h : tb { D with nx := fun σ' H' => ∃ m', m' < m ∧ W m' σ' H', ct := fun σ' H' => ∃ m', m' < m ∧ W m' σ' H', bk := D.nx } σ H) :
    ∃ N : L2.St → Hp → Prop, (∀ σ' H', N σ' H' → ∃ m', m' < m ∧ W m' σ' H') ∧ tb { D with nx := N, ct := N, bk := D.nx } σ H := ⟨_, fun _ _ h => h, h⟩
end
/-- all ints, each so -/
theorem ints_of {P : Int → Prop} : ∀ {ys : List V}, (∀ (k : Nat) y, ys[k]? = some y → ∃ w, y = V.int w ∧ P w) → ∃ ws : List Int, ys = ws.map V.int ∧ ∀ w ∈ ws, P w
  | [], _ => ⟨[], rfl, fun _ h => nomatch h⟩
  | y :: r, h => by
    obtain ⟨w, e, p⟩ := h 0 y rfl
    obtain ⟨ws, e2, p2⟩ := ints_of (ys := r) fun k z hz => h (k + 1) z hz
    refine ⟨w :: ws, by rw [e, e2, List.map_cons], fun z hz => ?_⟩
    rcases List.mem_cons.mp hz with rfl | hz
    · exact p
    · exact p2 z hz
end Gx

set_option Elab.async false
set_option linter.all false
set_option maxRecDepth 100000
set_option maxHeartbeats 4000000
/-! Own lemmas: a pool of numbers (a list that is changed by place), data, comprehensions that change it. -/
namespace Gx
open PySem PySem.Spec PyProof.Rows L2
section
variable {K : PySem.W.Frag} {σ : L2.St} {H H1 : Hp} {Q : VK} {tl te to ti : TE} {g : TG} {tt : TT} {vs : List Nat} {j : Nat} {wi : TI}
theorem go_sub {t : TSet} {v : V} {R : L2.St → Hp → Prop} (h : to σ H fun o H1 => ti σ H1 fun i H2 => t o i v H2 fun H3 => R σ H3) : gSub to ti t v σ H R := h
theorem go_setL {p : Addr} {xs : List V} {k : Int} {i : Nat} {v : V} {R : Hp → Prop} (e : H p = some (.lst xs)) (hi : ixN xs.length k = some i) (h : R (upd H p (.lst (xs.set i v)))) : rSetL (.ref p) (.int k) v H R :=
  ⟨p, xs, k, i, rfl, rfl, e, hi, h⟩
theorem go_setL2 {p : Addr} {xs : List V} {k : Int} {i : Nat} {v : V} {R : Hp → Prop} (hi : ixN xs.length k = some i) (h : R (upd H p (.lst (xs.set i v)))) : rSetL (.ref p) (.int k) v (upd H p (.lst xs)) R :=
  ⟨p, xs, k, i, rfl, rfl, upd_same, hi, by rw [upd_upd]; exact h⟩
theorem go_ixL2 {p : Addr} {xs : List V} {k : Int} {v : V} (e : atI xs k = some v) (h : Q v (upd H p (.lst xs))) : rIxL K (.ref p) (.int k) (upd H p (.lst xs)) Q := ⟨p, xs, k, v, rfl, rfl, .of upd_same, e, h⟩
theorem go_ixL1 {p : Addr} {xs : List V} {k : Int} {v : V} (h : H p = some (.lst xs)) (e : atI xs k = some v) (q : Q v H) : rIxL K (.ref p) (.int k) H Q := ⟨p, xs, k, v, rfl, rfl, .of h, e, q⟩
theorem go_ixT1 {p : Addr} {xs : List V} {k : Int} {v : V} (h : H p = some (.tup xs)) (e : atI xs k = some v) (q : Q v H) : rIxT K (.ref p) (.int k) H Q := ⟨p, xs, k, v, rfl, rfl, .of h, e, q⟩
end
/-- all else as it was -/
def But (a : Addr) (H H' : Hp) : Prop := ∀ b o, b ≠ a → H b = some o → H' b = some o
theorem But.refl (a : Addr) (H : Hp) : But a H H := fun _ _ _ h => h
theorem But.trans {a : Addr} {H H1 H2 : Hp} (h : But a H H1) (k : But a H1 H2) : But a H H2 := fun b o n e => k b o n (h b o n e)
theorem But.upd {a : Addr} {H H' : Hp} {o : HO} (h : But a H H') : But a H (upd H' a o) := fun b u n e => by rw [upd_ne n]; exact h b u n e
theorem But.new {a p : Addr} {H H' : Hp} {o : HO} (h : But a H H') (n : H' p = none) : But a H (L2.upd H' p o) := fun b u z e => by
  have q := h b u z e
  rw [upd_ne (ne_of_none q n)]
  exact q
theorem Same.but {a : Addr} {H H' : Hp} (s : Same H H') : But a H H' := fun b o _ e => s b o e
/-- a pool: where it stands, where its list of the script's numbers stands, these -/
structure Pl where
  a : Addr
  l : Addr
  ns : List Int
/-- the pool p stands in H; b: its budget -/
structure Pool (H : Hp) (p : Pl) (b : Int) : Prop where
  ex : ∃ (p1 p2 p3 p4 : Int), H p.a = some (.lst [.ref p.l, .int p1, .int p2, .int p3, .int p4, .int b]) ∧ 0 ≤ p1 ∧ 0 ≤ p3 ∧ p3 < 2147483647
  li : H p.l = some (.lst (p.ns.map V.int))
  ne : p.l ≠ p.a
theorem Pool.there {H : Hp} {p : Pl} {b : Int} (h : Pool H p b) : ∃ xs, H p.a = some (.lst xs) := let ⟨_, _, _, _, e, _⟩ := h.ex; ⟨_, e⟩
theorem Pool.same {H H' : Hp} {p : Pl} {b : Int} (h : Pool H p b) (s : Same H H') : Pool H' p b := by
  obtain ⟨p1, p2, p3, p4, e, k⟩ := h.ex
  exact ⟨⟨p1, p2, p3, p4, s _ _ e, k⟩, s _ _ h.li, h.ne⟩
theorem Pool.new {H : Hp} {p : Pl} {q : Addr} {b : Int} {o : HO} (h : Pool H p b) (n : H q = none) : Pool (upd H q o) p b := h.same (same_new n)
/-- another object is written -/
theorem Pool.upd {H : Hp} {p : Pl} {q : Addr} {b : Int} {o : HO} (h : Pool H p b) (n : q ≠ p.a) (n2 : q ≠ p.l) : Pool (upd H q o) p b := by
  obtain ⟨p1, p2, p3, p4, e, k⟩ := h.ex
  exact ⟨⟨p1, p2, p3, p4, by rw [upd_ne n.symm]; exact e, k⟩, by rw [upd_ne n2.symm]; exact h.li, h.ne⟩
/-- what is free behind was free before -/
theorem But.free {a p : Addr} {H H' : Hp} {o : HO} (h : But a H H') (e : H' a = some o) (n : H' p = none) : H p = none := by
  cases q : H p with
  | none => rfl
  | some u =>
    have ne : p ≠ a := fun z => by rw [z, e] at n; cases n
    rw [h p u ne q] at n
    cases n
/-- one pool's turn: the pool stands, all else is as it was -/
structure Turn (p : Pl) (b : Int) (H H' : Hp) : Prop where
  pool : Pool H' p b
  but : But p.a H H'
theorem Turn.refl {p : Pl} {b : Int} {H : Hp} (h : Pool H p b) : Turn p b H H := ⟨h, .refl p.a H⟩
theorem Turn.trans {p : Pl} {b b' : Int} {H H1 H2 : Hp} (h : Turn p b H H1) (k : Turn p b' H1 H2) : Turn p b' H H2 := ⟨k.pool, h.but.trans k.but⟩
theorem Turn.new {p : Pl} {q : Addr} {b : Int} {H H1 : Hp} {o : HO} (h : Turn p b H H1) (n : H1 q = none) : Turn p b H (upd H1 q o) := ⟨h.pool.new n, h.but.new n⟩
theorem Turn.same {p : Pl} {b : Int} {H H1 H2 : Hp} (h : Turn p b H H1) (s : Same H1 H2) : Turn p b H H2 := ⟨h.pool.same s, h.but.trans (Same.but s)⟩
theorem Turn.free {p : Pl} {q : Addr} {b : Int} {H H' : Hp} (h : Turn p b H H') (n : H' q = none) : H q = none := let ⟨_, e⟩ := h.pool.there; h.but.free e n
theorem Pool.nea {p : Pl} {q : Addr} {b : Int} {H : Hp} (h : Pool H p b) (n : H q = none) : q ≠ p.a := fun z => by
  obtain ⟨_, e⟩ := h.there
  rw [z, e] at n
  cases n
theorem Pool.nel {p : Pl} {q : Addr} {b : Int} {H : Hp} (h : Pool H p b) (n : H q = none) : q ≠ p.l := fun z => by
  rw [z, h.li] at n
  cases n
/-- a new list is written further -/
theorem Turn.mut {p : Pl} {q : Addr} {b b' : Int} {H H2 : Hp} {o : HO} (h0 : Pool H p b') (n : H q = none) (h : Turn p b H H2) : Turn p b H (upd H2 q o) :=
  ⟨h.pool.upd (h0.nea n) (h0.nel n), fun c u nc ec => by rw [upd_ne (ne_of_none ec n)]; exact h.but c u nc ec⟩

section
variable {K : PySem.W.Frag} {σ : L2.St} {H H1 : Hp} {Q : VK} {tl te : TE} {g : TG} {tt : TT} {vs : List Nat} {j : Nat} {wi : TI}
/-- [e for x in range(n)] whose element turns a pool -/
theorem lcPool {R : Addr → Hp → Prop} {n : Int} {p : Pl} {b : Int} (P : Nat → V → Prop) (hp : Pool H1 p b) (hz : n ≤ 100000) (hn : -(2 ^ 62) ≤ n) (hw : ∀ x, wipe ((wipe σ vs).set j x) vs = wipe σ vs)
    (he : ∀ (i : Nat) H', (i : Int) < n → Turn p b H1 H' → ∀ R : VK, (∀ y H'', Turn p b H' H'' → P i y → R y H'') → te ((wipe σ vs).set j (some (.int i))) H' R)
    (q : ∀ D (ys : List V) H2, H1 D = none → Turn p b H1 H2 → H2 D = some (.lst ys) → ys.length = n.toNat → (∀ k y, ys[k]? = some y → P k y) → R D H2) :
    ∃ k : Int, [V.int n] = [.int k] ∧ -(2 ^ 62) ≤ k ∧ k < 2 ^ 62 ∧ ∀ D, H1 D = none → ∃ W : Nat → Nat → Hp → Prop, (∃ m, W 0 m (upd H1 D (.lst []))) ∧ ∀ i m H, W i m H →
      ((Itr 0 k.toNat).stop i H ∧ R D H) ∨ ((Itr 0 k.toNat).go i H ∧ ∃ Nx : Hp → Prop, (∀ H', Nx H' → ∃ m', m' < m ∧ W (i + 1) m' H') ∧ ∀ x H', (Itr 0 k.toNat).yld i H x H' → gName j x (wipe σ vs) H' fun σ2 H2 => wipe σ2 vs = wipe σ vs ∧ tYes σ2 H2 fun b H3 =>
        if b = true then te σ2 H3 fun y H4 => ∃ acc, H4 D = some (.lst acc) ∧ acc.length < sizeLine ∧ Nx (upd H4 D (.lst (acc ++ [y]))) else Nx H3) := by
  refine ⟨n, rfl, hn, by omega, fun D hD => ?_⟩
  have nD : D ≠ p.a := hp.nea hD
  refine lc_range (lo := 0) (n := n.toNat) (fun i H' => (∃ ys : List V, H' D = some (.lst ys) ∧ ys.length = i ∧ ∀ k y, ys[k]? = some y → P k y) ∧ Turn p b H1 H') ⟨⟨[], upd_same, rfl, fun k y h => by simp at h⟩, (Turn.refl hp).new hD⟩ (fun i H hi p => ?_) fun H p => ?_
  · refine ⟨hw _, ?_⟩
    refine go_yes ?_
    refine iteT ?_
    rw [Int.zero_add]
    obtain ⟨⟨ys, e, hl, hP⟩, t⟩ := p
    refine he i H (by omega) t _ fun y H4 s4 hy => ?_
    have e4 := s4.but D _ nD e
    refine ⟨ys, e4, szlt (by omega), ⟨ys ++ [y], upd_same, by simp [hl], fun k z hz => ?_⟩, Turn.mut hp hD (t.trans s4)⟩
    rcases Nat.lt_or_ge k ys.length with h | h
    · rw [List.getElem?_append_left h] at hz
      exact hP k z hz
    · rw [List.getElem?_append_right h] at hz
      rcases Nat.eq_or_lt_of_le h with e2 | e2
      · rw [← e2, Nat.sub_self] at hz
        cases hz
        rw [← e2, hl]
        exact hy
      · rw [List.getElem?_eq_none (by simp; omega)] at hz
        cases hz
  · obtain ⟨⟨ys, e, hl, hP⟩, t⟩ := p
    exact q D ys H hD t e hl hP
end
/-! ### data -/
theorem tyx_list {K : PySem.W.Frag} {H : Hp} {a : Addr} {xs : List V} (h : SqL K H a xs) : TyX K H (.ref a) (.type "list") := by
  rcases h with (h | ⟨o, h⟩) | ⟨o, its, n, e, c, _⟩
  · exact .base (.lst h)
  · exact .base (.frz h)
  · exact .kList e c
theorem tyx_tup {K : PySem.W.Frag} {H : Hp} {a : Addr} {xs : List V} (h : SqT K H a xs) : TyX K H (.ref a) (.type "tuple") := by
  rcases h with (h | ⟨o, h⟩) | ⟨o, its, n, e, c, _⟩
  · exact .base (.tup h)
  · exact .fTuple h
  · exact .kTuple e c
/-- the same data, at most n deep -/
inductive Eqd (K : PySem.W.Frag) (H : Hp) : Nat → V → V → Prop where
  | non {n : Nat} : Eqd K H n .non .non
  | bl {n : Nat} (b : Bool) : Eqd K H n (.bl b) (.bl b)
  | int {n : Nat} (i : Int) : Eqd K H n (.int i) (.int i)
  | str {n : Nat} (x : Str) : Eqd K H n (.str x) (.str x)
  | lst {n : Nat} {a b : Addr} {xs ys : List V} (h1 : SqL K H a xs) (h2 : SqL K H b ys) (hl : xs.length = ys.length) (hz : xs.length ≤ 100000) (h : ∀ (i : Nat) x y, xs[i]? = some x → ys[i]? = some y → Eqd K H n x y) : Eqd K H (n + 1) (.ref a) (.ref b)
  | tup {n : Nat} {a b : Addr} {xs ys : List V} (h1 : SqT K H a xs) (h2 : SqT K H b ys) (hl : xs.length = ys.length) (hz : xs.length ≤ 100000) (h : ∀ (i : Nat) x y, xs[i]? = some x → ys[i]? = some y → Eqd K H n x y) : Eqd K H (n + 1) (.ref a) (.ref b)
section
variable {K : PySem.W.Frag} {H H1 : Hp} {Q : VK}
theorem go_isiL (c : String) {b : Bool} {a : Addr} {xs : List V} (h : SqL K H a xs) (e : kitB "list" c = some b) (q : Q (.bl b) H) : rIsi K [.ref a, .ty c] H Q := go_isiB (tyx_list h) e q
theorem go_isiT (c : String) {b : Bool} {a : Addr} {xs : List V} (h : SqT K H a xs) (e : kitB "tuple" c = some b) (q : Q (.bl b) H) : rIsi K [.ref a, .ty c] H Q := go_isiB (tyx_tup h) e q
theorem sq_list_int {a : Addr} {xs : List V} (h : SqL K H a xs) (q : Q (.bl false) H) : rIsi K [.ref a, .ty "int"] H Q := go_isiB (tyx_list h) (by decide +kernel) q
theorem sq_list_bool {a : Addr} {xs : List V} (h : SqL K H a xs) (q : Q (.bl false) H) : rIsi K [.ref a, .ty "bool"] H Q := go_isiB (tyx_list h) (by decide +kernel) q
theorem sq_list_str {a : Addr} {xs : List V} (h : SqL K H a xs) (q : Q (.bl false) H) : rIsi K [.ref a, .ty "str"] H Q := go_isiB (tyx_list h) (by decide +kernel) q
theorem sq_list_list {a : Addr} {xs : List V} (h : SqL K H a xs) (q : Q (.bl true) H) : rIsi K [.ref a, .ty "list"] H Q := go_isiB (tyx_list h) (by decide +kernel) q
theorem sq_list_tuple {a : Addr} {xs : List V} (h : SqL K H a xs) (q : Q (.bl false) H) : rIsi K [.ref a, .ty "tuple"] H Q := go_isiB (tyx_list h) (by decide +kernel) q
theorem sq_tuple_int {a : Addr} {xs : List V} (h : SqT K H a xs) (q : Q (.bl false) H) : rIsi K [.ref a, .ty "int"] H Q := go_isiB (tyx_tup h) (by decide +kernel) q
theorem sq_tuple_bool {a : Addr} {xs : List V} (h : SqT K H a xs) (q : Q (.bl false) H) : rIsi K [.ref a, .ty "bool"] H Q := go_isiB (tyx_tup h) (by decide +kernel) q
theorem sq_tuple_str {a : Addr} {xs : List V} (h : SqT K H a xs) (q : Q (.bl false) H) : rIsi K [.ref a, .ty "str"] H Q := go_isiB (tyx_tup h) (by decide +kernel) q
theorem sq_tuple_list {a : Addr} {xs : List V} (h : SqT K H a xs) (q : Q (.bl false) H) : rIsi K [.ref a, .ty "list"] H Q := go_isiB (tyx_tup h) (by decide +kernel) q
theorem sq_tuple_tuple {a : Addr} {xs : List V} (h : SqT K H a xs) (q : Q (.bl true) H) : rIsi K [.ref a, .ty "tuple"] H Q := go_isiB (tyx_tup h) (by decide +kernel) q
theorem go_ixQL {a : Addr} {xs : List V} {k : Int} {v : V} (hs : SqL K H a xs) (e : atI xs k = some v) (h : Q v H) : rIx K (.ref a) (.int k) H Q := .inl ⟨a, xs, k, v, rfl, rfl, hs, e, h⟩
theorem go_ixQT {a : Addr} {xs : List V} {k : Int} {v : V} (hs : SqT K H a xs) (e : atI xs k = some v) (h : Q v H) : rIx K (.ref a) (.int k) H Q := .inr (.inl ⟨a, xs, k, v, rfl, rfl, hs, e, h⟩)
end
/-! ### texts -/
abbrev S : List Nat → Str := SX.S
section
variable {X : Cx} {σ : L2.St} {H H1 : Hp} {Q : VK} {K : PySem.W.Frag} {o e : Expr} {to te : TE}
def qSplit : V → List V → Hp → VK → Prop := fun x xs H Q => ∃ a b, x = .str a ∧ xs = [.str b] ∧ (b.length == 0) = false ∧ a.length + 2 ≤ sizeLine ∧ rNewStrs (Txt.split a b) H Q
theorem e_split {apos pos : Pos} (ho : PE X o to) (he : PE X e te) (hs : starEach [e] X.env = [(false, eval e X.env)] := by rfl) (hbase : attributeBase o "split" X.env (eval o X.env) = eval o X.env := by rfl) (hline : (apos.endLine == pos.line) = true := by rfl) :
    PE X (.Call (.Attribute o "split" apos) [e] [] pos) (tM1 qSplit to te) := pe_split ho he hs hbase hline
theorem go_M1 {r : V → List V → Hp → VK → Prop} (h : to σ H fun x H1 => (∃ a, x = .str a) ∧ te σ H1 fun y H2 => r x [y] H2 Q) : tM1 r to te σ H Q := h
theorem go_M0 {r : V → List V → Hp → VK → Prop} (h : to σ H fun x H1 => (∃ a, x = .str a) ∧ r x [] H1 Q) : tM0 r to σ H Q := h
theorem go_isS {a : Str} {B : Prop} (h : B) : (∃ b, V.str a = .str b) ∧ B := ⟨⟨a, rfl⟩, h⟩
theorem go_split {a : List Nat} (ha : a.length ≤ 90000) {c : Nat} (hc : c < 256) (h : ∀ p, H p = none → Q (.ref p) (upd H p (.lst ((TL.spl [c] 0 [] a).map fun w => V.str (S w))))) : qSplit (.str (S a)) [.str (S [c])] H Q := by
  refine ⟨S a, S [c], rfl, rfl, rfl, by rw [SX.S_len]; exact sz (by omega), ?_⟩
  rw [SX.split_S (by simp) (by simp [hc])]
  intro p hp
  rw [List.map_map]
  exact h p hp
def qJoin (K : PySem.W.Frag) : V → List V → Hp → VK → Prop := fun x xs H Q => ∃ a p, ∃ ys : List Str, x = .str a ∧ xs = [.ref p] ∧ (SqL K H p (ys.map V.str) ∨ SqT K H p (ys.map V.str)) ∧ (ys.map (·.length)).sum + ys.length * a.length ≤ 16777216 ∧ Q (.str (Txt.join a ys)) H
theorem e_join {apos pos : Pos} (ho : PE X o to) (he : PE X e te) (hs : starEach [e] X.env = [(false, eval e X.env)] := by rfl) (hbase : attributeBase o "join" X.env (eval o X.env) = eval o X.env := by rfl) (hline : (apos.endLine == pos.line) = true := by rfl) :
    PE X (.Call (.Attribute o "join" apos) [e] [] pos) (tM1 (qJoin X.K) to te) := pe_join ho he hs hbase hline
theorem go_join {a : List Nat} {p : Addr} {ws : List (List Nat)} (hs : SqL K H p (ws.map fun w => V.str (S w))) (hz : (ws.map List.length).sum + ws.length * a.length ≤ 16777216) (h : Q (.str (S (TL.joinL a ws))) H) : qJoin K (.str (S a)) [.ref p] H Q := by
  refine ⟨S a, p, ws.map S, rfl, rfl, .inl (by rw [List.map_map]; exact hs), ?_, by rw [SX.join_S]; exact h⟩
  rw [SX.lens, List.length_map, SX.S_len]
  exact hz
/-- for c in a text -/
theorem go_iStr {R : It → Hp → Prop} (h : te σ H fun v H1 => ∃ x, v = .str x ∧ R (Its x) H1) : iStr te σ H R := h
theorem foS {D : Ends} {tb : TS} {g : TG} (cs : List Nat) (Pv : Nat → L2.St → Hp → Prop) (h0 : Pv 0 σ H1)
    (hs : ∀ i c σ H, cs[i]? = some c → Pv i σ H → g (.str (S [c])) σ H fun σ2 H2 => tb { D with nx := Pv (i + 1), ct := Pv (i + 1), bk := D.nx } σ2 H2) (hd : ∀ σ H, Pv cs.length σ H → D.nx σ H) :
    ∃ x, V.str (S cs) = .str x ∧ ∃ W : Nat → Nat → L2.St → Hp → Prop, (∃ m, W 0 m σ H1) ∧ ∀ i m σ H, W i m σ H →
      ((Its x).stop i H ∧ D.nx σ H) ∨ ((Its x).go i H ∧ ∃ N : L2.St → Hp → Prop, (∀ σ' H', N σ' H' → ∃ m', m' < m ∧ W (i + 1) m' σ' H') ∧ ∀ x2 H', (Its x).yld i H x2 H' → g x2 σ H' fun σ2 H2 => tb { D with nx := N, ct := N, bk := D.nx } σ2 H2) := by
  refine ⟨S cs, rfl, fun i m σ H => m = cs.length - i ∧ i ≤ cs.length ∧ Pv i σ H, ⟨cs.length, by simp, Nat.zero_le _, h0⟩, ?_⟩
  rintro i m σ H ⟨rfl, hi, p⟩
  have hsz : (S cs).cps.size = cs.length := by simp
  by_cases hlt : i < cs.length
  · refine .inr ⟨by show i < (S cs).cps.size; rw [hsz]; exact hlt, Pv (i + 1), fun σ' H' p' => ⟨cs.length - (i + 1), by omega, rfl, hlt, p'⟩, fun x H' y => ?_⟩
    obtain ⟨e, c, hc, rfl⟩ := y
    subst e
    refine hs i c σ _ ?_ p
    have : (S cs).cps[i]? = some c := hc
    simpa using this
  · have e : i = cs.length := by omega
    subst e
    exact .inl ⟨by show (S cs).cps.size ≤ cs.length; omega, hd σ H p⟩
theorem at_mem {α : Type} {xs : List α} {i : Nat} {v : α} (h : atI xs (i : Int) = some v) : v ∈ xs := by
  unfold atI ixN at h
  rw [if_pos (by omega)] at h
  split at h
  · rw [Option.bind_some, Int.toNat_natCast] at h
    exact List.mem_of_getElem? h
  · cases h
theorem atS_ex {z : Str} {k : Int} (h0 : 0 ≤ k) (h : k < z.length) : ∃ c, atI z.cps.toList k = some c := by
  have e : k = (k.toNat : Int) := by omega
  have h2 : k.toNat < z.cps.toList.length := by
    have : z.length = z.cps.toList.length := by simp [Str.length]
    omega
  rw [e]
  exact ⟨_, atI_nat (List.getElem?_eq_getElem h2)⟩
theorem dp_strs : ∀ ws : List Str, DpAll K H (ws.map V.str) (ws.map PyData.str)
  | [] => .nil
  | n :: r => .cons (.str n) (dp_strs r)
theorem eqvAll_strs : ∀ xs : List Str, PyData.eqvAll (xs.map PyData.str) (xs.map PyData.str) = true
  | [] => by simp [PyData.eqvAll]
  | x :: xs => by simp only [List.map_cons, PyData.eqvAll, PyData.eqv, eqvAll_strs xs]; simp
theorem depth_strs : ∀ xs : List Str, PyData.depthAll (xs.map PyData.str) = 0
  | [] => rfl
  | x :: xs => by
    rw [List.map_cons]
    unfold PyData.depthAll
    rw [depth_strs xs]
    rfl
theorem canLay_strs : ∀ xs : List Str, xs.all PyData.strOk = true → PyData.canLayAll0 (xs.map PyData.str) = true
  | [], _ => rfl
  | x :: xs, h => by
    rw [List.all_cons, Bool.and_eq_true] at h
    rw [List.map_cons]
    simp only [PyData.canLayAll0, PyData.canLay0, canLay_strs xs h.2, h.1, Bool.and_self]
theorem shaped_strs (xs : List Str) (h : xs.all PyData.strOk = true) : SeqAt.shaped (.list (xs.map PyData.str)) = true := by
  unfold SeqAt.shaped
  have h1 : PyData.canLay0 (.list (xs.map PyData.str)) = true := by
    simp only [PyData.canLay0]
    exact canLay_strs xs h
  have h2 : PyData.depth (.list (xs.map PyData.str)) ≤ 64 := by
    unfold PyData.depth
    rw [depth_strs xs]
    decide
  rw [h1, decide_eq_true h2]
  rfl
theorem go_eqStrs {a b : Addr} {xs : List Str} (h1 : SqL K H a (xs.map V.str)) (h2 : SqL K H b (xs.map V.str)) (ho : xs.all PyData.strOk = true) (h : Q (.bl true) H) : rEqD K (.ref a) (.ref b) H Q :=
  ⟨_, _, .lst h1 (dp_strs xs), .lst h2 (dp_strs xs), shaped_strs xs ho, shaped_strs xs ho, by rw [PyData.eqv, eqvAll_strs]; exact h⟩
end
end Gx

set_option Elab.async false
set_option linter.all false
set_option maxRecDepth 100000
set_option maxHeartbeats 4000000
/-! Own lemmas: operators that a class defines; gcd, lcm, // of great ints. -/
namespace Gx
open PySem PySem.Spec PyProof.Rows L2
section
variable {X : Cx} {CX : CXT} {C f : Addr} {fd : FuncData} {ps : List Str} {sp : Sp} {E : XK} {k : Nat} {Q : VK} {H : Hp}
theorem back_of {pins : List (Addr × Obj)} {σ : L2.St} {M : Model} {A : Around} {R : Value → Shared → Prop} {t : Sem Value} {s : Shared} (h : wpAny M A t (EP X pins σ Q) R s) : wpAny M A t (PySem.W.CmpBack (EP X pins σ Q)) R s := by
  refine wpAny_mono h (fun v s' q => ?_) fun _ _ z => z
  cases v <;> first | exact q | (obtain ⟨x, H', I, r, q⟩ := q; cases x <;> first | (cases r; done) | (obtain ⟨_, r⟩ := r; cases r))
/-- x op y by the class's own method -/
def rOwn (C : Addr) (sp : Sp) (E : XK) : R2 := fun x y H Q => ∃ a b dx dy fs gs, x = .ref a ∧ y = .ref b ∧ H a = some (.ins C dx fs) ∧ H b = some (.ins C dy gs) ∧ sp [x, y] H Q E
theorem go_own {a b dx dy : Addr} {fs gs : List (Str × V)} (h1 : H a = some (.ins C dx fs)) (h2 : H b = some (.ins C dy gs)) (h : sp [.ref a, .ref b] H Q E) : rOwn C sp E (.ref a) (.ref b) H Q := ⟨a, b, dx, dy, fs, gs, rfl, rfl, h1, h2, h⟩
theorem op_own {op : Operator} (hc : PySem.W.selfFirst X.K C = true) (hs : PySem.W.findIn X.K (.ref C) (PySem.dunder op.info.2) = some (some (.ref f))) (hf : PySem.W.isFn X.K (.ref f) = true)
    (F : FnOk X.prog X.w X.K X.mg X.base CX k f fd ps sp) (hr : Room k X.A) (hb : Binds X.K fd ps []) (hx : Passes CX X E) : OpR X (binaryOp op) (rOwn C sp E) := by
  intro pins s σ H x y v u Q I rx ry h
  obtain ⟨a, b, dx, dy, fs, gs, rfl, rfl, ha, hb', hq⟩ := h
  have rx' := rx
  have ry' := ry
  cases rx
  cases ry
  obtain ⟨mA, J, _⟩ := ins_get I.hok ha
  obtain ⟨mB, J', _⟩ := ins_get I.hok hb'
  obtain ⟨od, J, _⟩ := J.look
  obtain ⟨od', J', _⟩ := J'.look
  obtain ⟨m, hF⟩ := I.fr
  refine PySem.W.binop_K hF I.ok.mod.kin J J'.type hc hs hf (back_of ?_)
  exact run_fn F hr hb .nil hx I (.cons rx' (.cons ry' .nil)) (by simpa using hq)
/-- x == y, x != y by the class's own method (op: its own name) -/
theorem op_ownCmp {op : CmpOp} (hcmp : ∀ v u, compareOp op v u = richCompare op v u) (hc : PySem.W.notFirst X.K C (.ref C) = true) (hs : PySem.W.findIn X.K (.ref C) (cmpInfo op).2.1 = some (some (.ref f))) (hf : PySem.W.isFn X.K (.ref f) = true)
    (F : FnOk X.prog X.w X.K X.mg X.base CX k f fd ps sp) (hr : Room k X.A) (hb : Binds X.K fd ps []) (hx : Passes CX X E) : OpR X (compareOp op) (rOwn C sp E) := by
  intro pins s σ H x y v u Q I rx ry h
  obtain ⟨a, b, dx, dy, fs, gs, rfl, rfl, ha, hb', hq⟩ := h
  have rx' := rx
  have ry' := ry
  cases rx
  cases ry
  obtain ⟨mA, J, _⟩ := ins_get I.hok ha
  obtain ⟨mB, J', _⟩ := ins_get I.hok hb'
  obtain ⟨od, J, _⟩ := J.look
  obtain ⟨od', J', _⟩ := J'.look
  obtain ⟨m, hF⟩ := I.fr
  rw [hcmp]
  refine PySem.W.cmp_K hr.units0 hF I.ok.mod.kin J J'.type hc hs hf (back_of ?_)
  exact run_fn F hr hb .nil hx I (.cons rx' (.cons ry' .nil)) (by simpa using hq)
/-- -x by the class's own method -/
def uOwn (C : Addr) (sp : Sp) (E : XK) : V → Hp → VK → Prop := fun x H Q => ∃ a dx fs, x = .ref a ∧ H a = some (.ins C dx fs) ∧ sp [x] H Q E
theorem go_uOwn {a dx : Addr} {fs : List (Str × V)} (h1 : H a = some (.ins C dx fs)) (h : sp [.ref a] H Q E) : uOwn C sp E (.ref a) H Q := ⟨a, dx, fs, rfl, h1, h⟩
theorem un_own (hs : PySem.W.findIn X.K (.ref C) "__neg__" = some (some (.ref f))) (hf : PySem.W.isFn X.K (.ref f) = true)
    (F : FnOk X.prog X.w X.K X.mg X.base CX k f fd ps sp) (hr : Room k X.A) (hb : Binds X.K fd ps []) (hx : Passes CX X E) : UnR X (unaryOp .USub) (uOwn C sp E) := by
  intro pins s σ H x v Q I rx h
  obtain ⟨a, dx, fs, rfl, ha, hq⟩ := h
  have rx' := rx
  cases rx
  obtain ⟨mA, J, _⟩ := ins_get I.hok ha
  obtain ⟨od, J, _⟩ := J.look
  unfold unaryOp
  refine wpAny_holding ?_
  dsimp only
  rw [if_neg (by decide)]
  refine wpAny_bind (PySem.W.special_fn I.kIn J hs (beq_iff_eq.mp hf) ?_)
  exact wpAny_mono (run_fn F hr hb .nil hx I (.cons rx' .nil) (by simpa using hq)) (fun v s' q => wpAny_pure q) fun _ _ z => z
/-! ### great ints -/
def CDivX (_ j : Int) : Prop := j ≠ 0 ∧ j.natAbs.log2 < 9000
theorem op_fdivX : OpR X (binaryOp .FloorDiv) (rI CDivX fun i j => .int (i.fdiv j)) := opI fun _ _ _ _ _ _ _ hc q => floordiv_int hc.1 q (.inl (PyProof.noPylong_of_log2 hc.2))
theorem divX {i j : Int} {b : Nat} (h : j ≠ 0) (hb : j.natAbs < 2 ^ b) (h0 : 0 < b) (h9 : b ≤ 9000) : CDivX i j := ⟨h, Nat.lt_of_lt_of_le (PySem.Flt.log2_lt_of h0 hb) h9⟩
theorem go_gcd {a b : Int} (h : Q (.int ((Nat.gcd a.natAbs b.natAbs : Nat) : Int)) H) : rGcd [.int a, .int b] H Q := ⟨a, b, rfl, h⟩
/-- two numbers of up to 9000 bits -/
def rLcm : List V → Hp → VK → Prop := fun vs H Q => ∃ a b : Int, vs = [.int a, .int b] ∧ a.natAbs < 2 ^ 9000 ∧ b.natAbs < 2 ^ 9000 ∧ Q (.int ((Nat.lcm a.natAbs b.natAbs : Nat) : Int)) H
theorem log2_le {n k : Nat} (h : n < 2 ^ (k + 1)) : n.log2 ≤ k := PySem.W.mg_log h
theorem cr_lcm : CallR X (.builtin "math.lcm") rLcm := by
  intro pins s σ H vs us Q I r h
  obtain ⟨a, b, rfl, ha, hb, q⟩ := h
  obtain ⟨t, u, rfl⟩ := Vals.int2 r
  have h1 : (max 1 a.natAbs).log2 ≤ 8999 := log2_le (by
    have : 1 < 2 ^ 9000 := Nat.one_lt_two_pow (by decide)
    show max 1 a.natAbs < 2 ^ 9000
    omega)
  have h2 : (max a.natAbs b.natAbs).log2 ≤ 8999 := log2_le (by show max a.natAbs b.natAbs < 2 ^ 9000; omega)
  have e : (Nat.lcm 1 a.natAbs) = a.natAbs := Nat.lcm_one_left _
  have hz : ((((Nat.lcm 1 a.natAbs).lcm b.natAbs : Nat) : Int)).natAbs.log2 < bitsLine := by
    rw [e, Int.natAbs_natCast]
    have hm : a.natAbs.lcm b.natAbs ≤ a.natAbs * b.natAbs := Nat.div_le_self _ _
    have hl : a.natAbs.lcm b.natAbs < 2 ^ (17999 + 1) := by
      have : a.natAbs * b.natAbs < 2 ^ 9000 * 2 ^ 9000 := Nat.mul_lt_mul'' ha hb
      rw [← Nat.pow_add] at this
      exact Nat.lt_of_le_of_lt hm this
    have := log2_le hl
    have hb : bitsLine = 134217728 := by decide
    omega
  have g := PySem.W.mg_run_lcm a t b u (by omega) (by omega) hz
  refine call_function_meets PySem.W.MGF.kind_lcm PySem.W.MGF.plain_lcm PySem.W.MGF.entry_lcm (PySem.W.MGF.args_lcm _ _) g.meets ?_
  rw [e]
  exact ⟨.int _, H, I.tok _, ⟨_, rfl⟩, q⟩
theorem go_lcm {a b : Int} (ha : a.natAbs < 2 ^ 9000) (hb : b.natAbs < 2 ^ 9000) (h : Q (.int ((Nat.lcm a.natAbs b.natAbs : Nat) : Int)) H) : rLcm [.int a, .int b] H Q := ⟨a, b, rfl, ha, hb, h⟩
end
end Gx

set_option Elab.async false
set_option linter.all false
set_option maxRecDepth 100000
set_option maxHeartbeats 4000000
/-! Own lemmas: fractions in lowest terms; Euclid's loop. -/
namespace Gx
open PySem PySem.Spec PyProof.Rows L2
/-- the numerator and the denominator in lowest terms -/
def rN (a b : Int) : Int := if b < 0 then (-a) / (Int.gcd a b : Int) else a / (Int.gcd a b : Int)
def rD (a b : Int) : Int := if b < 0 then (-b) / (Int.gcd a b : Int) else b / (Int.gcd a b : Int)
theorem gcd_pos {a b : Int} (h : b ≠ 0) : 0 < (Int.gcd a b : Int) := by
  have := Int.gcd_pos_of_ne_zero_right a h
  omega
theorem gcd_l (a b : Int) : (Int.gcd a b : Int) ∣ a := Int.gcd_dvd_left _ _
theorem gcd_r (a b : Int) : (Int.gcd a b : Int) ∣ b := Int.gcd_dvd_right _ _
/-- one form for both signs -/
theorem rN_mul {a b : Int} (h : b ≠ 0) : rN a b * (if b < 0 then -(Int.gcd a b : Int) else (Int.gcd a b : Int)) = a := by
  unfold rN
  split
  · rw [Int.mul_neg, Int.ediv_mul_cancel (Int.dvd_neg.mpr (gcd_l a b)), Int.neg_neg]
  · exact Int.ediv_mul_cancel (gcd_l a b)
theorem rD_mul {a b : Int} (h : b ≠ 0) : rD a b * (if b < 0 then -(Int.gcd a b : Int) else (Int.gcd a b : Int)) = b := by
  unfold rD
  split
  · rw [Int.mul_neg, Int.ediv_mul_cancel (Int.dvd_neg.mpr (gcd_r a b)), Int.neg_neg]
  · exact Int.ediv_mul_cancel (gcd_r a b)
theorem rD_pos {a b : Int} (h : b ≠ 0) : 0 < rD a b := by
  have g := gcd_pos (a := a) h
  have e := rD_mul (a := a) h
  by_cases hb : b < 0
  · rw [if_pos hb] at e
    by_cases q : 0 < rD a b
    · exact q
    · have : 0 ≤ rD a b * -(Int.gcd a b : Int) := Int.mul_nonneg_of_nonpos_of_nonpos (by omega) (by omega)
      omega
  · rw [if_neg hb] at e
    by_cases q : 0 < rD a b
    · exact q
    · have : rD a b * (Int.gcd a b : Int) ≤ 0 := Int.mul_nonpos_of_nonpos_of_nonneg (by omega) (by omega)
      omega
theorem r_cross {a b : Int} (h : b ≠ 0) : rN a b * b = a * rD a b := by
  have e1 := rN_mul (a := a) h
  have e2 := rD_mul (a := a) h
  generalize (if b < 0 then -(Int.gcd a b : Int) else (Int.gcd a b : Int)) = g at e1 e2
  calc rN a b * b = rN a b * (rD a b * g) := by rw [e2]
    _ = (rN a b * g) * rD a b := by rw [Int.mul_comm (rD a b) g, ← Int.mul_assoc]
    _ = a * rD a b := by rw [e1]
theorem r_coprime {a b : Int} (h : b ≠ 0) : Int.gcd (rN a b) (rD a b) = 1 := by
  have g := gcd_pos (a := a) h
  have e1 := rN_mul (a := a) h
  have e2 := rD_mul (a := a) h
  have e3 : Int.gcd (rN a b * (if b < 0 then -(Int.gcd a b : Int) else (Int.gcd a b : Int))) (rD a b * (if b < 0 then -(Int.gcd a b : Int) else (Int.gcd a b : Int))) = Int.gcd a b := by rw [e1, e2]
  rw [Int.gcd_mul_right] at e3
  have e4 : (if b < 0 then -(Int.gcd a b : Int) else (Int.gcd a b : Int)).natAbs = Int.gcd a b := by
    split
    · rw [Int.natAbs_neg, Int.natAbs_natCast]
    · rw [Int.natAbs_natCast]
  rw [e4] at e3
  have hp : 0 < Int.gcd a b := by omega
  exact Nat.eq_of_mul_eq_mul_right hp (by omega)
theorem dvd_co {k m n : Int} (h : k ∣ m * n) (g : Int.gcd k m = 1) : k ∣ n := by
  have h' : k.natAbs ∣ m.natAbs * n.natAbs := by
    rw [← Int.natAbs_mul]
    exact Int.natAbs_dvd_natAbs.mpr h
  exact Int.natAbs_dvd_natAbs.mp (Nat.Coprime.dvd_of_dvd_mul_left (show Nat.gcd k.natAbs m.natAbs = 1 from g) h')
/-- lowest terms are one -/
theorem low_unique {n d n' d' : Int} (hd : 0 < d) (hd' : 0 < d') (h1 : Int.gcd n d = 1) (h2 : Int.gcd n' d' = 1) (h : n * d' = n' * d) : n = n' ∧ d = d' := by
  have k1 : d ∣ d' := by
    have : d ∣ n * d' := by rw [h]; exact Int.dvd_mul_left _ _
    exact dvd_co this (by rw [Int.gcd_comm]; exact h1)
  have k2 : d' ∣ d := by
    have : d' ∣ n' * d := by rw [← h]; exact Int.dvd_mul_left _ _
    exact dvd_co this (by rw [Int.gcd_comm]; exact h2)
  have e : d = d' := Int.dvd_antisymm (by omega) (by omega) k1 k2
  subst e
  exact ⟨Int.eq_of_mul_eq_mul_right (by omega) h, rfl⟩
theorem r_unique {a b n d : Int} (h : b ≠ 0) (hd : 0 < d) (hg : Int.gcd n d = 1) (e : n * b = a * d) : n = rN a b ∧ d = rD a b := by
  refine low_unique hd (rD_pos h) hg (r_coprime h) ?_
  have c := r_cross (a := a) h
  have : n * rD a b * b = rN a b * d * b := by
    calc n * rD a b * b = n * b * rD a b := by rw [Int.mul_right_comm]
      _ = a * d * rD a b := by rw [e]
      _ = a * rD a b * d := by rw [Int.mul_right_comm]
      _ = rN a b * b * d := by rw [c]
      _ = rN a b * d * b := by rw [Int.mul_right_comm]
  exact Int.eq_of_mul_eq_mul_right h this
theorem r_congr {a b a' b' : Int} (h : b ≠ 0) (h' : b' ≠ 0) (e : a * b' = a' * b) : rN a b = rN a' b' ∧ rD a b = rD a' b' := by
  refine r_unique h' (rD_pos h) (r_coprime h) ?_
  have c := r_cross (a := a) h
  have : rN a b * b' * b = a' * rD a b * b := by
    calc rN a b * b' * b = rN a b * b * b' := by rw [Int.mul_right_comm]
      _ = a * rD a b * b' := by rw [c]
      _ = a * b' * rD a b := by rw [Int.mul_right_comm]
      _ = a' * b * rD a b := by rw [e]
      _ = a' * rD a b * b := by rw [Int.mul_right_comm]
  exact Int.eq_of_mul_eq_mul_right h this
/-- what the program reckons -/
theorem rN_fdiv {a b : Int} (h : b ≠ 0) {p : Int} (hp : p = if b < 0 then -(Int.gcd a b : Int) else (Int.gcd a b : Int)) : a.fdiv p = rN a b ∧ b.fdiv p = rD a b ∧ p ≠ 0 := by
  have g := gcd_pos (a := a) h
  have hp0 : p ≠ 0 := by rw [hp]; split <;> omega
  have e1 := rN_mul (a := a) h
  have e2 := rD_mul (a := a) h
  rw [← hp] at e1 e2
  refine ⟨?_, ?_, hp0⟩
  · have := Int.mul_fdiv_cancel (rN a b) hp0
    rw [e1] at this
    exact this
  · have := Int.mul_fdiv_cancel (rD a b) hp0
    rw [e2] at this
    exact this
theorem mul_abs_le {x y z : Int} (hz : z ≠ 0) (e : x * z = y) : x.natAbs ≤ y.natAbs := by
  rw [← e, Int.natAbs_mul]
  exact Nat.le_mul_of_pos_right _ (by omega)
theorem rN_le (a b : Int) (h : b ≠ 0) : (rN a b).natAbs ≤ a.natAbs := by
  have g := gcd_pos (a := a) h
  exact mul_abs_le (by split <;> omega) (rN_mul h)
theorem rD_le (a b : Int) (h : b ≠ 0) : (rD a b).natAbs ≤ b.natAbs := by
  have g := gcd_pos (a := a) h
  exact mul_abs_le (by split <;> omega) (rD_mul h)
theorem r_self {n d : Int} (hd : 0 < d) (hg : Int.gcd n d = 1) : rN n d = n ∧ rD n d = d := by
  obtain ⟨e1, e2⟩ := r_unique (a := n) (b := d) (n := n) (d := d) (by omega) hd hg rfl
  exact ⟨e1.symm, e2.symm⟩
/-! ### sums, products of fractions that were brought to lowest terms -/
theorem r_add {a b c d : Int} (hb : b ≠ 0) (hd : d ≠ 0) : rN (rN a b * rD c d + rN c d * rD a b) (rD a b * rD c d) = rN (a * d + c * b) (b * d) ∧ rD (rN a b * rD c d + rN c d * rD a b) (rD a b * rD c d) = rD (a * d + c * b) (b * d) := by
  have p1 := rD_pos (a := a) hb
  have p2 := rD_pos (a := c) hd
  have c1 := r_cross (a := a) hb
  have c2 := r_cross (a := c) hd
  refine r_congr (Int.ne_of_gt (Int.mul_pos p1 p2)) (Int.mul_ne_zero hb hd) ?_
  generalize rN a b = n at *
  generalize rD a b = m at *
  generalize rN c d = n' at *
  generalize rD c d = m' at *
  rw [Int.add_mul, Int.add_mul]
  have e1 : n * m' * (b * d) = a * d * (m * m') := by
    calc n * m' * (b * d) = (n * b) * (m' * d) := by ac_rfl
      _ = (a * m) * (m' * d) := by rw [c1]
      _ = a * d * (m * m') := by ac_rfl
  have e2 : n' * m * (b * d) = c * b * (m * m') := by
    calc n' * m * (b * d) = (n' * d) * (m * b) := by ac_rfl
      _ = (c * m') * (m * b) := by rw [c2]
      _ = c * b * (m * m') := by ac_rfl
  rw [e1, e2]
theorem r_neg {a b : Int} (hb : b ≠ 0) : rN (-rN a b) (rD a b) = rN (-a) b ∧ rD (-rN a b) (rD a b) = rD (-a) b := by
  have p1 := rD_pos (a := a) hb
  have c1 := r_cross (a := a) hb
  refine r_congr (by omega) hb ?_
  rw [Int.neg_mul, Int.neg_mul, c1]
theorem r_sub {a b c d : Int} (hb : b ≠ 0) (hd : d ≠ 0) : rN (rN a b * rD c d - rN c d * rD a b) (rD a b * rD c d) = rN (a * d - c * b) (b * d) ∧ rD (rN a b * rD c d - rN c d * rD a b) (rD a b * rD c d) = rD (a * d - c * b) (b * d) := by
  have p1 := rD_pos (a := a) hb
  have p2 := rD_pos (a := c) hd
  have c1 := r_cross (a := a) hb
  have c2 := r_cross (a := c) hd
  refine r_congr (Int.ne_of_gt (Int.mul_pos p1 p2)) (Int.mul_ne_zero hb hd) ?_
  generalize rN a b = n at *
  generalize rD a b = m at *
  generalize rN c d = n' at *
  generalize rD c d = m' at *
  rw [Int.sub_mul, Int.sub_mul]
  have e1 : n * m' * (b * d) = a * d * (m * m') := by
    calc n * m' * (b * d) = (n * b) * (m' * d) := by ac_rfl
      _ = (a * m) * (m' * d) := by rw [c1]
      _ = a * d * (m * m') := by ac_rfl
  have e2 : n' * m * (b * d) = c * b * (m * m') := by
    calc n' * m * (b * d) = (n' * d) * (m * b) := by ac_rfl
      _ = (c * m') * (m * b) := by rw [c2]
      _ = c * b * (m * m') := by ac_rfl
  rw [e1, e2]
theorem r_mul {a b c d : Int} (hb : b ≠ 0) (hd : d ≠ 0) : rN (rN a b * rN c d) (rD a b * rD c d) = rN (a * c) (b * d) ∧ rD (rN a b * rN c d) (rD a b * rD c d) = rD (a * c) (b * d) := by
  have p1 := rD_pos (a := a) hb
  have p2 := rD_pos (a := c) hd
  have c1 := r_cross (a := a) hb
  have c2 := r_cross (a := c) hd
  refine r_congr (Int.ne_of_gt (Int.mul_pos p1 p2)) (Int.mul_ne_zero hb hd) ?_
  generalize rN a b = n at *
  generalize rD a b = m at *
  generalize rN c d = n' at *
  generalize rD c d = m' at *
  calc n * n' * (b * d) = (n * b) * (n' * d) := by ac_rfl
    _ = (a * m) * (c * m') := by rw [c1, c2]
    _ = a * c * (m * m') := by ac_rfl
/-! ### Euclid -/
theorem gcd_step {a b : Int} (ha : 0 ≤ a) (hb : 0 < b) : Int.gcd b (a % b) = Int.gcd a b := by
  have h : 0 ≤ a % b := Int.emod_nonneg _ (by omega)
  obtain ⟨n, rfl⟩ : ∃ n : Nat, a = n := ⟨a.toNat, by omega⟩
  obtain ⟨m, rfl⟩ : ∃ m : Nat, b = m := ⟨b.toNat, by omega⟩
  rw [← Int.natCast_emod, Int.gcd_natCast_natCast, Int.gcd_natCast_natCast, Nat.gcd_comm n m, Nat.gcd_rec m n, Nat.gcd_comm]
theorem euclid_drop {a b : Int} (hb : 0 < b) (h : b < a) : 2 * (b * (a % b)) ≤ a * b := by
  have h0 : 0 ≤ a % b := Int.emod_nonneg _ (by omega)
  have h1 : a % b < b := Int.emod_lt_of_pos _ hb
  have h2 : 1 ≤ a / b := by
    rw [Int.le_ediv_iff_mul_le hb]
    omega
  have h3 := Int.mul_ediv_add_emod a b
  have h4 : b * 1 ≤ b * (a / b) := Int.mul_le_mul_of_nonneg_left h2 (by omega)
  have h5 : 2 * (a % b) ≤ a := by omega
  have h6 : b * (2 * (a % b)) ≤ b * a := Int.mul_le_mul_of_nonneg_left h5 (by omega)
  rw [Int.mul_comm a b]
  calc 2 * (b * (a % b)) = b * (2 * (a % b)) := by ac_rfl
    _ ≤ b * a := h6
/-! ### a ratio as an object -/
def rf (n d : Int) : List (Str × V) := [("num", .int n), ("den", .int d)]
theorem nd_ne : ¬ (("num" : Str) = "den") := by decide +kernel
theorem rf_num (n d : Int) : (rf n d).lookup ("num" : Str) = some (.int n) := by
  unfold rf
  rw [List.lookup_cons, beq_self_eq_true]
theorem rf_den (n d : Int) : (rf n d).lookup ("den" : Str) = some (.int d) := by
  unfold rf
  rw [List.lookup_cons, show (("den" : Str) == "num") = false by decide +kernel, List.lookup_cons, beq_self_eq_true]
theorem rf_none (n d : Int) {m : Str} (h1 : ¬ m = "num") (h2 : ¬ m = "den") : (rf n d).lookup m = none := by
  unfold rf
  rw [List.lookup_cons, beq_eq_false_iff_ne.mpr h1, List.lookup_cons, beq_eq_false_iff_ne.mpr h2]
  rfl
theorem rf_put (n d : Int) : putF "den" (.int d) (putF "num" (.int n) []) = rf n d := by
  show (if ("num" : Str) = "den" then [(("num" : Str), V.int d)] else (("num" : Str), V.int n) :: putF "den" (V.int d) []) = _
  rw [if_neg nd_ne]
  rfl
/-- a ratio n / d stands at x -/
def RatAt (C : Addr) (H : Hp) (x : Addr) (n d : Int) : Prop := ∃ dx, H x = some (.ins C dx (rf n d))
theorem RatAt.same {C : Addr} {H H' : Hp} {x : Addr} {n d : Int} (h : RatAt C H x n d) (s : Same H H') : RatAt C H' x n d := let ⟨dx, e⟩ := h; ⟨dx, s _ _ e⟩
section
variable {K : PySem.W.Frag} {σ : L2.St} {H : Hp} {Q : VK} {ta : TE} {f : Str}
def qFld (K : PySem.W.Frag) (f : Str) (Q : VK) : VK := fun x H1 => ∃ a C dx fs v, x = .ref a ∧ H1 a = some (.ins C dx fs) ∧ Cls K C ∧ NoAttr K C f ∧ fs.lookup f = some v ∧ Q v H1
theorem go_fld (h : ta σ H (qFld K f Q)) : tFld K ta f σ H Q := h
theorem go_fldV {a C dx : Addr} {fs : List (Str × V)} {v : V} (e : H a = some (.ins C dx fs)) (c : Cls K C) (n : NoAttr K C f) (l : fs.lookup f = some v) (h : Q v H) : qFld K f Q (.ref a) H := ⟨a, C, dx, fs, v, rfl, e, c, n, l, h⟩
theorem go_rnum {a C dx : Addr} {m d : Int} (e : H a = some (.ins C dx (rf m d))) (c : Cls K C) (n : NoAttr K C "num") (h : Q (.int m) H) : qFld K "num" Q (.ref a) H := go_fldV e c n (rf_num m d) h
theorem go_rden {a C dx : Addr} {m d : Int} (e : H a = some (.ins C dx (rf m d))) (c : Cls K C) (n : NoAttr K C "den") (h : Q (.int d) H) : qFld K "den" Q (.ref a) H := go_fldV e c n (rf_den m d) h
theorem go_make {C : Addr} {sp : Sp} {dvs : List V} {E : XK} {t : TA} (h : t σ H fun vs H1 => ∀ x dx, H1 x = none → H1 dx = none → dx ≠ x →
  sp (.ref x :: (vs ++ dvs)) (upd (upd H1 dx (.own x)) x (.ins C dx [])) (fun v H2 => v = .non ∧ Q (.ref x) H2) E) : tMake C sp dvs E t σ H Q := h
theorem go_meth {C : Addr} {m : Str} {sp : Sp} {dvs : List V} {E : XK} {t : TA} (h : ta σ H fun x H1 => ∃ a dx fs, x = .ref a ∧ H1 a = some (.ins C dx fs) ∧ fs.lookup m = none ∧
  t σ H1 fun vs H2 => sp (x :: (vs ++ dvs)) H2 Q E) : tMeth C m sp dvs E ta t σ H Q := h
def sFldN (K : PySem.W.Frag) (f : Str) (y : V) (σ : L2.St) (D : Ends) : VK := fun x H2 => ∃ a C dx fs, x = .ref a ∧ H2 a = some (.ins C dx fs) ∧ Cls K C ∧ NoAttr K C f ∧ fs.length < 1000 ∧ D.nx σ (upd H2 a (.ins C dx (putF f y fs)))
theorem go_sfld {D : Ends} {tv : TE} (h : tv σ H fun y H1 => ta σ H1 (sFldN K f y σ D)) : sFld K ta tv f D σ H := h
theorem go_sfldV {D : Ends} {y : V} {a C dx : Addr} {fs : List (Str × V)} (e : H a = some (.ins C dx fs)) (c : Cls K C) (n : NoAttr K C f) (l : fs.length < 1000) (h : D.nx σ (upd H a (.ins C dx (putF f y fs)))) : sFldN K f y σ D (.ref a) H :=
  ⟨a, C, dx, fs, rfl, e, c, n, l, h⟩
end
theorem same_made {H H1 : Hp} {z dz : Addr} {o1 o2 : HO} (hz : H z = none) (hdz : H dz = none) (s : ∀ c o, c ≠ z → upd (upd H dz o1) z o2 c = some o → H1 c = some o) : Same H H1 := fun t o ht => by
  refine s t o (ne_of_none ht hz) ?_
  rw [upd_ne (ne_of_none ht hz), upd_ne (ne_of_none ht hdz)]
  exact ht
theorem p_mono {x : Int} {k n : Nat} (h : x.natAbs < 2 ^ k) (hk : k ≤ n) : x.natAbs < 2 ^ n := Nat.lt_of_lt_of_le h (Nat.pow_le_pow_right (by decide) hk)
theorem p30 {x : Int} (h : x.natAbs ≤ 10 ^ 30 + 1) : x.natAbs < 2 ^ 100 := Nat.lt_of_le_of_lt h (by decide)
theorem p_add {x y : Int} {k : Nat} (h1 : x.natAbs < 2 ^ k) (h2 : y.natAbs < 2 ^ k) : (x + y).natAbs < 2 ^ (k + 1) := by
  have := Int.natAbs_add_le x y
  rw [Nat.pow_succ]
  omega
theorem p_sub {x y : Int} {k : Nat} (h1 : x.natAbs < 2 ^ k) (h2 : y.natAbs < 2 ^ k) : (x - y).natAbs < 2 ^ (k + 1) := by
  have := Int.natAbs_sub_le x y
  rw [Nat.pow_succ]
  omega
/-! ### lists of ratios -/
/-- each of xs is a ratio, with the terms of rs -/
def RatsAt (C : Addr) (H : Hp) (xs : List V) (rs : List (Int × Int)) : Prop := xs.length = rs.length ∧ ∀ (i : Nat) x r, xs[i]? = some x → rs[i]? = some r → ∃ p dx, x = .ref p ∧ H p = some (.ins C dx (rf r.1 r.2))
theorem RatsAt.same {C : Addr} {H H' : Hp} {xs : List V} {rs : List (Int × Int)} (h : RatsAt C H xs rs) (s : Same H H') : RatsAt C H' xs rs :=
  ⟨h.1, fun i x r a b => let ⟨p, dx, e, k⟩ := h.2 i x r a b; ⟨p, dx, e, s _ _ k⟩⟩
theorem RatsAt.get {C : Addr} {H : Hp} {xs : List V} {rs : List (Int × Int)} (h : RatsAt C H xs rs) {i : Nat} {x : V} (e : xs[i]? = some x) : ∃ r p dx, rs[i]? = some r ∧ x = .ref p ∧ H p = some (.ins C dx (rf r.1 r.2)) := by
  have hi := (List.getElem?_eq_some_iff.mp e).1
  have hi2 : i < rs.length := by rw [← h.1]; exact hi
  obtain ⟨p, dx, e2, k⟩ := h.2 i x _ e (List.getElem?_eq_getElem hi2)
  exact ⟨_, p, dx, List.getElem?_eq_getElem hi2, e2, k⟩
theorem RatsAt.nil {C : Addr} {H : Hp} : RatsAt C H [] [] := ⟨rfl, fun i x r h _ => by simp at h⟩
theorem RatsAt.snoc {C : Addr} {H : Hp} {xs : List V} {rs : List (Int × Int)} (h : RatsAt C H xs rs) {p dx : Addr} {n d : Int} (e : H p = some (.ins C dx (rf n d))) : RatsAt C H (xs ++ [.ref p]) (rs ++ [(n, d)]) := by
  refine ⟨by simp [h.1], fun i x r a b => ?_⟩
  rcases Nat.lt_or_ge i xs.length with q | q
  · rw [List.getElem?_append_left q] at a
    rw [List.getElem?_append_left (by rw [← h.1]; exact q)] at b
    exact h.2 i x r a b
  · rw [List.getElem?_append_right q] at a
    rw [List.getElem?_append_right (by rw [← h.1]; exact q), ← h.1] at b
    rcases Nat.eq_zero_or_pos (i - xs.length) with z | z
    · rw [z] at a b
      cases a
      cases b
      exact ⟨p, dx, rfl, e⟩
    · rw [List.getElem?_eq_none (by simp; omega)] at a
      cases a
/-- a comprehension's list, by what was made at each place -/
theorem rats_of {C : Addr} {H : Hp} {ys : List V} {rs : List (Int × Int)} (hl : ys.length = rs.length) (h : ∀ (k : Nat) y, ys[k]? = some y → ∃ r p dx, rs[k]? = some r ∧ y = .ref p ∧ H p = some (.ins C dx (rf r.1 r.2))) : RatsAt C H ys rs :=
  ⟨hl, fun i x r a b => by
    obtain ⟨r', p, dx, e1, e2, e3⟩ := h i x a
    rw [b] at e1
    cases e1
    exact ⟨p, dx, e2, e3⟩⟩
/-- the denominator of the common form -/
def cden (rs : List (Int × Int)) : Nat := rs.foldl (fun m r => Nat.lcm m r.2.natAbs) 1
theorem cden_snoc (rs : List (Int × Int)) (r : Int × Int) : cden (rs ++ [r]) = Nat.lcm (cden rs) r.2.natAbs := by
  unfold cden
  rw [List.foldl_append]
  rfl
theorem cden_take {rs : List (Int × Int)} {i : Nat} {r : Int × Int} (h : rs[i]? = some r) : cden (rs.take (i + 1)) = Nat.lcm (cden (rs.take i)) r.2.natAbs := by
  rw [List.take_add_one, h, show (some r).toList = [r] from rfl, cden_snoc]
theorem lfold_pos : ∀ (rs : List (Int × Int)) (m : Nat), 0 < m → (∀ r ∈ rs, 0 < r.2) → 0 < rs.foldl (fun m r => Nat.lcm m r.2.natAbs) m
  | [], m, h, _ => h
  | r :: t, m, h, hr => by
    rw [List.foldl_cons]
    refine lfold_pos t _ (Nat.lcm_pos h ?_) fun z hz => hr z (List.mem_cons_of_mem _ hz)
    have := hr r List.mem_cons_self
    omega
theorem cden_pos {rs : List (Int × Int)} (h : ∀ r ∈ rs, 0 < r.2) : 0 < cden rs := lfold_pos rs 1 (by decide) h
theorem lfold_dvd : ∀ (rs : List (Int × Int)) (m : Nat), m ∣ rs.foldl (fun m r => Nat.lcm m r.2.natAbs) m ∧ ∀ r ∈ rs, r.2.natAbs ∣ rs.foldl (fun m r => Nat.lcm m r.2.natAbs) m
  | [], m => ⟨Nat.dvd_refl _, fun r h => nomatch h⟩
  | s :: t, m => by
    rw [List.foldl_cons]
    obtain ⟨h1, h2⟩ := lfold_dvd t (Nat.lcm m s.2.natAbs)
    refine ⟨Nat.dvd_trans (Nat.dvd_lcm_left _ _) h1, fun r hr => ?_⟩
    rcases List.mem_cons.mp hr with rfl | hr
    · exact Nat.dvd_trans (Nat.dvd_lcm_right _ _) h1
    · exact h2 r hr
theorem cden_dvd {rs : List (Int × Int)} {r : Int × Int} (h : r ∈ rs) : r.2.natAbs ∣ cden rs := (lfold_dvd rs 1).2 r h
theorem lfold_least : ∀ (rs : List (Int × Int)) (m k : Nat), m ∣ k → (∀ r ∈ rs, r.2.natAbs ∣ k) → rs.foldl (fun m r => Nat.lcm m r.2.natAbs) m ∣ k
  | [], m, k, h, _ => h
  | s :: t, m, k, h, hr => by
    rw [List.foldl_cons]
    exact lfold_least t _ k (Nat.lcm_dvd h (hr s List.mem_cons_self)) fun z hz => hr z (List.mem_cons_of_mem _ hz)
theorem cden_least {rs : List (Int × Int)} {k : Nat} (h : ∀ r ∈ rs, r.2.natAbs ∣ k) : cden rs ∣ k := lfold_least rs 1 k (Nat.one_dvd _) h
theorem lfold_lt : ∀ (rs : List (Int × Int)) (m e : Nat), m < 2 ^ e → (∀ r ∈ rs, r.2.natAbs < 2 ^ 100) → rs.foldl (fun m r => Nat.lcm m r.2.natAbs) m < 2 ^ (e + 100 * rs.length)
  | [], m, e, h, _ => h
  | s :: t, m, e, h, hr => by
    rw [List.foldl_cons]
    have h1 : Nat.lcm m s.2.natAbs ≤ m * s.2.natAbs := Nat.div_le_self _ _
    have h2 : m * s.2.natAbs < 2 ^ e * 2 ^ 100 := Nat.mul_lt_mul'' h (hr s List.mem_cons_self)
    rw [← Nat.pow_add] at h2
    have := lfold_lt t (Nat.lcm m s.2.natAbs) (e + 100) (Nat.lt_of_le_of_lt h1 h2) fun z hz => hr z (List.mem_cons_of_mem _ hz)
    rw [List.length_cons, show e + 100 * (t.length + 1) = e + 100 + 100 * t.length by omega]
    exact this
theorem cden_lt {rs : List (Int × Int)} (h : ∀ r ∈ rs, r.2.natAbs < 2 ^ 100) (hl : rs.length ≤ 60) : cden rs < 2 ^ 9000 :=
  Nat.lt_of_lt_of_le (lfold_lt rs 1 1 (by decide) h) (Nat.pow_le_pow_right (by decide) (by omega))
/-- the numbers of the common form -/
def cnum (rs : List (Int × Int)) : List Int := rs.map fun r => r.1 * ((cden rs : Int) / r.2)
section
variable {K : PySem.W.Frag} {σ : L2.St} {H : Hp} {R : L2.St → Hp → Prop} {t : TG} {u : TGs}
theorem go_gtup {n : Nat} {a : Addr} {xs : List V} (h : SqT K H a xs) (hl : xs.length = n) (q : u xs σ H R) : gTup K n u (.ref a) σ H R := ⟨a, xs, rfl, h, hl, q⟩
theorem go_gcons {v : V} {r : List V} (h : t v σ H fun σ' H' => u r σ' H' R) : gCons t u (v :: r) σ H R := ⟨v, r, rfl, h⟩
theorem go_gnil (h : R σ H) : gNil [] σ H R := ⟨rfl, h⟩
end
/-! ### comprehensions that make objects -/
/-- what is told of an item stays as the heap grows, and as a list is written -/
structure Stays (P : Hp → Nat → V → Prop) : Prop where
  same : ∀ H H' k y, Same H H' → P H k y → P H' k y
  lst : ∀ H D zs zs' k y, H D = some (.lst zs) → P H k y → P (upd H D (.lst zs')) k y
theorem stays_rat {C : Addr} {rs : List (Int × Int)} : Stays fun H k y => ∃ r p dx, rs[k]? = some r ∧ y = .ref p ∧ H p = some (.ins C dx (rf r.1 r.2)) :=
  ⟨fun H H' k y s ⟨r, p, dx, a, b, c⟩ => ⟨r, p, dx, a, b, s _ _ c⟩, fun H D zs zs' k y e ⟨r, p, dx, a, b, c⟩ => ⟨r, p, dx, a, b, by rw [upd_ne (ne_of c e (by intro z; cases z))]; exact c⟩⟩
section
variable {K : PySem.W.Frag} {σ : L2.St} {H H1 : Hp} {Q : VK} {tl te : TE} {vs : List Nat} {j : Nat}
theorem lcLh {R : Addr → Hp → Prop} {a : Addr} (xs : List V) {P : Hp → Nat → V → Prop} (hP : Stays P) (hs : SqL K H1 a xs) (hz : xs.length ≤ 100000) (hw : ∀ x, wipe ((wipe σ vs).set j x) vs = wipe σ vs)
    (he : ∀ (i : Nat) x H', xs[i]? = some x → Same H1 H' → ∀ R : VK, (∀ y H'', Same H' H'' → P H'' i y → R y H'') → te ((wipe σ vs).set j (some x)) H' R)
    (q : ∀ D (ys : List V) H2, H1 D = none → Same H1 H2 → H2 D = some (.lst ys) → ys.length = xs.length → (∀ k y, ys[k]? = some y → P H2 k y) → R D H2) :
    ∃ b, V.ref a = .ref b ∧ (∃ xs, SqL K H1 b xs) ∧ ∀ D, H1 D = none → ∃ W : Nat → Nat → Hp → Prop, (∃ m, W 0 m (upd H1 D (.lst []))) ∧ ∀ i m H, W i m H →
      ((Itl K b).stop i H ∧ R D H) ∨ ((Itl K b).go i H ∧ ∃ Nx : Hp → Prop, (∀ H', Nx H' → ∃ m', m' < m ∧ W (i + 1) m' H') ∧ ∀ x H', (Itl K b).yld i H x H' → gName j x (wipe σ vs) H' fun σ2 H2 => wipe σ2 vs = wipe σ vs ∧ tYes σ2 H2 fun b H3 =>
        if b = true then te σ2 H3 fun y H4 => ∃ acc, H4 D = some (.lst acc) ∧ acc.length < sizeLine ∧ Nx (upd H4 D (.lst (acc ++ [y]))) else Nx H3) := by
  refine ⟨a, rfl, ⟨xs, hs⟩, fun D hD => ?_⟩
  refine lc_list (xs := xs) (fun i H' => Same H1 H' ∧ ∃ ys : List V, H' D = some (.lst ys) ∧ ys.length = i ∧ ∀ k y, ys[k]? = some y → P H' k y) ⟨same_new hD, [], upd_same, rfl, fun k y h => by simp at h⟩ (fun i H _ p => same_sqL p.1 hs) (fun i x H hx p => ?_) fun H p => ?_
  · obtain ⟨s, ys, e, hl, hp⟩ := p
    refine ⟨hw _, ?_⟩
    refine go_yes ?_
    refine iteT ?_
    refine he i x H hx s _ fun y H4 s4 hy => ?_
    have hi := (List.getElem?_eq_some_iff.mp hx).1
    have e4 := s4 _ _ e
    refine ⟨ys, e4, szlt (by omega), same_mut (s.trans s4) hD, ys ++ [y], upd_same, by simp [hl], fun k z hz => ?_⟩
    refine hP.lst _ _ ys _ _ _ e4 ?_
    rcases Nat.lt_or_ge k ys.length with h | h
    · rw [List.getElem?_append_left h] at hz
      exact hP.same _ _ _ _ s4 (hp k z hz)
    · rw [List.getElem?_append_right h] at hz
      rcases Nat.eq_or_lt_of_le h with e2 | e2
      · rw [← e2, Nat.sub_self] at hz
        cases hz
        rw [← e2, hl]
        exact hy
      · rw [List.getElem?_eq_none (by simp; omega)] at hz
        cases hz
  · obtain ⟨s, ys, e, hl, hp⟩ := p
    exact q D ys H hD s e hl hp
end
/-! ### lists of pairs -/
def PairsAt (H : Hp) (xs : List V) (ts : List (Int × Int)) : Prop := xs.length = ts.length ∧ ∀ (i : Nat) x t, xs[i]? = some x → ts[i]? = some t → ∃ p, x = .ref p ∧ H p = some (.tup [.int t.1, .int t.2])
theorem PairsAt.nil {H : Hp} : PairsAt H [] [] := ⟨rfl, fun i x r h _ => by simp at h⟩
theorem PairsAt.same {H H' : Hp} {xs : List V} {ts : List (Int × Int)} (h : PairsAt H xs ts) (s : Same H H') : PairsAt H' xs ts :=
  ⟨h.1, fun i x r a b => let ⟨p, e, k⟩ := h.2 i x r a b; ⟨p, e, s _ _ k⟩⟩
theorem PairsAt.get {H : Hp} {xs : List V} {ts : List (Int × Int)} (h : PairsAt H xs ts) {i : Nat} {t : Int × Int} (e : ts[i]? = some t) : ∃ p, xs[i]? = some (.ref p) ∧ H p = some (.tup [.int t.1, .int t.2]) := by
  have hi := (List.getElem?_eq_some_iff.mp e).1
  have hi2 : i < xs.length := by rw [h.1]; exact hi
  obtain ⟨p, e2, k⟩ := h.2 i _ t (List.getElem?_eq_getElem hi2) e
  exact ⟨p, by rw [List.getElem?_eq_getElem hi2, e2], k⟩
/-- a list is written: the pairs stand -/
theorem PairsAt.lst {H : Hp} {xs : List V} {ts : List (Int × Int)} {D : Addr} {zs zs' : List V} (h : PairsAt H xs ts) (e : H D = some (.lst zs)) : PairsAt (upd H D (.lst zs')) xs ts :=
  ⟨h.1, fun i x r a b => let ⟨p, e1, k⟩ := h.2 i x r a b; ⟨p, e1, by rw [upd_ne (ne_of k e (by intro z; cases z))]; exact k⟩⟩
theorem PairsAt.snoc {H : Hp} {xs : List V} {ts : List (Int × Int)} (h : PairsAt H xs ts) {p : Addr} {n d : Int} (e : H p = some (.tup [.int n, .int d])) : PairsAt H (xs ++ [.ref p]) (ts ++ [(n, d)]) := by
  refine ⟨by simp [h.1], fun i x r a b => ?_⟩
  rcases Nat.lt_or_ge i xs.length with q | q
  · rw [List.getElem?_append_left q] at a
    rw [List.getElem?_append_left (by rw [← h.1]; exact q)] at b
    exact h.2 i x r a b
  · rw [List.getElem?_append_right q] at a
    rw [List.getElem?_append_right (by rw [← h.1]; exact q), ← h.1] at b
    rcases Nat.eq_zero_or_pos (i - xs.length) with z | z
    · rw [z] at a b
      cases a
      cases b
      exact ⟨p, rfl, e⟩
    · rw [List.getElem?_eq_none (by simp; omega)] at a
      cases a
/-! ### the common form is the least -/
theorem form_coprime {rs : List (Int × Int)} (hpos : ∀ r ∈ rs, 0 < r.2) (hco : ∀ r ∈ rs, Int.gcd r.1 r.2 = 1) {g : Nat} (h1 : g ∣ cden rs) (h2 : ∀ n ∈ cnum rs, (g : Int) ∣ n) : g = 1 := by
  have hL := cden_pos hpos
  obtain ⟨m, hm⟩ := h1
  have hg : 0 < g := by
    rcases Nat.eq_zero_or_pos g with z | z
    · rw [z, Nat.zero_mul] at hm
      omega
    · exact z
  have hmp : 0 < m := by
    rcases Nat.eq_zero_or_pos m with z | z
    · rw [z, Nat.mul_zero] at hm
      omega
    · exact z
  have key : cden rs ∣ m := cden_least fun r hr => by
    have hd := cden_dvd hr
    have d0 := hpos r hr
    have co := hco r hr
    have hn : (g : Int) ∣ r.1 * ((cden rs : Int) / r.2) := h2 _ (List.mem_map_of_mem hr)
    obtain ⟨k, hk⟩ := hd
    have hrd : r.2 = (r.2.natAbs : Int) := by omega
    have hq : (cden rs : Int) / r.2 = (k : Int) := by
      rw [hk, hrd]
      push_cast
      rw [Int.natAbs_natCast]
      exact Int.mul_ediv_cancel_left _ (by omega)
    rw [hq] at hn
    have hn2 : g ∣ r.1.natAbs * k := by
      have := Int.natAbs_dvd_natAbs.mpr hn
      rw [Int.natAbs_natCast, Int.natAbs_mul, Int.natAbs_natCast] at this
      exact this
    have hn3 : g ∣ r.2.natAbs * k := by rw [← hk]; exact ⟨m, hm⟩
    have hgk : g ∣ k := by
      have := Nat.dvd_gcd hn2 hn3
      rw [Nat.gcd_mul_right] at this
      have e : Nat.gcd r.1.natAbs r.2.natAbs = 1 := co
      rw [e, Nat.one_mul] at this
      exact this
    obtain ⟨j, hj⟩ := hgk
    refine ⟨j, ?_⟩
    have : g * m = g * (r.2.natAbs * j) := by rw [← hm, hk, hj]; ac_rfl
    exact Nat.eq_of_mul_eq_mul_left hg this
  have := Nat.le_of_dvd hmp key
  rw [hm] at this
  rcases Nat.lt_or_ge 1 g with z | z
  · exfalso
    have : 2 * m ≤ g * m := Nat.mul_le_mul_right _ z
    omega
  · omega
theorem cnum_len (rs : List (Int × Int)) : (cnum rs).length = rs.length := by unfold cnum; rw [List.length_map]
theorem cnum_at {rs : List (Int × Int)} {i : Nat} {r : Int × Int} (h : rs[i]? = some r) : (cnum rs)[i]? = some (r.1 * ((cden rs : Int) / r.2)) := by
  unfold cnum
  rw [List.getElem?_map, h]
  rfl
theorem cnum_mul {rs : List (Int × Int)} {r : Int × Int} (h : r ∈ rs) : r.1 * ((cden rs : Int) / r.2) * r.2 = r.1 * (cden rs : Int) := by
  have : r.2 ∣ (cden rs : Int) := Int.natAbs_dvd_natAbs.mp (by rw [Int.natAbs_natCast]; exact cden_dvd h)
  rw [Int.mul_assoc, Int.ediv_mul_cancel this]
end Gx

set_option Elab.async false
set_option linter.all false
set_option maxRecDepth 100000
set_option maxHeartbeats 4000000
/-! Own lemmas: data at any depth (Dp), tuples joined and cut, a range with a step, a list turned round. -/
namespace Gx
open PySem PySem.Spec PyProof.Rows L2
section
variable {K : PySem.W.Frag} {H H' : Hp}
mutual
theorem dp_same (s : Same H H') : ∀ (d : PyData) (v : V), Dp K H v d → Dp K H' v d
  | .none, _, h => by cases h; exact .non
  | .bool b, _, h => by cases h; exact .bl b
  | .int i, _, h => by cases h; exact .int i
  | .str x, _, h => by cases h; exact .str x
  | .list ds, _, h => by
    cases h with
    | lst hs ha => exact .lst (Same.seq s hs) (dpAll_same s ds _ ha)
  | .tuple ds, _, h => by
    cases h with
    | tup hs ha => exact .tup (same_sqT s hs) (dpAll_same s ds _ ha)
  | .dict _, _, h => by cases h
theorem dpAll_same (s : Same H H') : ∀ (ds : List PyData) (vs : List V), DpAll K H vs ds → DpAll K H' vs ds
  | [], _, h => by cases h; exact .nil
  | d :: ds, _, h => by
    cases h with
    | cons h1 h2 => exact .cons (dp_same s d _ h1) (dpAll_same s ds _ h2)
end
theorem dpAll_len : ∀ {ds : List PyData} {vs : List V}, DpAll K H vs ds → vs.length = ds.length
  | [], _, h => by cases h; rfl
  | d :: ds, _, h => by
    cases h with
    | cons h1 h2 => simp [dpAll_len h2]
theorem dpAll_get : ∀ {ds : List PyData} {vs : List V} {i : Nat} {d : PyData}, DpAll K H vs ds → ds[i]? = some d → ∃ v, vs[i]? = some v ∧ Dp K H v d
  | [], _, i, d, _, e => by simp at e
  | d :: ds, _, 0, d', h, e => by
    cases h with
    | cons h1 h2 =>
      simp at e
      subst e
      exact ⟨_, rfl, h1⟩
  | d :: ds, _, i + 1, d', h, e => by
    cases h with
    | cons h1 h2 =>
      simp at e
      obtain ⟨v, e2, h3⟩ := dpAll_get h2 e
      exact ⟨v, by simpa using e2, h3⟩
theorem dpAll_last {K : PySem.W.Frag} {H : Hp} {ds : List PyData} {vs : List V} {v : V} (h : DpAll K H vs ds) (e : vs.getLast? = some v) : ∃ d, ds.getLast? = some d ∧ Dp K H v d := by
  have hl := dpAll_len h
  rw [List.getLast?_eq_getElem?] at e
  have hlt := (List.getElem?_eq_some_iff.mp e).1
  obtain ⟨d, ed⟩ : ∃ d, ds[ds.length - 1]? = some d := ⟨_, List.getElem?_eq_getElem (by omega)⟩
  obtain ⟨v2, e2, h2⟩ := dpAll_get h ed
  rw [← hl, e] at e2
  cases e2
  exact ⟨d, by rw [List.getLast?_eq_getElem?]; exact ed, h2⟩
theorem dpAll_append : ∀ {ds es : List PyData} {vs us : List V}, DpAll K H vs ds → DpAll K H us es → DpAll K H (vs ++ us) (ds ++ es)
  | [], es, _, us, h, k => by cases h; exact k
  | d :: ds, es, _, us, h, k => by
    cases h with
    | cons h1 h2 => exact .cons h1 (dpAll_append h2 k)
theorem dpAll_take : ∀ {ds : List PyData} {vs : List V} (n : Nat), DpAll K H vs ds → DpAll K H (vs.take n) (ds.take n)
  | [], _, n, h => by cases h; simp; exact .nil
  | d :: ds, _, 0, h => by simp; exact .nil
  | d :: ds, _, n + 1, h => by
    cases h with
    | cons h1 h2 => exact .cons h1 (dpAll_take n h2)
theorem dpAll_reverse : ∀ {ds : List PyData} {vs : List V}, DpAll K H vs ds → DpAll K H vs.reverse ds.reverse
  | [], _, h => by cases h; exact .nil
  | d :: ds, _, h => by
    cases h with
    | cons h1 h2 =>
      rw [List.reverse_cons, List.reverse_cons]
      exact dpAll_append (dpAll_reverse h2) (.cons h1 .nil)
/-! data without lists: they outlast what is stored into a list -/
mutual
def noL : PyData → Bool
  | .list _ => false
  | .dict _ => false
  | .tuple xs => noLAll xs
  | _ => true
def noLAll : List PyData → Bool
  | [] => true
  | d :: ds => noL d && noLAll ds
end
theorem sqT_put {l a : Addr} {ys zs xs : List V} (hl : H l = some (.lst ys)) (h : SqT K H a xs) : SqT K (upd H l (.lst zs)) a xs := by
  have ne : ∀ {o : HO}, H a = some o → o ≠ .lst ys → a ≠ l := fun e n z => by
    rw [z, hl] at e
    exact n (Option.some.inj e).symm
  rcases h with (h | ⟨o, h⟩) | h
  · exact .inl (.inl (by rw [upd_ne (ne h (fun z => by cases z))]; exact h))
  · exact .inl (.inr ⟨o, by rw [upd_ne (ne h (fun z => by cases z))]; exact h⟩)
  · exact .inr h
mutual
theorem dp_put {l : Addr} {ys zs : List V} (hl : H l = some (.lst ys)) : ∀ (d : PyData) (v : V), noL d = true → Dp K H v d → Dp K (upd H l (.lst zs)) v d
  | .none, _, _, h => by cases h; exact .non
  | .bool b, _, _, h => by cases h; exact .bl b
  | .int i, _, _, h => by cases h; exact .int i
  | .str x, _, _, h => by cases h; exact .str x
  | .list ds, _, n, _ => by simp [noL] at n
  | .tuple ds, _, n, h => by
    cases h with
    | tup hs ha => exact .tup (sqT_put hl hs) (dpAll_put hl ds _ (by simpa [noL] using n) ha)
  | .dict _, _, n, _ => by simp [noL] at n
theorem dpAll_put {l : Addr} {ys zs : List V} (hl : H l = some (.lst ys)) : ∀ (ds : List PyData) (vs : List V), noLAll ds = true → DpAll K H vs ds → DpAll K (upd H l (.lst zs)) vs ds
  | [], _, _, h => by cases h; exact .nil
  | d :: ds, _, n, h => by
    have n' : noL d = true ∧ noLAll ds = true := by simpa [noLAll] using n
    cases h with
    | cons h1 h2 => exact .cons (dp_put hl d _ n'.1 h1) (dpAll_put hl ds _ n'.2 h2)
end
theorem noL_all : ∀ {ds : List PyData}, (∀ d ∈ ds, noL d = true) → noLAll ds = true
  | [], _ => rfl
  | d :: ds, h => by
    show (noL d && noLAll ds) = true
    rw [h d (List.mem_cons_self ..), noL_all fun x hx => h x (List.mem_cons_of_mem _ hx)]
    rfl
theorem dp_tup {v : V} {ds : List PyData} (h : Dp K H v (.tuple ds)) : ∃ a xs, v = .ref a ∧ SqT K H a xs ∧ DpAll K H xs ds := by
  cases h with
  | tup hs ha => exact ⟨_, _, rfl, hs, ha⟩
variable {Q : VK} {R : L2.St → Hp → Prop}
theorem go_catA {a b : Addr} {xs ys : List V} (h1 : SqT K H a xs) (h2 : SqT K H b ys) (hz : xs.length + ys.length ≤ 100000) (hy : ys ≠ [])
    (q : ∀ p H', Same H H' → SqT K H' p (xs ++ ys) → Q (.ref p) H') : rCatA K (.ref a) (.ref b) H Q := by
  refine ⟨a, b, xs, ys, rfl, rfl, h1, h2, Nat.le_trans hz (by rw [sizeLine_eq]; decide), fun e => ?_, fun _ e => absurd e hy, fun _ _ p hp => ?_⟩
  · subst e
    exact q b H (Same.refl _) h2
  · exact q p _ (fun c o hc => by rw [upd_ne (ne_of_none hc hp)]; exact hc) (.inl (.inl upd_same))
theorem go_slTo {a : Addr} {xs : List V} {k : Nat} (h : SqT K H a xs) (hk : k ≤ xs.length) (q : ∀ p H', Same H H' → SqT K H' p (xs.take k) → Q (.ref p) H') : rSlA K (.ref a) none (some (k : Int)) H Q := by
  refine ⟨a, xs, rfl, h, fun e => ?_, fun _ p hp => ?_⟩
  · have e2 := e.2
    rw [HT.sIx_nat] at e2
    have : xs.take k = xs := List.take_of_length_le (by omega)
    exact q a H (Same.refl _) (by rw [this]; exact h)
  · have e : cutV xs none (some (k : Int)) = xs.take k := by
      unfold cutV
      rw [HT.sIx_none, HT.sIx_nat]
      simp
    exact q p _ (fun c o hc => by rw [upd_ne (ne_of_none hc hp)]; exact hc) (.inl (.inl (by rw [upd_same, e])))
theorem go_eqD {x y : V} {d : PyData} (h1 : Dp K H x d) (h2 : Dp K H y d) (hs : SeqAt.shaped d = true) (q : Q (.bl true) H) : rEqD K x y H Q :=
  ⟨d, d, h1, h2, hs, hs, by rw [SeqAt.eqv_refl d (SeqAt.canLay_of_shaped hs)]; exact q⟩
theorem go_neD {x y : V} {d : PyData} (h1 : Dp K H x d) (h2 : Dp K H y d) (hs : SeqAt.shaped d = true) (q : Q (.bl false) H) : rNeD K x y H Q :=
  ⟨d, d, h1, h2, hs, hs, by rw [SeqAt.eqv_refl d (SeqAt.canLay_of_shaped hs)]; exact q⟩
theorem at_0 {x : V} {l : List V} : atI (x :: l) 0 = some x := at_nat (xs := x :: l) (i := 0) rfl
theorem at_1 {x y : V} {l : List V} : atI (x :: y :: l) 1 = some y := at_nat (xs := x :: y :: l) (i := 1) rfl
theorem at_2 {x y z : V} {l : List V} : atI (x :: y :: z :: l) 2 = some z := at_nat (xs := x :: y :: z :: l) (i := 2) rfl
theorem at_last {xs : List V} (h : xs ≠ []) : atI xs (-1) = xs.getLast? := by
  have hl : 0 < xs.length := List.length_pos_iff.mpr h
  have e : ixN xs.length (-1) = some (xs.length - 1) := by
    unfold ixN
    rw [if_neg (by decide), if_pos (by omega)]
    congr 1
    omega
  unfold atI
  rw [e, Option.bind_some, List.getLast?_eq_getElem?]
theorem go_iRng3 {σ : L2.St} {ta : TA} {R : It → Hp → Prop} (h : ta σ H fun vs H1 => ∃ (i j c : Int) (n : Nat), vs = [.int i, .int j, .int c] ∧ RgC i j c n ∧ R (Itc i c n) H1) : iRng3 ta σ H R := h
/-- for i in range(n - 1, -1, -1) -/
theorem foRdn {σ : L2.St} {D : Ends} {g : TG} {tb : TS} {n : Nat} (Pv : Nat → L2.St → Hp → Prop) (hn : n ≤ 1000000) (h0 : Pv 0 σ H)
    (hs : ∀ (i : Nat) σ H, i < n → Pv i σ H → g (.int ((n - 1 - i : Nat) : Int)) σ H fun σ2 H2 => tb { D with nx := Pv (i + 1), ct := Pv (i + 1), bk := D.nx } σ2 H2) (hd : ∀ σ H, Pv n σ H → D.nx σ H) :
    ∃ (i j c : Int) (k : Nat), [V.int ((n : Int) - 1), .int (-1), .int (-1)] = [.int i, .int j, .int c] ∧ RgC i j c k ∧ ∃ W : Nat → Nat → L2.St → Hp → Prop, (∃ m, W 0 m σ H) ∧ ∀ i' m σ H, W i' m σ H →
      ((Itc i c k).stop i' H ∧ D.nx σ H) ∨ ((Itc i c k).go i' H ∧ ∃ N : L2.St → Hp → Prop, (∀ σ' H', N σ' H' → ∃ m', m' < m ∧ W (i' + 1) m' σ' H') ∧ ∀ x H', (Itc i c k).yld i' H x H' → g x σ H' fun σ2 H2 => tb { D with nx := N, ct := N, bk := D.nx } σ2 H2) := by
  have r := RgC.neg (i := (n : Int) - 1) (j := -1) (by omega) (by omega) (by omega) (by omega)
  have e : ((n : Int) - 1 - -1).toNat = n := by omega
  rw [e] at r
  refine ⟨_, _, _, n, rfl, r, for_rangeC Pv h0 (fun i σ H hi p => ?_) hd⟩
  have e2 : (n : Int) - 1 + (i : Nat) * (-1) = ((n - 1 - i : Nat) : Int) := by omega
  rw [e2]
  exact hs i σ H hi p
/-- t + ((..),): a view with one more item -/
theorem add_dp {vw p p2 : Addr} {xs : List V} {ds es : List PyData} (hv : Dp K H (.ref vw) (.tuple ds)) (hp : H p = none) (hp2 : upd H p (.tup xs) p2 = none) (hx : ∀ H', DpAll K H' xs es) (hl : ds.length ≤ 1000)
    (q : ∀ p3 H3, Same H H3 → Dp K H3 (.ref p3) (.tuple (ds ++ [.tuple es])) → Q (.ref p3) H3) : rCatA K (.ref vw) (.ref p2) (upd (upd H p (.tup xs)) p2 (.tup [.ref p])) Q := by
  obtain ⟨a, ys, e, h1, h2⟩ := dp_tup hv
  cases e
  have s1 : Same H (upd (upd H p (.tup xs)) p2 (.tup [.ref p])) := fun c o hc => by
    have h3 : upd H p (.tup xs) c = some o := by rw [upd_ne (ne_of_none hc hp)]; exact hc
    rw [upd_ne (ne_of_none h3 hp2)]
    exact h3
  have hpp : upd (upd H p (.tup xs)) p2 (.tup [.ref p]) p = some (.tup xs) := by
    have h3 : upd H p (.tup xs) p = some (.tup xs) := upd_same
    rw [upd_ne (ne_of_none h3 hp2)]
    exact h3
  have hlen := dpAll_len h2
  refine go_catA (same_sqT s1 h1) (.inl (.inl upd_same)) (by simp; omega) (by simp) fun p3 H3 s3 e3 => ?_
  refine q p3 H3 (s1.trans s3) (.tup e3 (dpAll_append (dpAll_same (s1.trans s3) _ _ h2) (.cons (.tup (.inl (.inl (s3 _ _ hpp))) (hx H3)) .nil)))
theorem go_revL {te : TE} {σ : L2.St} (h : te σ H fun x H1 => ∃ a xs, x = .ref a ∧ SqL K H1 a xs ∧ ∀ p, H1 p = none → Q (.ref p) (upd H1 p (.lst xs.reverse))) : tRevL K te σ H Q := h
end
end Gx

local macro_rules | `(tactic| walk_at "side") => `(tactic| first | decide | omega | assumption | exact Or.inl ⟨by decide, by decide⟩ | exact Or.inr ⟨by decide, by decide⟩ | exact Or.inl ⟨by omega, by omega⟩ | exact Or.inr ⟨by omega, by omega⟩ | (refine ⟨?_, ?_⟩ <;> first | decide | omega | assumption))
local macro_rules | `(tactic| walk_at "go1") => `(tactic| first
  | with_reducible refine Gx.go_seq ?_
  | with_reducible refine Gx.go_asg ?_
  | with_reducible refine Gx.go_name ?_
  | with_reducible refine Gx.go_var rfl ?_
  | with_reducible refine Gx.go_c ?_
  | with_reducible refine Gx.go_op ?_
  | with_reducible refine Gx.go_rI0 ?_
  | ((with_reducible refine Gx.go_rI ?k1 ?k2); (case k1 => walk_at "side"))
  | with_reducible refine Gx.go_test ?_
  | with_reducible refine Gx.go_if ?_
  | with_reducible refine Gx.go_cons ?_
  | with_reducible refine Gx.go_nil ?_
  | with_reducible refine Gx.go_CB ?_
  | with_reducible refine Gx.go_call ?_
  | with_reducible refine Gx.go_eqI ?_
  | with_reducible refine Gx.go_neI ?_
  | with_reducible refine Gx.go_eqS ?_
  | with_reducible refine Gx.go_neS ?_
  | with_reducible refine Gx.go_eqB ?_
  | with_reducible refine Gx.go_neB ?_
  | with_reducible refine Gx.go_eqN ?_
  | with_reducible refine Gx.ite_dt ?_
  | with_reducible refine Gx.go_ret ?_
  | with_reducible refine Gx.go_retN ?_
  | with_reducible refine Gx.go_next ?_
  | with_reducible refine Gx.go_drop ?_
  | with_reducible refine Gx.go_un ?_
  | with_reducible refine Gx.go_rU ?_
  | with_reducible refine Gx.go_and ?_
  | with_reducible refine Gx.go_or ?_
  | with_reducible refine Gx.go_not ?_
  | with_reducible refine Gx.go_andV ?_
  | with_reducible refine Gx.go_orV ?_
  | with_reducible refine Gx.go_notV ?_
  | with_reducible refine Gx.go_blA ?_
  | with_reducible refine L2.iteT ?_
  | with_reducible refine L2.iteF ?_
  | with_reducible refine Gx.ite_nt ?_
  | with_reducible refine Gx.ite_nf ?_
  | with_reducible refine Gx.go_ifE ?_
  | with_reducible refine Gx.go_chain ?_
  | with_reducible refine Gx.go_B ?_
  | with_reducible refine Gx.go_int1 ?_
  | with_reducible refine Gx.go_intB ?_
  | with_reducible refine Gx.go_lst ?_
  | with_reducible refine Gx.go_tup ?_
  | with_reducible refine Gx.go_sl ?_
  | with_reducible refine Gx.go_noPart ?_
  | with_reducible refine Gx.go_part ?_
  | with_reducible refine Gx.go_partI ?_
  | with_reducible refine Gx.isi_int_int ?_
  | with_reducible refine Gx.isi_int_bool ?_
  | with_reducible refine Gx.isi_int_str ?_
  | with_reducible refine Gx.isi_int_list ?_
  | with_reducible refine Gx.isi_int_tuple ?_
  | with_reducible refine Gx.isi_bool_int ?_
  | with_reducible refine Gx.isi_bool_bool ?_
  | with_reducible refine Gx.isi_bool_str ?_
  | with_reducible refine Gx.isi_bool_list ?_
  | with_reducible refine Gx.isi_bool_tuple ?_
  | with_reducible refine Gx.isi_str_int ?_
  | with_reducible refine Gx.isi_str_bool ?_
  | with_reducible refine Gx.isi_str_str ?_
  | with_reducible refine Gx.isi_str_list ?_
  | with_reducible refine Gx.isi_str_tuple ?_
  | with_reducible refine Gx.isi_NoneType_int ?_
  | with_reducible refine Gx.isi_NoneType_bool ?_
  | with_reducible refine Gx.isi_NoneType_str ?_
  | with_reducible refine Gx.isi_NoneType_list ?_
  | with_reducible refine Gx.isi_NoneType_tuple ?_
  | with_reducible refine Gx.go_bool1 ?_
  | with_reducible refine Gx.go_boolB ?_
  | with_reducible refine Gx.go_abs ?_
  | with_reducible refine Gx.go_max2 ?_
  | with_reducible refine Gx.go_min2 ?_
  | with_reducible refine Gx.go_ord ?_
  | with_reducible refine Gx.go_isN0 ?_
  | with_reducible refine Gx.go_isNI ?_
  | with_reducible refine Gx.go_isNS ?_
  | with_reducible refine Gx.go_isNB ?_
  | with_reducible refine Gx.go_isNR ?_
  | with_reducible refine Gx.go_notN0 ?_
  | with_reducible refine Gx.go_notNI ?_
  | with_reducible refine Gx.go_notNS ?_
  | with_reducible refine Gx.go_notNB ?_
  | with_reducible refine Gx.go_notNR ?_
  | with_reducible refine Gx.go_ltS ?_
  | with_reducible refine Gx.go_leS ?_
  | with_reducible refine Gx.go_BM ?_
  | with_reducible refine Gx.go_BM0 ?_
  | with_reducible refine Gx.go_not_t ?_
  | with_reducible refine Gx.go_not_f ?_
  | with_reducible refine Gx.go_iList ?_
  | with_reducible refine Gx.go_iRng1 ?_
  | with_reducible refine Gx.go_iRng2 ?_
  | with_reducible refine Gx.go_lc ?_
  | with_reducible refine Gx.go_for ?_
  | with_reducible refine Gx.go_sub ?_
  | with_reducible refine Gx.go_setL2 (by with_unfolding_all rfl) ?_
  | with_reducible refine Gx.go_ixL2 (by with_unfolding_all rfl) ?_
  | with_reducible refine Gx.go_setL (by assumption) (by with_unfolding_all rfl) ?_
  | with_reducible refine Gx.go_ixL1 (by assumption) (by with_unfolding_all rfl) ?_
  | with_reducible refine Gx.go_ixT1 (by assumption) (by with_unfolding_all rfl) ?_
  | with_reducible refine Gx.go_M1 ?_
  | with_reducible refine Gx.go_M0 ?_
  | with_reducible refine Gx.go_isS ?_
  | with_reducible refine Gx.go_iStr ?_
  | with_reducible refine Gx.sq_list_int (by assumption) ?_
  | with_reducible refine Gx.sq_list_bool (by assumption) ?_
  | with_reducible refine Gx.sq_list_str (by assumption) ?_
  | with_reducible refine Gx.sq_list_list (by assumption) ?_
  | with_reducible refine Gx.sq_list_tuple (by assumption) ?_
  | with_reducible refine Gx.sq_tuple_int (by assumption) ?_
  | with_reducible refine Gx.sq_tuple_bool (by assumption) ?_
  | with_reducible refine Gx.sq_tuple_str (by assumption) ?_
  | with_reducible refine Gx.sq_tuple_list (by assumption) ?_
  | with_reducible refine Gx.sq_tuple_tuple (by assumption) ?_
  | with_reducible refine Gx.go_fld ?_
  | with_reducible refine Gx.go_rnum (by assumption) (by assumption) (by assumption) ?_
  | with_reducible refine Gx.go_rden (by assumption) (by assumption) (by assumption) ?_
  | with_reducible refine Gx.go_make ?_
  | with_reducible refine Gx.go_meth ?_
  | with_reducible refine Gx.go_sfld ?_
  | with_reducible refine Gx.go_own (by assumption) (by assumption) ?_
  | with_reducible refine Gx.go_uOwn (by assumption) ?_
  | with_reducible refine Gx.go_gcons ?_
  | with_reducible refine Gx.go_gnil ?_
  | with_reducible refine Gx.go_brk ?_
  | with_reducible refine Gx.go_cont ?_)
local macro_rules | `(tactic| walk_at "go") => `(tactic| repeat walk_at "go1")
local macro_rules | `(tactic| walk_at "br") => `(tactic| first
  | with_reducible refine Gx.ite_d ?_ ?_
  | with_reducible refine Gx.ite_nd ?_ ?_
  | with_reducible refine Gx.ite_b ?_ ?_)
local macro_rules | `(tactic| walk_at "go1") => `(tactic| first
  | with_reducible refine Gx.go_iRng3 ?_
  | with_reducible refine Gx.go_revL ?_)
namespace K34
open PySem PySem.Spec PyProof.Rows L2 Gx
def top (i : Nat) : Stmt := PySem.Challenge.pw_sureplay_k34_last_rows_and_ways.main.body.getD i (.Pass ⟨0, 0, 0, 0⟩)
abbrev s_last_row : Stmt := top 1
abbrev s_way_to : Stmt := top 2
abbrev s__law_cell : Stmt := top 4
abbrev s_law : Stmt := top 6
/-- where the defs and classes stand -/
structure Ad where
  f_last_row : Addr
  d_last_row : FuncData
  f_way_to : Addr
  d_way_to : FuncData
  f__law_cell : Addr
  d__law_cell : FuncData
  f_law : Addr
  d_law : FuncData
/-- what the top has left -/
structure Txt (P : Program) (K : PySem.W.Frag) (mg : Str → Option Value) (A : Ad) : Prop where
  F_last_row : Fun K "last_row" "last_row" s_last_row A.f_last_row A.d_last_row
  b_last_row : Binds K A.d_last_row ["view"] []
  m_last_row : mg "last_row" = some (.ref A.f_last_row)
  F_way_to : Fun K "way_to" "way_to" s_way_to A.f_way_to A.d_way_to
  b_way_to : Binds K A.d_way_to ["view"] []
  m_way_to : mg "way_to" = some (.ref A.f_way_to)
  F__law_cell : Fun K "_law_cell" "_law_cell" s__law_cell A.f__law_cell A.d__law_cell
  b__law_cell : Binds K A.d__law_cell ["_law_script", "_law_k"] []
  m__law_cell : mg "_law_cell" = some (.ref A.f__law_cell)
  F_law : Fun K "law" "law" s_law A.f_law A.d_law
  b_law : Binds K A.d_law ["_law_script"] []
  m_law : mg "law" = some (.ref A.f_law)
  n_range : mg "range" = none
  n_len : mg "len" = none
  n_isinstance : mg "isinstance" = none
  n_int : mg "int" = none
  n_bool : mg "bool" = none
  n_list : mg "list" = none
  n_tuple : mg "tuple" = none
theorem sc_last_row : FnScope ["view", "index"] ["view"] (defScope s_last_row) := ⟨rfl, rfl, rfl, by decide +kernel, rfl, by decide +kernel, by decide +kernel⟩
theorem sc_way_to : FnScope ["view", "rows", "row"] ["view"] (defScope s_way_to) := ⟨rfl, rfl, rfl, by decide +kernel, rfl, by decide +kernel, by decide +kernel⟩
theorem sc__law_cell : FnScope ["_law_script", "_law_k"] ["_law_script", "_law_k"] (defScope s__law_cell) := ⟨rfl, rfl, rfl, by decide +kernel, rfl, by decide +kernel, by decide +kernel⟩
theorem sc_law : FnScope ["_law_script", "_law_view", "_law_rows", "_law_cell_here", "_law_move", "_law_due", "_law_actual", "_law_told"] ["_law_script"] (defScope s_law) := ⟨rfl, rfl, rfl, by decide +kernel, rfl, by decide +kernel, by decide +kernel⟩
/-- an item of a view: a name and numbers; did has one -/
def Item (d : PyData) : Prop := ∃ (n : Str) (is : List Int), d = .tuple (.str n :: is.map PyData.int) ∧ PyData.strOk n = true ∧ (n = "did" → ∃ m, is = [m])
def isDid : PyData → Option Int
  | .tuple [.str n, .int m] => if n = "did" then some m else none
  | _ => none
def row (pre : List PyData) (m : Int) : PyData := .tuple [.tuple pre, .int m]
/-- the rows of a view, in order -/
def rowsOf (pre : List PyData) : List PyData → List PyData
  | [] => []
  | d :: r => (match isDid d with | some m => [row pre m] | none => []) ++ rowsOf (pre ++ [d]) r
theorem rows_append : ∀ (a b pre : List PyData), rowsOf pre (a ++ b) = rowsOf pre a ++ rowsOf (pre ++ a) b
  | [], b, pre => by simp [rowsOf]
  | d :: r, b, pre => by
    show (match isDid d with | some m => [row pre m] | none => []) ++ rowsOf (pre ++ [d]) (r ++ b) = (match isDid d with | some m => [row pre m] | none => []) ++ rowsOf (pre ++ [d]) r ++ rowsOf (pre ++ d :: r) b
    rw [rows_append r b (pre ++ [d]), List.append_assoc, List.append_assoc]
    rfl
theorem rows_none : ∀ (a pre : List PyData), (∀ d ∈ a, isDid d = none) → rowsOf pre a = []
  | [], _, _ => rfl
  | d :: r, pre, h => by
    show (match isDid d with | some m => [row pre m] | none => []) ++ rowsOf (pre ++ [d]) r = []
    rw [h d (List.mem_cons_self ..), rows_none r _ fun x hx => h x (List.mem_cons_of_mem _ hx)]
    rfl
theorem rows_snoc (a : List PyData) (d : PyData) : rowsOf [] (a ++ [d]) = rowsOf [] a ++ (match isDid d with | some m => [row a m] | none => []) := by
  rw [rows_append]
  show _ ++ ((match isDid d with | some m => [row ([] ++ a) m] | none => []) ++ []) = _
  rw [List.append_nil, List.nil_append]
def lastRow (ds : List PyData) : Option PyData := (rowsOf [] ds).getLast?
theorem last_none {ds : List PyData} (h : ∀ d ∈ ds, isDid d = none) : lastRow ds = none := by
  unfold lastRow
  rw [rows_none ds [] h]
  rfl
theorem last_did {ds : List PyData} {k : Nat} {d : PyData} {m : Int} (e : ds[k]? = some d) (hd : isDid d = some m) (h : ∀ j x, k < j → ds[j]? = some x → isDid x = none) : lastRow ds = some (row (ds.take k) m) := by
  have hk : k < ds.length := (List.getElem?_eq_some_iff.mp e).1
  have e1 : ds = ds.take k ++ (d :: ds.drop (k + 1)) := by
    have := (List.getElem?_eq_some_iff.mp e).2
    rw [← this, List.getElem_cons_drop, List.take_append_drop]
  have e2 : rowsOf [] ds = rowsOf [] (ds.take k) ++ [row (ds.take k) m] := by
    conv => lhs; rw [e1]
    rw [rows_append]
    show _ ++ ((match isDid d with | some m => [row ([] ++ ds.take k) m] | none => []) ++ rowsOf _ (ds.drop (k + 1))) = _
    rw [hd, rows_none (ds.drop (k + 1)) _ fun x hx => by
      obtain ⟨j, hj⟩ := List.mem_iff_getElem?.mp hx
      rw [List.getElem?_drop] at hj
      exact h _ x (by omega) hj]
    rfl
  unfold lastRow
  rw [e2, List.getLast?_concat]
/-- the last row, and what stands before it -/
theorem last_some {ds : List PyData} {r : PyData} (h : lastRow ds = some r) : ∃ k m, k < ds.length ∧ r = row (ds.take k) m ∧ rowsOf [] ds = rowsOf [] (ds.take k) ++ [r] := by
  have key : ∀ n (ds : List PyData), ds.length = n → lastRow ds = some r → ∃ k m, k < ds.length ∧ r = row (ds.take k) m ∧ rowsOf [] ds = rowsOf [] (ds.take k) ++ [r] := by
    intro n
    induction n with
    | zero =>
      intro ds hl h
      have : ds = [] := List.length_eq_zero_iff.mp hl
      subst this
      cases h
    | succ n ih =>
      intro ds hl h
      obtain ⟨a, d, rfl⟩ : ∃ a d, ds = a ++ [d] := ⟨ds.dropLast, ds.getLast (fun e => by rw [e] at hl; cases hl), (List.dropLast_concat_getLast _).symm⟩
      have hla : a.length = n := by simpa using hl
      cases hd : isDid d with
      | some m =>
        refine ⟨a.length, m, by simp, ?_, ?_⟩
        · unfold lastRow at h
          rw [rows_snoc, hd] at h
          simp at h
          rw [List.take_left]
          exact h.symm
        · unfold lastRow at h
          rw [rows_snoc, hd] at h
          simp at h
          rw [rows_snoc, hd, List.take_left, ← h]
      | none =>
        have e : rowsOf [] (a ++ [d]) = rowsOf [] a := by rw [rows_snoc, hd]; simp
        unfold lastRow at h
        rw [e] at h
        obtain ⟨k, m, hk, e1, e2⟩ := ih a hla h
        refine ⟨k, m, by simp; omega, ?_, ?_⟩
        · rw [List.take_append_of_le_length (by omega)]; exact e1
        · rw [e, List.take_append_of_le_length (by omega)]; exact e2
  exact key _ ds rfl h
theorem lay_ints : ∀ is : List Int, PyData.canLayAll0 (is.map PyData.int) = true
  | [] => rfl
  | i :: r => by simp [PyData.canLayAll0, PyData.canLay0, lay_ints r]
theorem depth_ints : ∀ is : List Int, PyData.depthAll (is.map PyData.int) ≤ 1
  | [] => by simp [PyData.depthAll]
  | i :: r => by
    have := depth_ints r
    simp only [List.map_cons, PyData.depthAll, PyData.depth]
    omega
theorem item_lay {d : PyData} (h : Item d) : d.canLay0 = true ∧ d.depth ≤ 3 := by
  obtain ⟨n, is, rfl, hn, _⟩ := h
  refine ⟨?_, ?_⟩
  · simp only [PyData.canLay0, PyData.canLayAll0, lay_ints, Bool.and_true]; exact hn
  · have := depth_ints is
    simp only [PyData.depth, PyData.depthAll]
    omega
theorem all_lay {n : Nat} : ∀ {ds : List PyData}, (∀ d ∈ ds, d.canLay0 = true ∧ d.depth ≤ n) → PyData.canLayAll0 ds = true ∧ PyData.depthAll ds ≤ n
  | [], _ => by simp [PyData.canLayAll0, PyData.depthAll]
  | d :: r, h => by
    obtain ⟨h1, h2⟩ := h d (List.mem_cons_self ..)
    obtain ⟨h3, h4⟩ := all_lay (ds := r) fun x hx => h x (List.mem_cons_of_mem _ hx)
    simp only [PyData.canLayAll0, PyData.depthAll, h1, h3, Bool.and_self]
    exact ⟨True.intro, by omega⟩
theorem row_lay {pre : List PyData} {m : Int} (h : ∀ d ∈ pre, Item d) : (row pre m).canLay0 = true ∧ (row pre m).depth ≤ 6 := by
  obtain ⟨h1, h2⟩ := all_lay (n := 3) fun d hd => item_lay (h d hd)
  unfold row
  simp only [PyData.canLay0, PyData.canLayAll0, PyData.depth, PyData.depthAll, h1]
  exact ⟨rfl, by omega⟩
theorem rows_lay : ∀ {ds pre : List PyData}, (∀ d ∈ pre, Item d) → (∀ d ∈ ds, Item d) → ∀ r ∈ rowsOf pre ds, r.canLay0 = true ∧ r.depth ≤ 6
  | [], _, _, _, r, hr => by cases hr
  | d :: ds, pre, h1, h2, r, hr => by
    have hr' : r ∈ (match isDid d with | some m => [row pre m] | none => []) ++ rowsOf (pre ++ [d]) ds := hr
    rcases List.mem_append.mp hr' with z | z
    · cases hd : isDid d with
      | none => rw [hd] at z; cases z
      | some m =>
        rw [hd] at z
        simp at z
        rw [z]
        exact row_lay h1
    · exact rows_lay (fun x hx => by
        rcases List.mem_append.mp hx with y | y
        · exact h1 x y
        · simp at y; rw [y]; exact h2 d (List.mem_cons_self ..)) (fun x hx => h2 x (List.mem_cons_of_mem _ hx)) r z
theorem rows_shaped {ds : List PyData} (h : ∀ d ∈ ds, Item d) : SeqAt.shaped (.list (rowsOf [] ds)) = true := by
  obtain ⟨h1, h2⟩ := all_lay (rows_lay (pre := []) (fun _ hx => nomatch hx) h)
  unfold SeqAt.shaped
  simp only [PyData.canLay0, PyData.depth, h1, Bool.true_and]
  exact decide_eq_true (by omega)
theorem last_shaped {ds : List PyData} {r : PyData} (h : ∀ d ∈ ds, Item d) (e : lastRow ds = some r) : SeqAt.shaped r = true := by
  obtain ⟨h1, h2⟩ := rows_lay (pre := []) (fun _ hx => nomatch hx) h r (List.mem_of_getLast? e)
  unfold SeqAt.shaped
  rw [h1, Bool.true_and]
  exact decide_eq_true (by omega)

theorem did_not {n : Str} {is : List Int} (h : n ≠ "did") : isDid (.tuple (.str n :: is.map PyData.int)) = none := by
  match is with
  | [] => rfl
  | [m] => show (if n = "did" then some m else none) = none; rw [if_neg h]
  | _ :: _ :: _ => rfl
theorem did_is {m : Int} : isDid (.tuple [.str "did", .int m]) = some m := by
  show (if ("did" : Str) = "did" then some m else none) = some m
  rw [if_pos rfl]

theorem noL_ints : ∀ is : List Int, noLAll (is.map PyData.int) = true
  | [] => rfl
  | i :: r => by
    show (true && noLAll (r.map PyData.int)) = true
    rw [noL_ints r]
    rfl
theorem item_noL {d : PyData} (h : Item d) : noL d = true := by
  obtain ⟨n, is, rfl, _⟩ := h
  show (true && noLAll (is.map PyData.int)) = true
  rw [noL_ints]
  rfl
theorem row_noL {pre : List PyData} {m : Int} (h : ∀ d ∈ pre, Item d) : noL (row pre m) = true := by
  show (noLAll pre && (true && true)) = true
  rw [noL_all fun d hd => item_noL (h d hd)]
  rfl
theorem rows_all {P : PyData → Prop} (hP : ∀ pre m, (∀ d ∈ pre, Item d) → P (row pre m)) : ∀ {ds pre : List PyData}, (∀ d ∈ pre, Item d) → (∀ d ∈ ds, Item d) → ∀ r ∈ rowsOf pre ds, P r
  | [], _, _, _, r, hr => by cases hr
  | d :: ds, pre, h1, h2, r, hr => by
    have hr' : r ∈ (match isDid d with | some m => [row pre m] | none => []) ++ rowsOf (pre ++ [d]) ds := hr
    rcases List.mem_append.mp hr' with z | z
    · cases hd : isDid d with
      | none => rw [hd] at z; cases z
      | some m =>
        rw [hd] at z
        simp at z
        rw [z]
        exact hP _ _ h1
    · exact rows_all hP (fun x hx => by
        rcases List.mem_append.mp hx with y | y
        · exact h1 x y
        · simp at y; rw [y]; exact h2 d (List.mem_cons_self ..)) (fun x hx => h2 x (List.mem_cons_of_mem _ hx)) r z
theorem rows_noL {ds : List PyData} (h : ∀ d ∈ ds, Item d) : ∀ r ∈ rowsOf [] ds, noL r = true := rows_all (fun _ _ => row_noL) (fun _ hx => nomatch hx) h
theorem none_nil {ds : List PyData} (h : lastRow ds = none) : rowsOf [] ds = [] := List.getLast?_eq_none_iff.mp h
/-- between two turns of way_to's loop -/
def WI (K : PySem.W.Frag) (v : V) (l : Addr) (ds : List PyData) (H : Hp) (m : Nat) (σ' : L2.St) (H' : Hp) : Prop :=
  ∃ (cur acc : List PyData) (ys : List V) (rv : V), σ' = [some v, some (.ref l), some rv] ∧ Same H H' ∧ H' l = some (.lst ys) ∧ DpAll K H' ys acc ∧ rowsOf [] ds = rowsOf [] cur ++ acc.reverse ∧ cur.length ≤ 1000 ∧ (∀ d ∈ cur, Item d) ∧
    ((rv = .non ∧ lastRow cur = none) ∨ ∃ p r, rv = .ref p ∧ lastRow cur = some r ∧ Dp K H' (.ref p) r) ∧ m = cur.length ∧ ys.length + cur.length ≤ 2000

/-- the state of the law's loop -/
def LV (K : PySem.W.Frag) (a : Addr) (H : Hp) (c : Option V) (b : Nat) (σ' : L2.St) (H' : Hp) : Prop :=
  ∃ (vw r : Addr) (ds : List PyData) (ys : List V) (mv : Option V), σ' = [some (.ref a), some (.ref vw), some (.ref r), c, mv, none, none, none] ∧ Same H H' ∧ H r = none ∧ Dp K H' (.ref vw) (.tuple ds) ∧ H' r = some (.lst ys) ∧
    DpAll K H' ys (rowsOf [] ds) ∧ (∀ d ∈ ds, Item d) ∧ ds.length ≤ b
theorem items_snoc {ds : List PyData} {d : PyData} (h : ∀ x ∈ ds, Item x) (hd : Item d) : ∀ x ∈ ds ++ [d], Item x := fun x hx => by
  rcases List.mem_append.mp hx with y | y
  · exact h x y
  · simp at y; rw [y]; exact hd
theorem item_mk {n : Str} (is : List Int) (hn : PyData.strOk n = true) (h : n ≠ "did") : Item (.tuple (.str n :: is.map PyData.int)) := ⟨n, is, rfl, hn, fun e => absurd e h⟩
theorem item_did {m : Int} : Item (.tuple [.str "did", .int m]) := ⟨"did", [m], rfl, by decide +kernel, fun _ => ⟨m, rfl⟩⟩
theorem rows_not {ds : List PyData} {n : Str} {is : List Int} (h : n ≠ "did") : rowsOf [] (ds ++ [.tuple (.str n :: is.map PyData.int)]) = rowsOf [] ds := by
  rw [rows_snoc, did_not h, List.append_nil]
theorem rows_did {ds : List PyData} {m : Int} : rowsOf [] (ds ++ [.tuple [.str "did", .int m]]) = rowsOf [] ds ++ [row ds m] := by
  rw [rows_snoc, did_is]

theorem rows_not1 {ds : List PyData} {n : Str} {m : Int} (h : n ≠ "did") : rowsOf [] (ds ++ [.tuple [.str n, .int m]]) = rowsOf [] ds := rows_not (is := [m]) h
theorem rows_not2 {ds : List PyData} {n : Str} {m k : Int} (h : n ≠ "did") : rowsOf [] (ds ++ [.tuple [.str n, .int m, .int k]]) = rowsOf [] ds := rows_not (is := [m, k]) h
theorem item_mk1 {n : Str} {m : Int} (hn : PyData.strOk n = true) (h : n ≠ "did") : Item (.tuple [.str n, .int m]) := item_mk [m] hn h
theorem item_mk2 {n : Str} {m k : Int} (hn : PyData.strOk n = true) (h : n ≠ "did") : Item (.tuple [.str n, .int m, .int k]) := item_mk [m, k] hn h

theorem rows_len : ∀ {ds pre : List PyData}, (rowsOf pre ds).length ≤ ds.length
  | [], _ => Nat.le_refl _
  | d :: ds, pre => by
    have := rows_len (ds := ds) (pre := pre ++ [d])
    show ((match isDid d with | some m => [row pre m] | none => []) ++ rowsOf (pre ++ [d]) ds).length ≤ _
    rw [List.length_append, List.length_cons]
    split <;> simp <;> omega
theorem view_noL {ds : List PyData} (h : ∀ d ∈ ds, Item d) : noL (.tuple ds) = true := noL_all fun d hd => item_noL (h d hd)

end K34
namespace K34
open PySem PySem.Spec PyProof.Rows L2 Gx
section
variable {P : Program} {w : World} {K : PySem.W.Frag} {mg : Str → Option Value} {base : Heap} {A : Ad}
def sp_last_row (K : PySem.W.Frag) : Sp := fun vs H Q _ => ∃ (v : V) (ds : List PyData), vs = [v] ∧ Dp K H v (.tuple ds) ∧ ds.length ≤ 1000 ∧ (∀ d ∈ ds, Item d) ∧ (lastRow ds = none → Q .non H) ∧ (∀ r, lastRow ds = some r → ∀ p H', Same H H' → Dp K H' (.ref p) r → Q (.ref p) H')
theorem G_last_row (T : Txt P K mg A) : FnOk P w K mg base CX0 1 A.f_last_row A.d_last_row ["view"] (sp_last_row K) := by
  refine (T.F_last_row.ok (k := 0) sc_last_row (fun vs H Q E h => ?_) (fun cdv Ar outer s H vs Q E hr h => ?_))
  · obtain ⟨v, ds, rfl, _⟩ := h
    rfl
  · obtain ⟨v, ds, rfl, hv, hl, hI, q0, q1⟩ := h
    obtain ⟨a, xs, rfl, ha, hx⟩ := dp_tup hv
    have hlen := dpAll_len hx
    refine ⟨_, (pss_cons (ps_for PassesOwn.never rfl (pi_range3 rfl T.n_range (pa_cons (pe_op op_sub (pe_callB k_len (by rfl) T.n_len (by decide +kernel) (pa_cons (pv 0) pa_nil)) pe_int) (pa_cons (pe_un un_neg pe_int) (pa_cons (pe_un un_neg pe_int) pa_nil)))) (pg_name (i := 1) sc_last_row.nd rfl (Or.inl rfl))
        (pss_one (ps_if (pt_cmpR op_eq (pe_ix ix_tup (pe_ix ix_tup (pv 0) (pv 1) (fun _ _ => rfl)) pe_int (fun _ _ => rfl)) pe_str (nomark _))
        (pss_one (ps_ret (pe_tup (pa_cons (pe_slice sl_tupA (pv 0) po_none (po_some (pv 1))) (pa_cons (pe_ix ix_tup (pe_ix ix_tup (pv 0) (pv 1) (fun _ _ => rfl)) pe_int (fun _ _ => rfl)) pa_nil)))))
        pss_nil)))
      (pss_one (ps_ret pe_non))), ?_⟩
    try dsimp only [cxOf, Cx.nox, Cx.wish]
    walk_at "go"
    refine go_lenT ha ?_
    walk_at "go"
    rw [hlen]
    refine foRdn (fun i σ' H' => ∃ w, σ' = [some (.ref a), w] ∧ H' = H ∧ ∀ j x, ds.length - i ≤ j → ds[j]? = some x → isDid x = none) (by omega) ⟨_, rfl, rfl, fun j x hj e => ?_⟩ ?_ ?_
    · have := (List.getElem?_eq_some_iff.mp e).1
      omega
    · rintro i σ' H' hi ⟨w, rfl, rfl, hno⟩
      obtain ⟨d, ed⟩ : ∃ d, ds[ds.length - 1 - i]? = some d := ⟨_, List.getElem?_eq_getElem (by omega)⟩
      obtain ⟨n, is, edd, hn, h1⟩ := hI d (List.mem_of_getElem? ed)
      subst edd
      obtain ⟨x, ex, hxd⟩ := dpAll_get hx ed
      obtain ⟨b, ys, rfl, hb, hy⟩ := dp_tup hxd
      cases hy with
      | @cons y1 vs _ _ hy1 hy2 =>
      cases hy1
      walk_at "go"
      refine go_ixT ha (at_nat ex) ?_
      walk_at "go"
      refine go_ixT hb at_0 ?_
      walk_at "go"
      walk_at "br"
      · intro hd
        obtain ⟨m, rfl⟩ := h1 hd
        subst hd
        have hvs : vs = [.int m] := by
          cases hy2 with
          | cons z1 z2 => cases z1; cases z2; rfl
        subst hvs
        walk_at "go"
        refine go_slTo ha (by omega) (fun p H1 s1 e1 => ?_)
        walk_at "go"
        refine go_ixT (same_sqT s1 ha) (at_nat ex) ?_
        walk_at "go"
        refine go_ixT (same_sqT s1 hb) at_1 ?_
        walk_at "go"
        refine ⟨by show 2 ≤ sizeLine; decide, fun l hl => ?_⟩
        have s2 : Same H1 (upd H1 l (.tup [.ref p, .int m])) := fun c o hc => by rw [upd_ne (ne_of_none hc hl)]; exact hc
        refine q1 _ (last_did ed did_is fun j x hj e => hno j x (by omega) e) l _ (s1.trans s2) ?_
        exact .tup (.inl (.inl upd_same)) (.cons (.tup (same_sqT s2 e1) (dpAll_same (s1.trans s2) _ _ (dpAll_take _ hx))) (.cons (.int m) .nil))
      · intro hd
        walk_at "go"
        refine ⟨_, rfl, rfl, fun j x hj e => ?_⟩
        by_cases hj2 : j = ds.length - 1 - i
        · subst hj2
          rw [ed] at e
          cases e
          exact did_not hd
        · exact hno j x (by omega) e
    · rintro σ' H' ⟨w, rfl, rfl, hno⟩
      walk_at "go"
      refine q0 (last_none fun d hd => ?_)
      obtain ⟨j, hj⟩ := List.mem_iff_getElem?.mp hd
      exact hno j d (by omega) hj
end
end K34

namespace K34
open PySem PySem.Spec PyProof.Rows L2 Gx
section
variable {P : Program} {w : World} {K : PySem.W.Frag} {mg : Str → Option Value} {base : Heap} {A : Ad}
def sp_way_to (K : PySem.W.Frag) : Sp := fun vs H Q _ => ∃ (v : V) (ds : List PyData), vs = [v] ∧ Dp K H v (.tuple ds) ∧ ds.length ≤ 1000 ∧ (∀ d ∈ ds, Item d) ∧ ∀ p H', Same H H' → (∃ xs, SqL K H' p xs) → Dp K H' (.ref p) (.list (rowsOf [] ds)) → Q (.ref p) H'
theorem G_way_to (T : Txt P K mg A) : FnOk P w K mg base CX0 2 A.f_way_to A.d_way_to ["view"] (sp_way_to K) := by
  refine (T.F_way_to.ok (k := 1) sc_way_to (fun vs H Q E h => ?_) (fun cdv Ar outer s H vs Q E hr h => ?_))
  · obtain ⟨v, ds, rfl, _⟩ := h
    rfl
  · obtain ⟨v, ds, rfl, hv, hl, hI, q⟩ := h
    refine ⟨_, (pss_cons (ps_set (i := 1) sc_way_to.nd rfl (Or.inl rfl) (pe_lst pa_nil))
      (pss_cons (ps_set (i := 2) sc_way_to.nd rfl (Or.inl rfl) (pe_call (G_last_row T) (hr.mono (by decide)) rfl T.m_last_row T.F_last_row.kp T.b_last_row .nil pass0 (pa_cons (pv 0) pa_nil)))
      (pss_cons (ps_while PassesOwn.never (pt_cmpR o_notN (pv 2) pe_non (nomark _))
        (pss_cons (ps_expr (pe_bm PySem.F.plainAttrs_list PySem.F.slot_list_append PySem.F.type_list_append mt_append (pv 1) (pa_cons (pv 2) pa_nil)))
      (pss_one (ps_set (i := 2) sc_way_to.nd rfl (Or.inl rfl) (pe_call (G_last_row T) (hr.mono (by decide)) rfl T.m_last_row T.F_last_row.kp T.b_last_row .nil pass0 (pa_cons (pe_ix ix_tup (pv 2) pe_int (fun _ _ => rfl)) pa_nil))))))
      (pss_one (ps_ret (pe_revL (pv 1))))))), ?_⟩
    try dsimp only [cxOf, Cx.nox, Cx.wish]
    walk_at "go"
    refine ⟨by decide, fun l hl0 => ?_⟩
    have s0 : Same H (upd H l (.lst [])) := fun c o hc => by rw [upd_ne (ne_of_none hc hl0)]; exact hc
    have e0 : upd H l (.lst []) l = some (.lst []) := upd_same
    generalize upd H l (.lst []) = H1 at *
    walk_at "go"
    have hlp : H l = none := hl0
    have loop : ∀ (m : Nat) (σ' : L2.St) (H' : Hp), WI K v l ds H m σ' H' → tWhile (tTest (tOp qNotN (tVar 2) (tC V.non)))
        (tSeq (tDrop (tBM K "list" rAppend (tVar 1) (tCons (tVar 2) tNil))) (tAsg (tCall (sp_last_row K) [] E0 (tCons (tOp (rIxT K) (tVar 2) (tC (V.int 0))) tNil)) (gName 2)))
        { nx := tRet (tRevL K (tVar 1)) { nx := fun _ H' => Q V.non H', rt := Q }, rt := Q } σ' H' := by
      intro m σ' H' hw
      refine go_while (WI K v l ds H) m hw ?_
      rintro m σ' H' ⟨cur, acc, ys, rv, rfl, s1, e1, hy, er, hc, hi, hcase, rfl, hsz⟩
      have nolA : noLAll acc = true := noL_all fun d hd => rows_noL hI d (by rw [er]; exact List.mem_append_right _ (List.mem_reverse.mpr hd))
      rcases hcase with ⟨rfl, hn⟩ | ⟨p, r, rfl, hr, hp⟩
      · walk_at "go"
        refine ⟨l, ys, rfl, .inl (.inl e1), fun p2 hp2 => ?_⟩
        rw [none_nil hn, List.nil_append] at er
        have s2 : Same H' (upd H' p2 (.lst ys.reverse)) := fun c o hc => by rw [upd_ne (ne_of_none hc hp2)]; exact hc
        refine q p2 _ (s1.trans s2) ⟨_, .inl (.inl upd_same)⟩ ?_
        rw [er]
        exact .lst (.inl (.inl upd_same)) (dpAll_same s2 _ _ (dpAll_reverse hy))
      · obtain ⟨k, mv, hk, erow, erows⟩ := last_some hr
        have hrm : r ∈ rowsOf [] cur := List.mem_of_getLast? hr
        have nolR := rows_noL hi r hrm
        walk_at "go"
        refine go_loop ?_
        walk_at "go"
        refine ⟨.inl ⟨rfl, ys, .inl (.inl e1)⟩, ?_⟩
        walk_at "go"
        refine go_append e1 (szlt (by omega)) ?_
        have hp2 := dp_put (zs := ys ++ [.ref p]) e1 r (.ref p) nolR hp
        have hy2 := dpAll_append (dpAll_put (zs := ys ++ [.ref p]) e1 acc ys nolA hy) (.cons hp2 .nil)
        have sH : Same H (upd H' l (.lst (ys ++ [.ref p]))) := fun c o hc => by rw [upd_ne (ne_of_none hc hlp)]; exact s1 _ _ hc
        have e2 : upd H' l (.lst (ys ++ [.ref p])) l = some (.lst (ys ++ [.ref p])) := upd_same
        have hp3 := hp2
        rw [erow] at hp3
        obtain ⟨pp, xs2, epp, hs2, hx2⟩ := dp_tup hp3
        cases epp
        cases hx2 with
        | @cons x0 _ _ _ z1 z2 =>
        have itm : ∀ d ∈ cur.take k, Item d := fun d hd => hi d (List.mem_of_mem_take hd)
        have lenk : (cur.take k).length = k := by rw [List.length_take]; omega
        have er2 : rowsOf [] ds = rowsOf [] (cur.take k) ++ (acc ++ [r]).reverse := by rw [er, erows]; simp
        generalize upd H' l (.lst (ys ++ [.ref p])) = H4 at *
        walk_at "go"
        refine go_ixT hs2 at_0 ?_
        walk_at "go"
        refine ⟨x0, cur.take k, rfl, z1, by omega, itm, fun hn2 => ?_, fun r2 hr2 p2 H3 s3 hp4 => ?_⟩
        · walk_at "go"
          exact ⟨_, (by omega : (cur.take k).length < cur.length), cur.take k, acc ++ [r], _, _, rfl, sH, e2, hy2, er2, by omega, itm, .inl ⟨rfl, hn2⟩, rfl, by simp; omega⟩
        · walk_at "go"
          exact ⟨_, (by omega : (cur.take k).length < cur.length), cur.take k, acc ++ [r], _, _, rfl, sH.trans s3, s3 _ _ e2, dpAll_same s3 _ _ hy2, er2, by omega, itm, .inr ⟨p2, r2, rfl, hr2, hp4⟩, rfl, by simp; omega⟩
    refine ⟨v, ds, rfl, dp_same s0 _ _ hv, hl, hI, fun hn => ?_, fun r hr p H2 s2 hp => ?_⟩
    · walk_at "go"
      exact loop ds.length _ _ ⟨ds, [], [], .non, rfl, s0, e0, .nil, by simp, hl, hI, .inl ⟨rfl, hn⟩, rfl, by simp; omega⟩
    · walk_at "go"
      exact loop ds.length _ _ ⟨ds, [], [], .ref p, rfl, s0.trans s2, s2 _ _ e0, .nil, by simp, hl, hI, .inr ⟨p, r, rfl, hr, hp⟩, rfl, by simp; omega⟩
end
end K34

namespace K34
open PySem PySem.Spec PyProof.Rows L2 Gx
section
variable {P : Program} {w : World} {K : PySem.W.Frag} {mg : Str → Option Value} {base : Heap} {A : Ad}
def sp__law_cell (K : PySem.W.Frag) : Sp := fun vs H Q _ => ∃ (a : Addr) (ns : List Int) (k : Int), vs = [.ref a, .int k] ∧ SqL K H a (ns.map V.int) ∧ 0 ≤ k ∧ Q (.int (ns.getD k.toNat 0)) H
theorem G__law_cell (T : Txt P K mg A) : FnOk P w K mg base CX0 1 A.f__law_cell A.d__law_cell ["_law_script", "_law_k"] (sp__law_cell K) := by
  refine (T.F__law_cell.ok (k := 0) sc__law_cell (fun vs H Q E h => ?_) (fun cdv Ar outer s H vs Q E hr h => ?_))
  · obtain ⟨a, ns, k, rfl, _⟩ := h
    rfl
  · obtain ⟨a, ns, k, rfl, hs, h0, q⟩ := h
    refine ⟨_, (pss_cons (ps_if (pt_cmpR op_lt (pv 1) (pe_callB k_len (by rfl) T.n_len (by decide +kernel) (pa_cons (pv 0) pa_nil)) (nomark _))
        (pss_one (ps_ret (pe_ix ix_list (pv 0) (pv 1) (fun _ _ => rfl))))
        pss_nil)
      (pss_one (ps_ret pe_int))), ?_⟩
    try dsimp only [cxOf, Cx.nox, Cx.wish]
    walk_at "go"
    refine go_lenL hs ?_
    rw [List.length_map]
    walk_at "go"
    walk_at "br"
    · intro h
      walk_at "go"
      refine go_ixL hs (at_int h0 h) ?_
      walk_at "go"
      exact q
    · intro h
      walk_at "go"
      rw [List.getD_eq_getElem?_getD, List.getElem?_eq_none (by omega)] at q
      exact q
end
end K34

namespace K34
open PySem PySem.Spec PyProof.Rows L2 Gx
section
variable {P : Program} {w : World} {K : PySem.W.Frag} {mg : Str → Option Value} {base : Heap} {A : Ad}
def sp_law (K : PySem.W.Frag) : Sp := fun vs H Q _ => ∃ (a : Addr) (ns : List Int), vs = [.ref a] ∧ SqL K H a (ns.map V.int) ∧ ns.length ≤ 63 ∧ ∀ H', Q (.bl true) H'
theorem G_law (T : Txt P K mg A) : FnOk P w K mg base CX0 3 A.f_law A.d_law ["_law_script"] (sp_law K) := by
  refine (T.F_law.ok (k := 2) sc_law (fun vs H Q E h => ?_) (fun cdv Ar outer s H vs Q E hr h => ?_))
  · obtain ⟨a, ns, rfl, _⟩ := h
    rfl
  · obtain ⟨a, ns, rfl, hs, hl, q⟩ := h
    refine ⟨_, (pss_cons (ps_set (i := 1) sc_law.nd rfl (Or.inl rfl) (pe_tup pa_nil))
      (pss_cons (ps_set (i := 2) sc_law.nd rfl (Or.inl rfl) (pe_lst pa_nil))
      (pss_cons (ps_for PassesOwn.never rfl (pi_list (pv 0)) (pg_name (i := 3) sc_law.nd rfl (Or.inl rfl))
        (Evl.pss_cut (ps_if (pt_cmpR op_eq (pe_op op_mod (pe_callTy k_int1 (by rfl) T.n_int (by decide +kernel) (pa_cons (pv 3) pa_nil)) pe_int) pe_int (nomark _))
        (pss_one (ps_set (i := 1) sc_law.nd rfl (Or.inl rfl) (pe_op op_catA (pv 1) (pe_tup (pa_cons (pe_tup (pa_cons pe_str (pa_cons (pe_op op_mod (pe_op op_fdiv (pv 3) pe_int) pe_int) pa_nil))) pa_nil)))))
        pss_nil)
      (Evl.pss_cut (ps_if (pt_cmpR op_eq (pe_op op_mod (pe_callTy k_int1 (by rfl) T.n_int (by decide +kernel) (pa_cons (pv 3) pa_nil)) pe_int) pe_int (nomark _))
        (pss_one (ps_set (i := 1) sc_law.nd rfl (Or.inl rfl) (pe_op op_catA (pv 1) (pe_tup (pa_cons (pe_tup (pa_cons pe_str (pa_cons (pe_op op_mod (pe_op op_fdiv (pv 3) pe_int) pe_int) pa_nil))) pa_nil)))))
        pss_nil)
      (pss_one (ps_if (pt_cmpR op_gt (pe_op op_mod (pe_callTy k_int1 (by rfl) T.n_int (by decide +kernel) (pa_cons (pv 3) pa_nil)) pe_int) pe_int (nomark _))
        (pss_cons (ps_set (i := 1) sc_law.nd rfl (Or.inl rfl) (pe_op op_catA (pv 1) (pe_tup (pa_cons (pe_tup (pa_cons pe_str (pa_cons (pe_op op_mod (pe_op op_fdiv (pv 3) pe_int) pe_int) (pa_cons (pe_op op_add pe_int (pe_op op_mod (pe_op op_fdiv (pv 3) pe_int) pe_int)) pa_nil)))) pa_nil))))
      (pss_cons (ps_set (i := 4) sc_law.nd rfl (Or.inl rfl) (pe_op op_mod (pe_op op_fdiv (pv 3) pe_int) (pe_op op_add pe_int (pe_op op_mod (pe_op op_fdiv (pv 3) pe_int) pe_int))))
      (pss_cons (ps_expr (pe_bm PySem.F.plainAttrs_list PySem.F.slot_list_append PySem.F.type_list_append mt_append (pv 2) (pa_cons (pe_tup (pa_cons (pv 1) (pa_cons (pv 4) pa_nil))) pa_nil)))
      (pss_one (ps_set (i := 1) sc_law.nd rfl (Or.inl rfl) (pe_op op_catA (pv 1) (pe_tup (pa_cons (pe_tup (pa_cons pe_str (pa_cons (pv 4) pa_nil))) pa_nil))))))))
        pss_nil)))))
      (Evl.pss_cut (ps_if (pt_cmpR op_eq (pe_op op_mod (pe_callTy k_int1 (by rfl) T.n_int (by decide +kernel) (pa_cons (pe_call (G__law_cell T) (hr.mono (by decide)) rfl T.m__law_cell T.F__law_cell.kp T.b__law_cell .nil pass0 (pa_cons (pv 0) (pa_cons pe_int pa_nil))) pa_nil)) pe_int) pe_int (nomark _))
        (pss_one (ps_set (i := 1) sc_law.nd rfl (Or.inl rfl) (pe_op op_catA (pv 1) (pe_tup (pa_cons (pe_tup (pa_cons pe_str (pa_cons pe_int (pa_cons pe_int pa_nil)))) pa_nil)))))
        pss_nil)
      (pss_cons (ps_set (i := 5) sc_law.nd rfl (Or.inl rfl) pe_non)
      (Evl.pss_cut (ps_if (pt_cmpR op_gt (pe_callB k_len (by rfl) T.n_len (by decide +kernel) (pa_cons (pv 2) pa_nil)) pe_int (nomark _))
        (pss_one (ps_set (i := 5) sc_law.nd rfl (Or.inl rfl) (pe_ix ix_list (pv 2) (pe_un un_neg pe_int) (fun _ _ => rfl))))
        pss_nil)
      (pss_cons (ps_set (i := 6) sc_law.nd rfl (Or.inl rfl) (pe_call (G_last_row T) (hr.mono (by decide)) rfl T.m_last_row T.F_last_row.kp T.b_last_row .nil pass0 (pa_cons (pv 1) pa_nil)))
      (Evl.pss_cut (ps_if (pt_cmpR o_isN (pv 5) pe_non (nomark _))
        (pss_one (ps_if (pt_cmpR o_notN (pv 6) pe_non (nomark _))
        (pss_one (ps_ret pe_bl))
        pss_nil))
        (pss_one (ps_if (PW.pt (pw_or (pt_not (pt_val (pe_callB call_isi (by rfl) T.n_isinstance (by decide +kernel) (pa_cons (pv 6) (pa_cons (pe_bltn (v := .ty "tuple") (by rfl) T.n_tuple (by decide +kernel) rfl) pa_nil))))) (pw_or1 (pt_cmpR (op_neD hr.units) (pv 6) (pv 5) (nomark _)))))
        (pss_one (ps_ret pe_bl))
        pss_nil)))
      (pss_cons (ps_set (i := 7) sc_law.nd rfl (Or.inl rfl) (pe_call (G_way_to T) (hr.mono (by decide)) rfl T.m_way_to T.F_way_to.kp T.b_way_to .nil pass0 (pa_cons (pv 1) pa_nil)))
      (pss_one (ps_ret (pe_and (pe_callB call_isi (by rfl) T.n_isinstance (by decide +kernel) (pa_cons (pv 7) (pa_cons (pe_bltn (v := .ty "list") (by rfl) T.n_list (by decide +kernel) rfl) pa_nil))) (pe_one (pe_cmpR (op_eqD hr.units) (pv 7) (pv 2) (nomark _))))))))))))))), ?_⟩
    try dsimp only [cxOf, Cx.nox, Cx.wish]
    walk_at "go"
    refine ⟨by decide, fun l hl0 => ?_⟩
    walk_at "go"
    refine ⟨by decide, fun l2 hl2 => ?_⟩
    have s0 : Same H (upd (upd H l (.tup [])) l2 (.lst [])) := fun c o hc => by
      have h3 : upd H l (.tup []) c = some o := by rw [upd_ne (ne_of_none hc hl0)]; exact hc
      rw [upd_ne (ne_of_none h3 hl2)]
      exact h3
    have el : upd (upd H l (.tup [])) l2 (.lst []) l = some (.tup []) := by
      have h3 : upd H l (.tup []) l = some (.tup []) := upd_same
      rw [upd_ne (ne_of_none h3 hl2)]
      exact h3
    have el2 : upd (upd H l (.tup [])) l2 (.lst []) l2 = some (.lst []) := upd_same
    have h0l2 : H l2 = none := by
      cases e : H l2 with
      | none => rfl
      | some o =>
        have h3 : upd H l (.tup []) l2 = some o := by rw [upd_ne (ne_of_none e hl0)]; exact e
        rw [h3] at hl2
        cases hl2
    generalize upd (upd H l (.tup [])) l2 (.lst []) = H1 at *
    walk_at "go"
    refine foL (ns.map V.int) (fun i σ' H' => ∃ c, LV K a H c (4 * i) σ' H') ⟨none, l, l2, [], [], none, rfl, s0, h0l2, .tup (.inl (.inl el)) .nil, el2, .nil, (fun _ hx => nomatch hx), by simp⟩ ?_ ?_ ?_
    · rintro i σ' H' _ ⟨c, vw, r, ds, ys, mv, rfl, s1, _⟩
      exact s1.seq hs
    · rintro i x σ' H1 hx ⟨c0, hLV⟩
      obtain ⟨c, rfl⟩ : ∃ c, x = .int c := by
        rw [List.getElem?_map] at hx
        cases e : ns[i]? with
        | none => rw [e] at hx; cases hx
        | some c => rw [e] at hx; cases hx; exact ⟨c, rfl⟩
      have hi : i < 63 := by
        have := (List.getElem?_eq_some_iff.mp hx).1
        rw [List.length_map] at this
        omega
      obtain ⟨vw, r, ds, ys, mv, rfl, s2, hr0, hv, er, hy, hI, hlen⟩ := hLV
      walk_at "go"
      refine go_cut (LV K a H (some (.int c)) (4 * i + 1)) ?_ ?_
      · walk_at "go"
        walk_at "br"
        · intro _
          walk_at "go"
          refine ⟨by show 2 ≤ sizeLine; decide, fun p hp => ?_⟩
          walk_at "go"
          refine ⟨by show 1 ≤ sizeLine; decide, fun p2 hp2 => ?_⟩
          walk_at "go"
          refine add_dp hv hp hp2 (fun _ => .cons (.str _) (.cons (.int _) .nil)) (by omega) fun p3 H3 s3 e3 => ?_
          walk_at "go"
          exact ⟨p3, r, _, ys, mv, rfl, s2.trans s3, hr0, e3, s3 _ _ er, by rw [rows_not1 (by decide)]; exact dpAll_same s3 _ _ hy, items_snoc hI (item_mk1 (by decide +kernel) (by decide)), by simp; omega⟩
        · intro _
          walk_at "go"
          exact ⟨vw, r, ds, ys, mv, rfl, s2, hr0, hv, er, hy, hI, by omega⟩
      rintro σ' H2 ⟨vw, r, ds, ys, mv, rfl, s2, hr0, hv, er, hy, hI, hlen⟩
      refine go_cut (LV K a H (some (.int c)) (4 * i + 2)) ?_ ?_
      · walk_at "go"
        walk_at "br"
        · intro _
          walk_at "go"
          refine ⟨by show 2 ≤ sizeLine; decide, fun p hp => ?_⟩
          walk_at "go"
          refine ⟨by show 1 ≤ sizeLine; decide, fun p2 hp2 => ?_⟩
          walk_at "go"
          refine add_dp hv hp hp2 (fun _ => .cons (.str _) (.cons (.int _) .nil)) (by omega) fun p3 H3 s3 e3 => ?_
          walk_at "go"
          exact ⟨p3, r, _, ys, mv, rfl, s2.trans s3, hr0, e3, s3 _ _ er, by rw [rows_not1 (by decide)]; exact dpAll_same s3 _ _ hy, items_snoc hI (item_mk1 (by decide +kernel) (by decide)), by simp; omega⟩
        · intro _
          walk_at "go"
          exact ⟨vw, r, ds, ys, mv, rfl, s2, hr0, hv, er, hy, hI, by omega⟩
      rintro σ' H2 ⟨vw, r, ds, ys, mv, rfl, s2, hr0, hv, er, hy, hI, hlen⟩
      walk_at "go"
      walk_at "br"
      · intro _
        walk_at "go"
        refine ⟨by show 3 ≤ sizeLine; decide, fun p hp => ?_⟩
        walk_at "go"
        refine ⟨by show 1 ≤ sizeLine; decide, fun p2 hp2 => ?_⟩
        walk_at "go"
        refine add_dp hv hp hp2 (fun _ => .cons (.str _) (.cons (.int _) (.cons (.int _) .nil))) (by omega) fun p3 H3 s3 e3 => ?_
        have hy3 := dpAll_same s3 _ _ hy
        have er3 := s3 _ _ er
        have hI3 := items_snoc hI (item_mk2 (n := "move") (m := c / 4 % 30) (k := 1 + c / 120 % 8) (by decide +kernel) (by decide))
        have s23 := s2.trans s3
        have hlen3 : (ds ++ [PyData.tuple [.str "move", .int (c / 4 % 30), .int (1 + c / 120 % 8)]]).length ≤ 4 * i + 3 := by simp; omega
        rw [← rows_not2 (ds := ds) (n := "move") (m := c / 4 % 30) (k := 1 + c / 120 % 8) (by decide)] at hy3
        have hv3 := e3
        generalize ds ++ [PyData.tuple [.str "move", .int (c / 4 % 30), .int (1 + c / 120 % 8)]] = ds3 at *
        have hl3 : ds3.length ≤ 4 * i + 3 := hlen3
        have hylen := dpAll_len hy3
        have hrl := rows_len (ds := ds3) (pre := [])
        walk_at "go"
        refine ⟨.inl ⟨rfl, ys, .inl (.inl er3)⟩, ?_⟩
        walk_at "go"
        refine ⟨by show 2 ≤ sizeLine; decide, fun t ht => ?_⟩
        have s4 : Same H3 (upd H3 t (.tup [.ref p3, .int (c / 960 % (1 + c / 120 % 8))])) := fun c o hc => by rw [upd_ne (ne_of_none hc ht)]; exact hc
        have et : upd H3 t (.tup [.ref p3, .int (c / 960 % (1 + c / 120 % 8))]) t = some (.tup [.ref p3, .int (c / 960 % (1 + c / 120 % 8))]) := upd_same
        generalize upd H3 t (.tup [.ref p3, .int (c / 960 % (1 + c / 120 % 8))]) = H4 at *
        have er4 := s4 _ _ er3
        have hv4 := dp_same s4 _ _ hv3
        have hy4 := dpAll_same s4 _ _ hy3
        walk_at "go"
        refine go_append er4 (szlt (by omega)) ?_
        have hv5 := dp_put (zs := ys ++ [.ref t]) er4 _ _ (view_noL hI3) hv4
        have ht5 := sqT_put (K := K) (zs := ys ++ [.ref t]) er4 (.inl (.inl et))
        have hy5 := dpAll_append (dpAll_put (zs := ys ++ [.ref t]) er4 _ _ (noL_all (rows_noL hI3)) hy4) (.cons (.tup ht5 (.cons hv5 (.cons (.int (c / 960 % (1 + c / 120 % 8))) .nil))) .nil)
        have s5 : Same H (upd H4 r (.lst (ys ++ [.ref t]))) := fun c o hc => by rw [upd_ne (ne_of_none hc hr0)]; exact (s23.trans s4) _ _ hc
        have er5 : upd H4 r (.lst (ys ++ [.ref t])) r = some (.lst (ys ++ [.ref t])) := upd_same
        generalize upd H4 r (.lst (ys ++ [.ref t])) = H5 at *
        walk_at "go"
        refine ⟨by show 2 ≤ sizeLine; decide, fun p5 hp5 => ?_⟩
        walk_at "go"
        refine ⟨by show 1 ≤ sizeLine; decide, fun p6 hp6 => ?_⟩
        walk_at "go"
        refine add_dp hv5 hp5 hp6 (fun _ => .cons (.str _) (.cons (.int _) .nil)) (by omega) fun p7 H7 s7 e7 => ?_
        walk_at "go"
        exact ⟨_, p7, r, _, ys ++ [.ref t], _, rfl, s5.trans s7, hr0, e7, s7 _ _ er5, by rw [rows_did]; exact dpAll_same s7 _ _ hy5, items_snoc hI3 item_did, by simp; omega⟩
      · intro _
        walk_at "go"
        exact ⟨_, vw, r, ds, ys, mv, rfl, s2, hr0, hv, er, hy, hI, by omega⟩
    rintro σ' H1 ⟨c, vw, r, ds, ys, mv, rfl, s1, hr0, hv, er, hy, hI, hlen⟩
    rw [List.length_map] at hlen
    walk_at "go"
    refine go_cut (LV K a H c 300) ?_ ?_
    · walk_at "go"
      refine ⟨a, ns, _, rfl, s1.seq hs, by omega, ?_⟩
      walk_at "go"
      walk_at "br"
      · intro _
        walk_at "go"
        refine ⟨by show 3 ≤ sizeLine; decide, fun p hp => ?_⟩
        walk_at "go"
        refine ⟨by show 1 ≤ sizeLine; decide, fun p2 hp2 => ?_⟩
        walk_at "go"
        refine add_dp hv hp hp2 (fun _ => .cons (.str _) (.cons (.int _) (.cons (.int _) .nil))) (by omega) fun p3 H3 s3 e3 => ?_
        walk_at "go"
        exact ⟨p3, r, _, ys, mv, rfl, s1.trans s3, hr0, e3, s3 _ _ er, by rw [rows_not2 (by decide)]; exact dpAll_same s3 _ _ hy, items_snoc hI (item_mk2 (by decide +kernel) (by decide)), by simp; omega⟩
      · intro _
        walk_at "go"
        exact ⟨vw, r, ds, ys, mv, rfl, s1, hr0, hv, er, hy, hI, by omega⟩
    clear hlen hI hy er hv hr0 s1
    rintro σ' H2 ⟨vw, r, ds, ys, mv, rfl, s1, hr0, hv, er, hy, hI, hlen⟩
    have hylen := dpAll_len hy
    walk_at "go"
    refine go_cut (fun σ' H' => ∃ due : V, σ' = [some (.ref a), some (.ref vw), some (.ref r), c, mv, some due, none, none] ∧ H' = H2 ∧ ((due = .non ∧ lastRow ds = none) ∨ ∃ p rw, due = .ref p ∧ lastRow ds = some rw ∧ Dp K H2 (.ref p) rw)) ?_ ?_
    · walk_at "go"
      refine go_lenL (.inl (.inl er)) ?_
      walk_at "go"
      walk_at "br"
      · intro hpos
        have hne : ys ≠ [] := fun e => by rw [e] at hpos; simp at hpos
        obtain ⟨x, ex⟩ : ∃ x, ys.getLast? = some x := by
          cases e : ys.getLast? with
          | none => exact absurd (List.getLast?_eq_none_iff.mp e) hne
          | some x => exact ⟨x, rfl⟩
        obtain ⟨d, ed, hd⟩ := dpAll_last hy ex
        walk_at "go"
        refine go_ixL (.inl (.inl er)) ((at_last hne).trans ex) ?_
        walk_at "go"
        refine ⟨x, rfl, rfl, .inr ?_⟩
        obtain ⟨k2, mv2, _, e2, _⟩ := last_some (ds := ds) ed
        have hd2 := hd
        rw [e2] at hd2
        unfold row at hd2
        obtain ⟨p, xs2, rfl, _, _⟩ := dp_tup hd2
        exact ⟨p, d, rfl, ed, hd⟩
      · intro hpos
        walk_at "go"
        have : ys = [] := List.length_eq_zero_iff.mp (by omega)
        subst this
        have hr2 : rowsOf [] ds = [] := List.length_eq_zero_iff.mp (by simpa using hylen.symm)
        exact ⟨_, rfl, rfl, .inl ⟨rfl, by unfold lastRow; rw [hr2]; rfl⟩⟩
    rintro σ' H3 ⟨due, rfl, rfl, hdue⟩
    walk_at "go"
    refine ⟨.ref vw, ds, rfl, hv, by omega, hI, fun hn => ?_, fun r2 hr2 p2 H4 s4 hp4 => ?_⟩
    · obtain rfl : due = .non := by
        rcases hdue with ⟨e, _⟩ | ⟨_, _, _, e, _⟩
        · exact e
        · rw [hn] at e; cases e
      walk_at "go"
      refine go_cut (fun σ' H' => ∃ u w : V, σ' = [some (.ref a), some (.ref vw), some (.ref r), c, mv, some u, some w, none] ∧ Same H3 H') ?_ ?_
      · walk_at "go"
        exact ⟨_, _, rfl, Same.refl _⟩
      rintro σ' H5 ⟨u, w, rfl, s5⟩
      have hvr : Dp K H5 (.ref r) (.list (rowsOf [] ds)) := .lst (.inl (.inl (s5 _ _ er))) (dpAll_same s5 _ _ hy)
      walk_at "go"
      refine ⟨.ref vw, ds, rfl, dp_same s5 _ _ hv, by omega, hI, fun p6 H6 s6 hsq hp6 => ?_⟩
      obtain ⟨xs6, hsq⟩ := hsq
      walk_at "go"
      refine go_eqD hp6 (dp_same s6 _ _ hvr) (rows_shaped hI) ?_
      exact q _
    · obtain ⟨p, rfl, hpd⟩ : ∃ p, due = .ref p ∧ Dp K H3 (.ref p) r2 := by
        rcases hdue with ⟨_, e⟩ | ⟨p, rw2, e1, e, hd⟩
        · rw [e] at hr2; cases hr2
        · rw [e] at hr2; cases hr2; exact ⟨p, e1, hd⟩
      have shp := last_shaped hI hr2
      have hpd4 := dp_same s4 _ _ hpd
      walk_at "go"
      refine go_cut (fun σ' H' => ∃ u w : V, σ' = [some (.ref a), some (.ref vw), some (.ref r), c, mv, some u, some w, none] ∧ Same H3 H') ?_ ?_
      · obtain ⟨k2, mv2, _, e2, _⟩ := last_some (ds := ds) hr2
        have hq2 := hp4
        rw [e2] at hq2
        unfold row at hq2
        obtain ⟨p9, xs9, e9, hs9, _⟩ := dp_tup hq2
        cases e9
        walk_at "go"
        refine go_neD hp4 hpd4 shp ?_
        walk_at "go"
        exact ⟨_, _, rfl, s4⟩
      rintro σ' H5 ⟨u, w, rfl, s5⟩
      have hvr : Dp K H5 (.ref r) (.list (rowsOf [] ds)) := .lst (.inl (.inl (s5 _ _ er))) (dpAll_same s5 _ _ hy)
      walk_at "go"
      refine ⟨.ref vw, ds, rfl, dp_same s5 _ _ hv, by omega, hI, fun p6 H6 s6 hsq hp6 => ?_⟩
      obtain ⟨xs6, hsq⟩ := hsq
      walk_at "go"
      refine go_eqD hp6 (dp_same s6 _ _ hvr) (rows_shaped hI) ?_
      exact q _
end
end K34

set_option pp.maxSteps 60
namespace K34
open PySem L2 Gx
theorem all_mk {P : Program} {w : World} {K : PySem.W.Frag} {h : Heap} {mg : Str → Option Value} {f_last_row f_way_to f__law_cell f_law : Addr} (X : K.In h) (G : h.Ns mainGlobals mg) {fa : Addr} (hfa : mg "law" = some (.ref fa))
    {oc_last_row kV_last_row dc_last_row pm_last_row cd_last_row ct_last_row : Value} {od_last_row an_last_row : Option Addr} {sl_last_row : Array (Option Value)}
    {oc_way_to kV_way_to dc_way_to pm_way_to cd_way_to ct_way_to : Value} {od_way_to an_way_to : Option Addr} {sl_way_to : Array (Option Value)}
    {oc__law_cell kV__law_cell dc__law_cell pm__law_cell cd__law_cell ct__law_cell : Value} {od__law_cell an__law_cell : Option Addr} {sl__law_cell : Array (Option Value)}
    {oc_law kV_law dc_law pm_law cd_law ct_law : Value} {od_law an_law : Option Addr} {sl_law : Array (Option Value)}
    (g_last_row : PySem.W.nsIn K mainGlobals "last_row" = some (some (.ref f_last_row)))
    (i_last_row : PySem.W.isFn K (.ref f_last_row) = true)
    (l_last_row : K.lookup f_last_row = some ⟨oc_last_row, od_last_row, .func (PySem.W.fnOf "last_row" "last_row" (defArgs s_last_row) (defBody s_last_row) (defScope s_last_row) .none kV_last_row dc_last_row pm_last_row an_last_row cd_last_row ct_last_row), sl_last_row⟩)
    (c_last_row_ : PySem.W.codeIn K cd_last_row "last_row" = true)
    (k_last_row : PySem.W.keepIn K (.ref f_last_row) = true)
    (g_way_to : PySem.W.nsIn K mainGlobals "way_to" = some (some (.ref f_way_to)))
    (i_way_to : PySem.W.isFn K (.ref f_way_to) = true)
    (l_way_to : K.lookup f_way_to = some ⟨oc_way_to, od_way_to, .func (PySem.W.fnOf "way_to" "way_to" (defArgs s_way_to) (defBody s_way_to) (defScope s_way_to) .none kV_way_to dc_way_to pm_way_to an_way_to cd_way_to ct_way_to), sl_way_to⟩)
    (c_way_to_ : PySem.W.codeIn K cd_way_to "way_to" = true)
    (k_way_to : PySem.W.keepIn K (.ref f_way_to) = true)
    (g__law_cell : PySem.W.nsIn K mainGlobals "_law_cell" = some (some (.ref f__law_cell)))
    (i__law_cell : PySem.W.isFn K (.ref f__law_cell) = true)
    (l__law_cell : K.lookup f__law_cell = some ⟨oc__law_cell, od__law_cell, .func (PySem.W.fnOf "_law_cell" "_law_cell" (defArgs s__law_cell) (defBody s__law_cell) (defScope s__law_cell) .none kV__law_cell dc__law_cell pm__law_cell an__law_cell cd__law_cell ct__law_cell), sl__law_cell⟩)
    (c__law_cell_ : PySem.W.codeIn K cd__law_cell "_law_cell" = true)
    (k__law_cell : PySem.W.keepIn K (.ref f__law_cell) = true)
    (g_law : PySem.W.nsIn K mainGlobals "law" = some (some (.ref f_law)))
    (i_law : PySem.W.isFn K (.ref f_law) = true)
    (l_law : K.lookup f_law = some ⟨oc_law, od_law, .func (PySem.W.fnOf "law" "law" (defArgs s_law) (defBody s_law) (defScope s_law) .none kV_law dc_law pm_law an_law cd_law ct_law), sl_law⟩)
    (c_law_ : PySem.W.codeIn K cd_law "law" = true)
    (k_law : PySem.W.keepIn K (.ref f_law) = true)
    (n_range : PySem.W.nsIn K mainGlobals "range" = some none)
    (n_len : PySem.W.nsIn K mainGlobals "len" = some none)
    (n_isinstance : PySem.W.nsIn K mainGlobals "isinstance" = some none)
    (n_int : PySem.W.nsIn K mainGlobals "int" = some none)
    (n_bool : PySem.W.nsIn K mainGlobals "bool" = some none)
    (n_list : PySem.W.nsIn K mainGlobals "list" = some none)
    (n_tuple : PySem.W.nsIn K mainGlobals "tuple" = some none) :
    ∃ fd : FuncData, (∀ (s : Shared) (v : Value), BindsTo s fd ⟨[v], []⟩ [("_law_script", v)]) ∧ ∀ base : Heap, K.In base → base.Ns mainGlobals mg → FnOk P w K mg base CX0 3 fa fd ["_law_script"] (sp_law K) := by
  have e := hfa.symm.trans (PySem.W.mg_of X G g_law)
  cases e
  have F_last_row := fun_mk (st := s_last_row) l_last_row c_last_row_ k_last_row
  have F_way_to := fun_mk (st := s_way_to) l_way_to c_way_to_ k_way_to
  have F__law_cell := fun_mk (st := s__law_cell) l__law_cell c__law_cell_ k__law_cell
  have F_law := fun_mk (st := s_law) l_law c_law_ k_law
  have T : Txt P K mg ⟨f_last_row, _, f_way_to, _, f__law_cell, _, f_law, _⟩ := ⟨F_last_row,
    (F_last_row.binds (ps := ["view"]) fun _ _ _ _ _ _ us hl => match us, hl with | [_], _ => rfl),
    (PySem.W.mg_of X G g_last_row),
    F_way_to,
    (F_way_to.binds (ps := ["view"]) fun _ _ _ _ _ _ us hl => match us, hl with | [_], _ => rfl),
    (PySem.W.mg_of X G g_way_to),
    F__law_cell,
    (F__law_cell.binds (ps := ["_law_script", "_law_k"]) fun _ _ _ _ _ _ us hl => match us, hl with | [_, _], _ => rfl),
    (PySem.W.mg_of X G g__law_cell),
    F_law,
    (F_law.binds (ps := ["_law_script"]) fun _ _ _ _ _ _ us hl => match us, hl with | [_], _ => rfl),
    (PySem.W.mg_of X G g_law),
    (PySem.W.mg_none_of X G n_range),
    (PySem.W.mg_none_of X G n_len),
    (PySem.W.mg_none_of X G n_isinstance),
    (PySem.W.mg_none_of X G n_int),
    (PySem.W.mg_none_of X G n_bool),
    (PySem.W.mg_none_of X G n_list),
    (PySem.W.mg_none_of X G n_tuple)⟩
  exact ⟨PySem.W.fnOf "law" "law" (defArgs s_law) (defBody s_law) (defScope s_law) .none kV_law dc_law pm_law an_law cd_law ct_law, fun s v => .of_eq rfl, fun base _ _ => G_law (P := P) (w := w) (base := base) T⟩
theorem walk {l : PySem.W.OpenLaw} {q : Program} {loose : List Str} {XP : (Str → Option Value) → Heap → Prop} {YP : World → Heap → Prop} {d : DefRec} {K : Params → PySem.W.Frag} (hn : l.most = some 63) (hdf : d.params.defaults = [])
    (hY : ∀ (w : World) (h : Heap), YP w h → (K w.params).In h)
    (F : ∀ (w : World) (mg : Str → Option Value) (fa : Addr) (h : Heap), (K w.params).In h → h.Ns mainGlobals mg → mg d.name = some (.ref fa) →
      ∃ fd : FuncData, (∀ (s : Shared) (u : Value), BindsTo s fd ⟨[u], []⟩ [("_law_script", u)]) ∧ ∀ base : Heap, (K w.params).In base → base.Ns mainGlobals mg → FnOk l.prog w (K w.params) mg base CX0 3 fa fd ["_law_script"] (sp_law (K w.params))) :
    PySem.W.WalkO q loose XP YP l.row.toRowW d [] (fun f vs => PySem.call f vs) :=
  L2.walk_of (n := 63) (k := 3) (x := "_law_script") (CX := fun _ => CX0) (sp := fun w => sp_law (K w.params)) hn (by decide) hdf ⟨rfl, by decide, by decide⟩ hY F (fun _ _ a ns hl _ hS => ⟨a, ns, rfl, hS, hl, fun _ => rfl⟩) fun _ _ _ _ _ z => z
end K34
open PySem PySem.W PyProof.Rows
set_option maxRecDepth 100000 in
set_option maxHeartbeats 0 in
theorem PySem.Challenge.cw_sureplay_k34_last_rows_and_ways_holds : PySem.Challenge.rw_sureplay_k34_last_rows_and_ways.Holds := by
  w_on; o_law; k_head; (case hw => w_witness2)
  k_fill
  refine K34.walk (l := PySem.Challenge.rw_sureplay_k34_last_rows_and_ways) rfl rfl (fun w h Y => PySem.W.kIn_of Y) ?F
  case F =>
    intro w mg fa h KX G hmg
    refine' K34.all_mk KX G hmg ?g_last_row ?i_last_row ?l_last_row ?c_last_row_ ?k_last_row ?g_way_to ?i_way_to ?l_way_to ?c_way_to_ ?k_way_to ?g__law_cell ?i__law_cell ?l__law_cell ?c__law_cell_ ?k__law_cell ?g_law ?i_law ?l_law ?c_law_ ?k_law ?n_range ?n_len ?n_isinstance ?n_int ?n_bool ?n_list ?n_tuple
    (case g_last_row => k_is)
    (case i_last_row => k_is)
    (case l_last_row => k_is)
    (case c_last_row_ => k_is)
    (case k_last_row => k_is)
    (case g_way_to => k_is)
    (case i_way_to => k_is)
    (case l_way_to => k_is)
    (case c_way_to_ => k_is)
    (case k_way_to => k_is)
    (case g__law_cell => k_is)
    (case i__law_cell => k_is)
    (case l__law_cell => k_is)
    (case c__law_cell_ => k_is)
    (case k__law_cell => k_is)
    (case g_law => k_is)
    (case i_law => k_is)
    (case l_law => k_is)
    (case c_law_ => k_is)
    (case k_law => k_is)
    (case n_range => k_is)
    (case n_len => k_is)
    (case n_isinstance => k_is)
    (case n_int => k_is)
    (case n_bool => k_is)
    (case n_list => k_is)
    (case n_tuple => k_is)
#print axioms PySem.Challenge.cw_sureplay_k34_last_rows_and_ways_holds
