import PyProof.Rows.All
import Wide.All
import OpenK.AllK
import Wide.FinOn
import KE.KExcSuper
import KE.KSuper
import HandS.Exc
import HandS.ExcField
import HandS.ExcIs
import HandS.ExcInit
import HandS.ExcSuper
import HandS.TryMany
import HandS.CallSlots
import HandS.WordsExc
import KE.KExcIs
import HandS.ExcOwn
import KE.GoesComp
import HandS.ForMost
import HandS.Wide
import HandS.IsInst
import HandS.TupAny
import HandS.Evl
import HandS.Codes
import HandS.Gcd
import HandS.OwnEq
import HandS.Defaults
import PySem.Challenge.RW_sureplay_k05_lists_of_ratios
set_option Elab.async false
set_option linter.all false
set_option maxRecDepth 100000
set_option maxHeartbeats 4000000
set_option Elab.async false
set_option linter.all false
set_option maxRecDepth 100000
/-! Own lemmas: stepping through readings (go_), tests, heaps. No program in sight. -/
namespace Gx
open PySem PySem.Spec PyProof.Rows L2

/-! ### statements -/
section
variable {D : Ends} {σ : L2.St} {H : Hp} {t u c : TS} {te ta tb tc tl th : TE} {i : Nat} {Q : VK} {QB : Bool → Hp → Prop}
theorem go_seq (h : t { D with nx := u D } σ H) : tSeq t u D σ H := h
theorem go_cut (M : L2.St → Hp → Prop) (h : t { D with nx := M } σ H) (k : ∀ σ' H', M σ' H' → u D σ' H') : Evl.tCut t u D σ H := ⟨M, h, k⟩
theorem go_asg {g : TG} (h : te σ H fun x H1 => g x σ H1 D.nx) : tAsg te g D σ H := h
theorem go_name {v : V} {R : L2.St → Hp → Prop} (h : R (σ.set i (some v)) H) : gName i v σ H R := h
theorem go_drop (h : te σ H fun _ H1 => D.nx σ H1) : tDrop te D σ H := h
theorem go_ret (h : te σ H D.rt) : tRet te D σ H := h
theorem go_retN (h : D.rt .non H) : tRetN D σ H := h
theorem go_next (h : D.nx σ H) : tNext D σ H := h
theorem go_brk (h : D.bk σ H) : tBreak D σ H := h
theorem go_cont (h : D.ct σ H) : tCont D σ H := h
theorem go_if {tt : TT} (h : tt σ H fun b H1 => if b = true then t D σ H1 else u D σ H1) : tIfS tt t u D σ H := h
/-! ### expressions -/
theorem go_var {v : V} (e : σ[i]? = some (some v)) (h : Q v H) : tVar i σ H Q := ⟨v, e, h⟩
theorem go_c {v : V} (h : Q v H) : tC v σ H Q := h
theorem go_op {r : R2} (h : ta σ H fun x H1 => tb σ H1 fun y H2 => r x y H2 Q) : tOp r ta tb σ H Q := h
theorem go_un {r : V → Hp → VK → Prop} (h : ta σ H fun x H1 => r x H1 Q) : tUn r ta σ H Q := h
theorem go_rI0 {g : Int → Int → V} {a b : Int} (h : Q (g a b) H) : rI0 g (.int a) (.int b) H Q := ⟨a, b, rfl, rfl, h⟩
theorem go_rI {C : Int → Int → Prop} {g : Int → Int → V} {a b : Int} (hc : C a b) (h : Q (g a b) H) : rI C g (.int a) (.int b) H Q := ⟨a, b, rfl, rfl, hc, h⟩
theorem go_rU {g : Int → V} {a : Int} (h : Q (g a) H) : rU g (.int a) H Q := ⟨a, rfl, h⟩
theorem go_eqI {a b : Int} (h : Q (.bl (decide (a = b))) H) : rEq (.int a) (.int b) H Q := ⟨rfl, by simpa using h⟩
theorem go_neI {a b : Int} (h : Q (.bl (!decide (a = b))) H) : rNe (.int a) (.int b) H Q := ⟨rfl, by simpa using h⟩
theorem go_eqS {a b : Str} (h : Q (.bl (decide (a = b))) H) : rEq (.str a) (.str b) H Q := ⟨rfl, by simpa using h⟩
theorem go_neS {a b : Str} (h : Q (.bl (!decide (a = b))) H) : rNe (.str a) (.str b) H Q := ⟨rfl, by simpa using h⟩
theorem go_eqB {a b : Bool} (h : Q (.bl (decide (a = b))) H) : rEq (.bl a) (.bl b) H Q := ⟨rfl, by simpa using h⟩
theorem go_neB {a b : Bool} (h : Q (.bl (!decide (a = b))) H) : rNe (.bl a) (.bl b) H Q := ⟨rfl, by simpa using h⟩
theorem go_eqN (h : Q (.bl true) H) : rEq .non .non H Q := ⟨rfl, by simpa using h⟩
theorem ite_dt {α : Type} [DecidableEq α] {a : α} {A B : Prop} (h : A) : if decide (a = a) = true then A else B := by rw [decide_eq_true rfl]; exact h
theorem go_test (h : te σ H fun x H1 => ∃ k, x = .bl k ∧ QB k H1) : tTest te σ H QB := h
theorem go_B (h : te σ H fun x H1 => ∃ k, x = .bl k ∧ QB k H1) : tB te σ H QB := h
theorem go_bl {b : Bool} (h : QB b H) : ∃ k, V.bl b = .bl k ∧ QB k H := ⟨b, rfl, h⟩
theorem go_and {t u : TT} (h : t σ H fun b H1 => if b = true then u σ H1 QB else QB false H1) : tAnd t u σ H QB := h
theorem go_or {t u : TT} (h : t σ H fun b H1 => if b = true then QB true H1 else u σ H1 QB) : tOr t u σ H QB := h
theorem go_not {t : TT} (h : t σ H fun b H1 => QB (!b) H1) : tNot t σ H QB := h
theorem go_andV (h : ta σ H fun x H1 => ∃ c, x = .bl c ∧ if c = true then tb σ H1 Q else Q (.bl false) H1) : tAndV ta tb σ H Q := h
theorem go_orV (h : ta σ H fun x H1 => ∃ c, x = .bl c ∧ if c = true then Q (.bl true) H1 else tb σ H1 Q) : tOrV ta tb σ H Q := h
theorem go_notV (h : ta σ H fun x H1 => ∃ c, x = .bl c ∧ Q (.bl (!c)) H1) : tNotV ta σ H Q := h
theorem go_ifE {t : TT} (h : t σ H fun c H1 => if c = true then ta σ H1 Q else tb σ H1 Q) : tIf t ta tb σ H Q := h
theorem go_blA {b : Bool} {R : Bool → Prop} (h : R b) : ∃ k, V.bl b = .bl k ∧ R k := ⟨b, rfl, h⟩
theorem go_not_t {QB : Bool → Hp → Prop} (h : QB false H) : QB (!true) H := h
theorem go_not_f {QB : Bool → Hp → Prop} (h : QB true H) : QB (!false) H := h
theorem go_chain {r r' : R2} (h : ta σ H fun x H1 => tb σ H1 fun y H2 => r x y H2 fun z H3 => ∃ k, z = .bl k ∧ (if k = true then tc σ H3 fun w' H4 => r' y w' H4 Q else Q (.bl false) H3)) : tChain r r' ta tb tc σ H Q := h
/-! ### calls -/
theorem go_CB {r : List V → Hp → VK → Prop} {t : TA} (h : t σ H fun vs H1 => r vs H1 Q) : tCB r t σ H Q := h
theorem go_cons {t : TA} {R : List V → Hp → Prop} (h : ta σ H fun x H1 => t σ H1 fun xs H2 => R (x :: xs) H2) : tCons ta t σ H R := h
theorem go_nil {R : List V → Hp → Prop} (h : R [] H) : tNil σ H R := h
theorem go_call {sp : Sp} {dvs : List V} {E : XK} {t : TA} (h : t σ H fun vs H1 => sp (vs ++ dvs) H1 Q E) : tCall sp dvs E t σ H Q := h
theorem go_isi {K : PySem.W.Frag} {x c : V} {t u : Value} {b : Bool} (k : ClsV c u) (ty : TyX K H x t) (e : PySem.W.kitOne K t u = some b) (h : Q (.bl b) H) : rIsi K [x, c] H Q := ⟨x, c, t, u, b, rfl, k, ty, e, h⟩
theorem go_isiB {K : PySem.W.Frag} {x : V} {a c : String} {b : Bool} (ty : TyX K H x (.type a)) (e : kitB a c = some b) (h : Q (.bl b) H) : rIsi K [x, .ty c] H Q := ⟨x, .ty c, .type a, .type c, b, rfl, .ty c, ty, kit_ty e, h⟩
theorem go_lst {t : TA} (h : t σ H fun vs H1 => vs.length ≤ sizeLine ∧ ∀ l, H1 l = none → Q (.ref l) (upd H1 l (.lst vs))) : tLst t σ H Q := h
theorem go_tup {t : TA} (h : t σ H fun vs H1 => vs.length ≤ sizeLine ∧ ∀ l, H1 l = none → Q (.ref l) (upd H1 l (.tup vs))) : tTup t σ H Q := h
theorem go_sl {r : V → Option Int → Option Int → Hp → VK → Prop} {tlo tho : TO} (h : te σ H fun x H1 => tlo σ H1 fun lo H2 => tho σ H2 fun hi H3 => r x lo hi H3 Q) : tSl r te tlo tho σ H Q := h
theorem go_noPart {R : Option Int → Hp → Prop} (h : R none H) : tNoPart σ H R := h
theorem go_part {R : Option Int → Hp → Prop} (h : te σ H fun x H1 => ∃ i, x = .int i ∧ R (some i) H1) : tPart te σ H R := h
theorem go_partI {a : Int} {R : Int → Prop} (h : R a) : ∃ i, V.int a = .int i ∧ R i := ⟨a, rfl, h⟩
theorem go_slL {K : PySem.W.Frag} {a : Addr} {xs : List V} {lo hi : Option Int} (hs : SqL K H a xs) (h : ∀ p, H p = none → Q (.ref p) (upd H p (.lst (cutV xs lo hi)))) : rSlL K (.ref a) lo hi H Q := ⟨a, xs, rfl, hs, h⟩
theorem go_ixL {K : PySem.W.Frag} {a : Addr} {xs : List V} {k : Int} {v : V} (hs : SqL K H a xs) (e : atI xs k = some v) (h : Q v H) : rIxL K (.ref a) (.int k) H Q := ⟨a, xs, k, v, rfl, rfl, hs, e, h⟩
theorem go_ixT {K : PySem.W.Frag} {a : Addr} {xs : List V} {k : Int} {v : V} (hs : SqT K H a xs) (e : atI xs k = some v) (h : Q v H) : rIxT K (.ref a) (.int k) H Q := ⟨a, xs, k, v, rfl, rfl, hs, e, h⟩
end
/-! ### isinstance of scalars -/
theorem isi_int_int {K : PySem.W.Frag} {H : Hp} {Q : VK} {k : Int} (h : Q (.bl true) H) : rIsi K [(V.int k), .ty "int"] H Q := go_isiB (.base (.int _)) (by decide +kernel) h
theorem isi_int_bool {K : PySem.W.Frag} {H : Hp} {Q : VK} {k : Int} (h : Q (.bl false) H) : rIsi K [(V.int k), .ty "bool"] H Q := go_isiB (.base (.int _)) (by decide +kernel) h
theorem isi_int_str {K : PySem.W.Frag} {H : Hp} {Q : VK} {k : Int} (h : Q (.bl false) H) : rIsi K [(V.int k), .ty "str"] H Q := go_isiB (.base (.int _)) (by decide +kernel) h
theorem isi_int_list {K : PySem.W.Frag} {H : Hp} {Q : VK} {k : Int} (h : Q (.bl false) H) : rIsi K [(V.int k), .ty "list"] H Q := go_isiB (.base (.int _)) (by decide +kernel) h
theorem isi_int_tuple {K : PySem.W.Frag} {H : Hp} {Q : VK} {k : Int} (h : Q (.bl false) H) : rIsi K [(V.int k), .ty "tuple"] H Q := go_isiB (.base (.int _)) (by decide +kernel) h
theorem isi_bool_int {K : PySem.W.Frag} {H : Hp} {Q : VK} {k : Bool} (h : Q (.bl true) H) : rIsi K [(V.bl k), .ty "int"] H Q := go_isiB (.base (.bl _)) (by decide +kernel) h
theorem isi_bool_bool {K : PySem.W.Frag} {H : Hp} {Q : VK} {k : Bool} (h : Q (.bl true) H) : rIsi K [(V.bl k), .ty "bool"] H Q := go_isiB (.base (.bl _)) (by decide +kernel) h
theorem isi_bool_str {K : PySem.W.Frag} {H : Hp} {Q : VK} {k : Bool} (h : Q (.bl false) H) : rIsi K [(V.bl k), .ty "str"] H Q := go_isiB (.base (.bl _)) (by decide +kernel) h
theorem isi_bool_list {K : PySem.W.Frag} {H : Hp} {Q : VK} {k : Bool} (h : Q (.bl false) H) : rIsi K [(V.bl k), .ty "list"] H Q := go_isiB (.base (.bl _)) (by decide +kernel) h
theorem isi_bool_tuple {K : PySem.W.Frag} {H : Hp} {Q : VK} {k : Bool} (h : Q (.bl false) H) : rIsi K [(V.bl k), .ty "tuple"] H Q := go_isiB (.base (.bl _)) (by decide +kernel) h
theorem isi_str_int {K : PySem.W.Frag} {H : Hp} {Q : VK} {k : Str} (h : Q (.bl false) H) : rIsi K [(V.str k), .ty "int"] H Q := go_isiB (.base (.str _)) (by decide +kernel) h
theorem isi_str_bool {K : PySem.W.Frag} {H : Hp} {Q : VK} {k : Str} (h : Q (.bl false) H) : rIsi K [(V.str k), .ty "bool"] H Q := go_isiB (.base (.str _)) (by decide +kernel) h
theorem isi_str_str {K : PySem.W.Frag} {H : Hp} {Q : VK} {k : Str} (h : Q (.bl true) H) : rIsi K [(V.str k), .ty "str"] H Q := go_isiB (.base (.str _)) (by decide +kernel) h
theorem isi_str_list {K : PySem.W.Frag} {H : Hp} {Q : VK} {k : Str} (h : Q (.bl false) H) : rIsi K [(V.str k), .ty "list"] H Q := go_isiB (.base (.str _)) (by decide +kernel) h
theorem isi_str_tuple {K : PySem.W.Frag} {H : Hp} {Q : VK} {k : Str} (h : Q (.bl false) H) : rIsi K [(V.str k), .ty "tuple"] H Q := go_isiB (.base (.str _)) (by decide +kernel) h
theorem isi_NoneType_int {K : PySem.W.Frag} {H : Hp} {Q : VK} (h : Q (.bl false) H) : rIsi K [V.non, .ty "int"] H Q := go_isiB (.base .non) (by decide +kernel) h
theorem isi_NoneType_bool {K : PySem.W.Frag} {H : Hp} {Q : VK} (h : Q (.bl false) H) : rIsi K [V.non, .ty "bool"] H Q := go_isiB (.base .non) (by decide +kernel) h
theorem isi_NoneType_str {K : PySem.W.Frag} {H : Hp} {Q : VK} (h : Q (.bl false) H) : rIsi K [V.non, .ty "str"] H Q := go_isiB (.base .non) (by decide +kernel) h
theorem isi_NoneType_list {K : PySem.W.Frag} {H : Hp} {Q : VK} (h : Q (.bl false) H) : rIsi K [V.non, .ty "list"] H Q := go_isiB (.base .non) (by decide +kernel) h
theorem isi_NoneType_tuple {K : PySem.W.Frag} {H : Hp} {Q : VK} (h : Q (.bl false) H) : rIsi K [V.non, .ty "tuple"] H Q := go_isiB (.base .non) (by decide +kernel) h
theorem isi_list_int {K : PySem.W.Frag} {H : Hp} {Q : VK} {p : Addr} {xs : List V} (e : H p = some (.lst xs)) (h : Q (.bl false) H) : rIsi K [.ref p, .ty "int"] H Q := go_isiB (.base (.lst e)) (by decide +kernel) h
theorem isi_list_bool {K : PySem.W.Frag} {H : Hp} {Q : VK} {p : Addr} {xs : List V} (e : H p = some (.lst xs)) (h : Q (.bl false) H) : rIsi K [.ref p, .ty "bool"] H Q := go_isiB (.base (.lst e)) (by decide +kernel) h
theorem isi_list_str {K : PySem.W.Frag} {H : Hp} {Q : VK} {p : Addr} {xs : List V} (e : H p = some (.lst xs)) (h : Q (.bl false) H) : rIsi K [.ref p, .ty "str"] H Q := go_isiB (.base (.lst e)) (by decide +kernel) h
theorem isi_list_list {K : PySem.W.Frag} {H : Hp} {Q : VK} {p : Addr} {xs : List V} (e : H p = some (.lst xs)) (h : Q (.bl true) H) : rIsi K [.ref p, .ty "list"] H Q := go_isiB (.base (.lst e)) (by decide +kernel) h
theorem isi_list_tuple {K : PySem.W.Frag} {H : Hp} {Q : VK} {p : Addr} {xs : List V} (e : H p = some (.lst xs)) (h : Q (.bl false) H) : rIsi K [.ref p, .ty "tuple"] H Q := go_isiB (.base (.lst e)) (by decide +kernel) h
theorem isi_tuple_int {K : PySem.W.Frag} {H : Hp} {Q : VK} {p : Addr} {xs : List V} (e : H p = some (.tup xs)) (h : Q (.bl false) H) : rIsi K [.ref p, .ty "int"] H Q := go_isiB (.base (.tup e)) (by decide +kernel) h
theorem isi_tuple_bool {K : PySem.W.Frag} {H : Hp} {Q : VK} {p : Addr} {xs : List V} (e : H p = some (.tup xs)) (h : Q (.bl false) H) : rIsi K [.ref p, .ty "bool"] H Q := go_isiB (.base (.tup e)) (by decide +kernel) h
theorem isi_tuple_str {K : PySem.W.Frag} {H : Hp} {Q : VK} {p : Addr} {xs : List V} (e : H p = some (.tup xs)) (h : Q (.bl false) H) : rIsi K [.ref p, .ty "str"] H Q := go_isiB (.base (.tup e)) (by decide +kernel) h
theorem isi_tuple_list {K : PySem.W.Frag} {H : Hp} {Q : VK} {p : Addr} {xs : List V} (e : H p = some (.tup xs)) (h : Q (.bl false) H) : rIsi K [.ref p, .ty "list"] H Q := go_isiB (.base (.tup e)) (by decide +kernel) h
theorem isi_tuple_tuple {K : PySem.W.Frag} {H : Hp} {Q : VK} {p : Addr} {xs : List V} (e : H p = some (.tup xs)) (h : Q (.bl true) H) : rIsi K [.ref p, .ty "tuple"] H Q := go_isiB (.base (.tup e)) (by decide +kernel) h
section
variable {D : Ends} {σ : L2.St} {H : Hp} {t u c : TS} {te ta tb tc tl th : TE} {i : Nat} {Q : VK} {QB : Bool → Hp → Prop}
/-! ### what a test comes to -/
theorem ite_d {p : Prop} [Decidable p] {A B : Prop} (h1 : p → A) (h2 : ¬ p → B) : if decide p = true then A else B := by
  by_cases h : p
  · rw [decide_eq_true h]; exact h1 h
  · rw [decide_eq_false h]; exact h2 h
theorem ite_nd {p : Prop} [Decidable p] {A B : Prop} (h1 : ¬ p → A) (h2 : p → B) : if (!decide p) = true then A else B := by
  by_cases h : p
  · rw [decide_eq_true h]; exact h2 h
  · rw [decide_eq_false h]; exact h1 h
theorem ite_nt {A B : Prop} (h : B) : if (!true) = true then A else B := h
theorem ite_nf {A B : Prop} (h : A) : if (!false) = true then A else B := h
theorem ite_b {b : Bool} {A B : Prop} (h1 : b = true → A) (h2 : b = false → B) : if b = true then A else B := by
  cases b with
  | true => exact h1 rfl
  | false => exact h2 rfl
end
/-! ### readings by name -/
section
variable {X : Cx} {H : Hp} {Q : VK} {K : PySem.W.Frag}
def qInt1 : List V → Hp → VK → Prop := fun xs H Q => (∃ i, xs = [.int i] ∧ Q (.int i) H) ∨ ∃ k, xs = [.bl k] ∧ Q (.int (if k then 1 else 0)) H
theorem k_int1 : CallR X (.type "int") qInt1 := call_int1
theorem go_int1 {a : Int} (h : Q (.int a) H) : qInt1 [.int a] H Q := .inl ⟨a, rfl, h⟩
theorem go_intB {b : Bool} (h : Q (.int (if b then 1 else 0)) H) : qInt1 [.bl b] H Q := .inr ⟨b, rfl, h⟩
def qBool1 : List V → Hp → VK → Prop := fun xs H Q => (∃ i, xs = [.int i] ∧ Q (.bl (i != 0)) H) ∨ ∃ k, xs = [.bl k] ∧ Q (.bl k) H
theorem k_bool1 : CallR X (.type "bool") qBool1 := call_bool1
theorem go_bool1 {a : Int} (h : Q (.bl (a != 0)) H) : qBool1 [.int a] H Q := .inl ⟨a, rfl, h⟩
theorem go_boolB {b : Bool} (h : Q (.bl b) H) : qBool1 [.bl b] H Q := .inr ⟨b, rfl, h⟩
def qStrInt : List V → Hp → VK → Prop := fun xs H Q => ∃ i, xs = [.int i] ∧ i.natAbs.log2 < 1920 ∧ Q (.str (toString i)) H
theorem k_str_int : CallR X (.type "str") qStrInt := call_str_int
theorem go_str_int {a : Int} (ha : a.natAbs.log2 < 1920) (h : Q (.str (toString a)) H) : qStrInt [.int a] H Q := ⟨a, rfl, ha, h⟩
def qAbs : List V → Hp → VK → Prop := fun xs H Q => ∃ i, xs = [.int i] ∧ Q (.int (if i < 0 then -i else i)) H
theorem k_abs : CallR X (.builtin "abs") qAbs := call_abs
theorem go_abs {a : Int} (h : Q (.int (if a < 0 then -a else a)) H) : qAbs [.int a] H Q := ⟨a, rfl, h⟩
def qMax2 : List V → Hp → VK → Prop := fun xs H Q => ∃ i j, xs = [.int i, .int j] ∧ Q (.int (if j > i then j else i)) H
theorem k_max2 (hc : X.calm = true) : CallR X (.builtin "max") qMax2 := call_max2 hc
theorem go_max2 {a b : Int} (h : Q (.int (if b > a then b else a)) H) : qMax2 [.int a, .int b] H Q := ⟨a, b, rfl, h⟩
def qMin2 : List V → Hp → VK → Prop := fun xs H Q => ∃ i j, xs = [.int i, .int j] ∧ Q (.int (if j < i then j else i)) H
theorem k_min2 (hc : X.calm = true) : CallR X (.builtin "min") qMin2 := call_min2 hc
theorem go_min2 {a b : Int} (h : Q (.int (if b < a then b else a)) H) : qMin2 [.int a, .int b] H Q := ⟨a, b, rfl, h⟩
def qOrd : List V → Hp → VK → Prop := fun xs H Q => ∃ x, xs = [.str x] ∧ x.length = 1 ∧ Q (.int (x.cps.getD 0 0 : Nat)) H
theorem k_ord : CallR X (.builtin "ord") qOrd := call_ord
theorem go_ord {c : Nat} (h : Q (.int (c : Nat)) H) : qOrd [.str ⟨#[c]⟩] H Q := ⟨⟨#[c]⟩, rfl, rfl, h⟩
def qLen (K : PySem.W.Frag) : List V → Hp → VK → Prop := fun xs H Q => ∃ x n, xs = [x] ∧ LenV K x H n ∧ Q (.int n) H
theorem k_len : CallR X (.builtin "len") (qLen X.K) := call_len
theorem go_lenL {a : Addr} {xs : List V} (hs : SqL K H a xs) (h : Q (.int (xs.length : Nat)) H) : qLen K [.ref a] H Q := ⟨.ref a, xs.length, rfl, .inl ⟨xs, hs, rfl⟩, h⟩
theorem go_lenT {a : Addr} {xs : List V} (hs : SqT K H a xs) (h : Q (.int (xs.length : Nat)) H) : qLen K [.ref a] H Q := ⟨.ref a, xs.length, rfl, .inr ⟨xs, hs, rfl⟩, h⟩
theorem go_lenS {y : Str} (hz : y.length ≤ sizeLine) (h : Q (.int (y.length : Nat)) H) : qLen K [.str y] H Q := ⟨.str y, y.length, rfl, ⟨hz, rfl⟩, h⟩
def qListOf (K : PySem.W.Frag) : List V → Hp → VK → Prop := fun xs H Q => ∃ p ys, xs = [.ref p] ∧ (SqL K H p ys ∨ SqT K H p ys) ∧ ∀ l, H l = none → Q (.ref l) (upd H l (.lst ys))
theorem k_list_of : CallR X (.type "list") (qListOf X.K) := call_list_of
theorem go_listOfL {a : Addr} {xs : List V} (hs : SqL K H a xs) (h : ∀ l, H l = none → Q (.ref l) (upd H l (.lst xs))) : qListOf K [.ref a] H Q := ⟨a, xs, rfl, .inl hs, h⟩
theorem go_listOfT {a : Addr} {xs : List V} (hs : SqT K H a xs) (h : ∀ l, H l = none → Q (.ref l) (upd H l (.lst xs))) : qListOf K [.ref a] H Q := ⟨a, xs, rfl, .inr hs, h⟩
def qTupOf (K : PySem.W.Frag) : List V → Hp → VK → Prop := fun xs H Q => ∃ p ys, xs = [.ref p] ∧ ((SqL K H p ys ∧ ∀ l, H l = none → Q (.ref l) (upd H l (.tup ys))) ∨ (SqT K H p ys ∧ Q (.ref p) H))
theorem k_tuple_of : CallR X (.type "tuple") (qTupOf X.K) := call_tuple_of
theorem go_tupOfL {a : Addr} {xs : List V} (hs : SqL K H a xs) (h : ∀ l, H l = none → Q (.ref l) (upd H l (.tup xs))) : qTupOf K [.ref a] H Q := ⟨a, xs, rfl, .inl ⟨hs, h⟩⟩
theorem go_tupOfT {a : Addr} {xs : List V} (hs : SqT K H a xs) (h : Q (.ref a) H) : qTupOf K [.ref a] H Q := ⟨a, xs, rfl, .inr ⟨hs, h⟩⟩
theorem go_sum {a : Addr} {ns : List Int} (hs : SqL K H a (ns.map V.int)) (h : Q (.int ns.sum) H) : rSum K [.ref a] H Q := ⟨a, ns, rfl, hs, h⟩
theorem go_all {a : Addr} {bs : List Bool} (hs : SqL K H a (bs.map V.bl)) (h : Q (.bl (bs.all id)) H) : rAll K [.ref a] H Q := ⟨a, bs, rfl, hs, h⟩
theorem go_any {a : Addr} {bs : List Bool} (hs : SqL K H a (bs.map V.bl)) (h : Q (.bl (bs.any id)) H) : rAny K [.ref a] H Q := ⟨a, bs, rfl, hs, h⟩
def qIsN : R2 := fun x y H Q => y = .non ∧ Q (.bl (decide (x = .non))) H
theorem o_isN : OpR X (compareOp .Is) qIsN := op_isN
def qNotN : R2 := fun x y H Q => y = .non ∧ Q (.bl (!decide (x = .non))) H
theorem o_notN : OpR X (compareOp .IsNot) qNotN := op_notN
theorem go_isN0 (h : Q (.bl true) H) : qIsN .non .non H Q := ⟨rfl, by simpa using h⟩
theorem go_isNI {i : Int} (h : Q (.bl false) H) : qIsN (.int i) .non H Q := ⟨rfl, by simpa using h⟩
theorem go_isNS {i : Str} (h : Q (.bl false) H) : qIsN (.str i) .non H Q := ⟨rfl, by simpa using h⟩
theorem go_isNB {i : Bool} (h : Q (.bl false) H) : qIsN (.bl i) .non H Q := ⟨rfl, by simpa using h⟩
theorem go_isNR {i : Addr} (h : Q (.bl false) H) : qIsN (.ref i) .non H Q := ⟨rfl, by simpa using h⟩
theorem go_notN0 (h : Q (.bl false) H) : qNotN .non .non H Q := ⟨rfl, by simpa using h⟩
theorem go_notNI {i : Int} (h : Q (.bl true) H) : qNotN (.int i) .non H Q := ⟨rfl, by simpa using h⟩
theorem go_notNS {i : Str} (h : Q (.bl true) H) : qNotN (.str i) .non H Q := ⟨rfl, by simpa using h⟩
theorem go_notNB {i : Bool} (h : Q (.bl true) H) : qNotN (.bl i) .non H Q := ⟨rfl, by simpa using h⟩
theorem go_notNR {i : Addr} (h : Q (.bl true) H) : qNotN (.ref i) .non H Q := ⟨rfl, by simpa using h⟩
def qLtS : R2 := fun x y H Q => ∃ i j, x = .str i ∧ y = .str j ∧ Q (.bl (decide (i.cps.toList < j.cps.toList))) H
theorem o_lt_str : OpR X (compareOp .Lt) qLtS := op_lt_str
theorem go_ltS {a b : Str} (h : Q (.bl (decide (a.cps.toList < b.cps.toList))) H) : qLtS (.str a) (.str b) H Q := ⟨a, b, rfl, rfl, h⟩
def qLeS : R2 := fun x y H Q => ∃ i j, x = .str i ∧ y = .str j ∧ Q (.bl (!decide (j.cps.toList < i.cps.toList))) H
theorem o_le_str : OpR X (compareOp .LtE) qLeS := op_le_str
theorem go_leS {a b : Str} (h : Q (.bl (!decide (b.cps.toList < a.cps.toList))) H) : qLeS (.str a) (.str b) H Q := ⟨a, b, rfl, rfl, h⟩
def qAddS : R2 := fun x y H Q => ∃ i j, x = .str i ∧ y = .str j ∧ i.length + j.length ≤ sizeLine ∧ Q (.str (i ++ j)) H
theorem o_add_str : OpR X (binaryOp .Add) qAddS := op_add_str
theorem go_addS {a b : Str} (hz : a.length + b.length ≤ sizeLine) (h : Q (.str (a ++ b)) H) : qAddS (.str a) (.str b) H Q := ⟨a, b, rfl, rfl, hz, h⟩
theorem go_cat {l b : Addr} {xs zs : List V} (h1 : H l = some (.lst xs)) (h2 : H b = some (.lst zs)) (hz : xs.length + zs.length ≤ sizeLine) (h : ∀ p, H p = none → Q (.ref p) (upd H p (.lst (xs ++ zs)))) : rCat (.ref l) (.ref b) H Q := ⟨l, b, xs, zs, rfl, rfl, h1, h2, hz, h⟩
theorem go_slS {z : Str} {lo hi : Option Int} (hz : z.length ≤ sizeLine) (h : Q (.str (cutS z lo hi)) H) : rSlS (.str z) lo hi H Q := ⟨z, rfl, hz, h⟩
theorem go_ixS {z : Str} {i : Int} {c : Nat} (hz : z.length ≤ sizeLine) (e : atI z.cps.toList i = some c) (h : Q (.str ⟨#[c]⟩) H) : rIxS (.str z) (.int i) H Q := ⟨z, i, c, rfl, rfl, hz, e, h⟩
theorem go_append {l : Addr} {xs : List V} {y : V} (e : H l = some (.lst xs)) (hz : xs.length < sizeLine) (h : Q .non (upd H l (.lst (xs ++ [y])))) : rAppend (.ref l) [y] H Q := ⟨l, xs, y, rfl, rfl, e, hz, h⟩
theorem go_BM {T : String} {r : V → List V → Hp → VK → Prop} {to : TE} {t : TA} {σ : L2.St} (h : to σ H fun x H1 => tyV K T x H1 ∧ t σ H1 fun xs H2 => r x xs H2 Q) : tBM K T r to t σ H Q := h
theorem go_BM0 {T : String} {r : V → List V → Hp → VK → Prop} {to : TE} {σ : L2.St} (h : to σ H fun x H1 => tyV K T x H1 ∧ r x [] H1 Q) : tBM0 K T r to σ H Q := h
end
/-! ### rules within a comprehension: the written part told apart -/
section
variable {X : Cx} {K : PySem.W.Frag} {e : Expr} {ta : TE} {f : Str} {pos : Pos}
theorem pe_fldK (hK : X.K = K) (he : PE X e ta) (hb : attributeBase e f X.env (eval e X.env) = eval e X.env) : PE X (.Attribute e f pos) (tFld K ta f) := by subst hK; exact pe_fld he hb
theorem ix_listK (hK : X.K = K) : IxR X (rIxL K) := by subst hK; exact ix_list
theorem ix_tupK (hK : X.K = K) : IxR X (rIxT K) := by subst hK; exact ix_tup
theorem ix_seqK (hK : X.K = K) : IxR X (rIx K) := by subst hK; exact ix_seq
theorem sl_listK (hK : X.K = K) : SlR X (rSlL K) := by subst hK; exact sl_list
theorem k_lenK (hK : X.K = K) : CallR X (.builtin "len") (qLen K) := by subst hK; exact k_len
theorem call_isiK (hK : X.K = K) : CallR X (.builtin "isinstance") (rIsi K) := by subst hK; exact call_isi
theorem k_list_ofK (hK : X.K = K) : CallR X (.type "list") (qListOf K) := by subst hK; exact k_list_of
theorem k_tuple_ofK (hK : X.K = K) : CallR X (.type "tuple") (qTupOf K) := by subst hK; exact k_tuple_of
theorem cr_sumK (hK : X.K = K) (hc : X.calm = true) : CallR X (.builtin "sum") (rSum K) := by subst hK; exact cr_sum hc
theorem cr_allK (hK : X.K = K) (hc : X.calm = true) : CallR X (.builtin "all") (rAll K) := by subst hK; exact cr_all hc
theorem cr_anyK (hK : X.K = K) (hc : X.calm = true) : CallR X (.builtin "any") (rAny K) := by subst hK; exact cr_any hc
theorem op_in_seqK (hK : X.K = K) : OpR X (compareOp .In) (rIn K false) := by subst hK; exact op_in_seq
theorem op_notIn_seqK (hK : X.K = K) : OpR X (compareOp .NotIn) (rIn K true) := by subst hK; exact op_notIn_seq
theorem op_eqDK (hK : X.K = K) (hu : X.A.units + 64 < cLine) : OpR X (compareOp .Eq) (rEqD K) := by subst hK; exact op_eqD hu
theorem op_neDK (hK : X.K = K) (hu : X.A.units + 64 < cLine) : OpR X (compareOp .NotEq) (rNeD K) := by subst hK; exact op_neD hu
end
/-! ### heaps -/
theorem same_new {H : Hp} {p : Addr} {o : HO} (h : H p = none) : Same H (upd H p o) := fun b x e => by
  rw [upd_ne (ne_of_none e h)]
  exact e
/-- an object that H does not know may change -/
theorem same_mut {H H' : Hp} {p : Addr} {o : HO} (e : Same H H') (h : H p = none) : Same H (upd H' p o) := fun a u ha => by
  rw [upd_ne (ne_of_none ha h)]
  exact e a u ha
theorem same_sqL {K : PySem.W.Frag} {H H' : Hp} {a : Addr} {xs : List V} (e : Same H H') (h : SqL K H a xs) : SqL K H' a xs := e.seq h
theorem same_rd {H H' : Hp} {a : Addr} {u : HO} (e : Same H H') (h : Rd H a u) : Rd H' a u := by
  rcases h with h | ⟨o, h⟩
  · exact Or.inl (e a _ h)
  · exact Or.inr ⟨o, e a _ h⟩
theorem same_sqT {K : PySem.W.Frag} {H H' : Hp} {a : Addr} {xs : List V} (e : Same H H') (h : SqT K H a xs) : SqT K H' a xs := by
  rcases h with h | h
  · exact Or.inl (same_rd e h)
  · exact Or.inr h
theorem sz {n : Nat} (h : n ≤ 100000) : n ≤ sizeLine := Nat.le_trans h (by decide)
theorem szlt {n : Nat} (h : n ≤ 100000) : n < sizeLine := Nat.lt_of_le_of_lt h (by decide)
/-- the list of ints at a place in bounds -/
theorem at_nat {xs : List V} {i : Nat} {v : V} (h : xs[i]? = some v) : atI xs (i : Int) = some v := atI_nat h
theorem at_int {ns : List Int} {k : Int} (h0 : 0 ≤ k) (h : k < ns.length) : atI (ns.map V.int) k = some (.int (ns.getD k.toNat 0)) := by
  have e : k = (k.toNat : Int) := by omega
  have h2 : k.toNat < ns.length := by omega
  rw [e]
  refine at_nat ?_
  rw [List.getElem?_map, Int.toNat_natCast, List.getElem?_eq_getElem h2, List.getD_eq_getElem?_getD, List.getElem?_eq_getElem h2]
  rfl
/-! ### lists of ints: ==, slices, sums -/
theorem dp_ints {K : PySem.W.Frag} {H : Hp} : ∀ ns : List Int, DpAll K H (ns.map V.int) (ns.map PyData.int)
  | [] => .nil
  | n :: r => .cons (.int n) (dp_ints r)
theorem eqv_int (a b : Int) : PyData.eqv (.int a) (.int b) = decide (a = b) := by
  simp only [PyData.eqv]
  by_cases h : a = b
  · simp [h]
  · simp [h]
theorem eqvAll_ints : ∀ xs ys : List Int, PyData.eqvAll (xs.map PyData.int) (ys.map PyData.int) = decide (xs = ys)
  | [], [] => by simp [PyData.eqvAll]
  | [], _ :: _ => by simp [PyData.eqvAll]
  | _ :: _, [] => by simp [PyData.eqvAll]
  | x :: xs, y :: ys => by
    simp only [List.map_cons, PyData.eqvAll, eqv_int, eqvAll_ints xs ys]
    by_cases h : x = y <;> by_cases h2 : xs = ys <;> simp [h, h2]
theorem eqv_ints (xs ys : List Int) : PyData.eqv (.list (xs.map PyData.int)) (.list (ys.map PyData.int)) = decide (xs = ys) := by
  rw [PyData.eqv]
  exact eqvAll_ints xs ys
theorem depth_ints : ∀ xs : List Int, PyData.depthAll (xs.map PyData.int) = 0
  | [] => rfl
  | x :: xs => by
    rw [List.map_cons]
    unfold PyData.depthAll
    rw [depth_ints xs]
    rfl
theorem canLay_ints : ∀ xs : List Int, PyData.canLayAll0 (xs.map PyData.int) = true
  | [] => rfl
  | x :: xs => by
    rw [List.map_cons]
    simp only [PyData.canLayAll0, PyData.canLay0, canLay_ints xs, Bool.and_self]
theorem shaped_ints (xs : List Int) : SeqAt.shaped (.list (xs.map PyData.int)) = true := by
  unfold SeqAt.shaped
  have h1 : PyData.canLay0 (.list (xs.map PyData.int)) = true := by
    simp only [PyData.canLay0]
    exact canLay_ints xs
  have h2 : PyData.depth (.list (xs.map PyData.int)) ≤ 64 := by
    unfold PyData.depth
    rw [depth_ints xs]
    decide
  rw [h1, decide_eq_true h2]
  rfl
theorem go_eqInts {K : PySem.W.Frag} {H : Hp} {Q : VK} {a b : Addr} {xs ys : List Int} (h1 : SqL K H a (xs.map V.int)) (h2 : SqL K H b (ys.map V.int)) (h : Q (.bl (decide (xs = ys))) H) : rEqD K (.ref a) (.ref b) H Q :=
  ⟨_, _, .lst h1 (dp_ints xs), .lst h2 (dp_ints ys), shaped_ints xs, shaped_ints ys, by rw [eqv_ints]; exact h⟩
theorem go_neInts {K : PySem.W.Frag} {H : Hp} {Q : VK} {a b : Addr} {xs ys : List Int} (h1 : SqL K H a (xs.map V.int)) (h2 : SqL K H b (ys.map V.int)) (h : Q (.bl (!decide (xs = ys))) H) : rNeD K (.ref a) (.ref b) H Q :=
  ⟨_, _, .lst h1 (dp_ints xs), .lst h2 (dp_ints ys), shaped_ints xs, shaped_ints ys, by rw [eqv_ints]; exact h⟩
theorem cut_to (xs : List V) (k : Nat) : cutV xs none (some (k : Int)) = xs.take k := by
  unfold cutV
  rw [HT.sIx_none, HT.sIx_nat, List.drop_zero, Nat.sub_zero]
  rcases Nat.le_total k xs.length with h | h
  · rw [Nat.min_eq_left h]
  · rw [Nat.min_eq_right h, List.take_of_length_le (Nat.le_refl _), List.take_of_length_le h]
theorem cut_from (xs : List V) (k : Nat) : cutV xs (some (k : Int)) none = xs.drop k := by
  unfold cutV
  rw [HT.sIx_none, HT.sIx_nat]
  rcases Nat.le_total k xs.length with h | h
  · rw [Nat.min_eq_left h, List.take_of_length_le]
    rw [List.length_drop]
    exact Nat.le_refl _
  · rw [Nat.min_eq_right h, List.drop_of_length_le (Nat.le_refl _), List.drop_of_length_le h, List.take_nil]
theorem sum_take_succ (ws : List Int) (i : Nat) (h : i < ws.length) : (ws.take (i + 1)).sum = (ws.take i).sum + ws.getD i 0 := by
  rw [List.take_add_one, List.getElem?_eq_getElem h, List.sum_append, List.getD_eq_getElem?_getD, List.getElem?_eq_getElem h]
  simp
theorem sum_nonneg : ∀ {ws : List Int}, (∀ w ∈ ws, 0 ≤ w) → 0 ≤ ws.sum
  | [], _ => by simp
  | w :: r, h => by
    have h1 := h w (by simp)
    have h2 := sum_nonneg (ws := r) fun z hz => h z (by simp [hz])
    rw [List.sum_cons]
    omega
theorem sum_take_le {ws : List Int} (h : ∀ w ∈ ws, 0 ≤ w) (i : Nat) : (ws.take i).sum ≤ ws.sum := by
  have e := congrArg List.sum (List.take_append_drop i ws)
  rw [List.sum_append] at e
  have h2 := sum_nonneg (ws := ws.drop i) fun z hz => h z (List.mem_of_mem_drop hz)
  omega
/-- min, max as they are told -/
theorem lt_of_len {a b : Nat} (h : a < b) : (a : Int) < (b : Int) := by omega
/-! ### list comprehensions whose element changes nothing that stood -/
section
variable {K : PySem.W.Frag} {σ : L2.St} {H H1 : Hp} {Q : VK} {tl te : TE} {g : TG} {tt : TT} {vs : List Nat} {j : Nat} {wi : TI}
theorem go_iList {R : It → Hp → Prop} (h : tl σ H fun x H1 => ∃ a, x = .ref a ∧ (∃ xs, SqL K H1 a xs) ∧ R (Itl K a) H1) : iList K tl σ H R := h
theorem go_iListR {a : Addr} {xs : List V} {R : Addr → Prop} (hs : SqL K H a xs) (h : R a) : ∃ b, V.ref a = .ref b ∧ (∃ xs, SqL K H b xs) ∧ R b := ⟨a, rfl, ⟨xs, hs⟩, h⟩
theorem go_iRng1 {ta : TA} {R : It → Hp → Prop} (h : ta σ H fun vs H1 => ∃ j : Int, vs = [.int j] ∧ -(2 ^ 62) ≤ j ∧ j < 2 ^ 62 ∧ R (Itr 0 j.toNat) H1) : iRng1 ta σ H R := h
theorem go_iRng2 {ta : TA} {R : It → Hp → Prop} (h : ta σ H fun vs H1 => ∃ i j : Int, vs = [.int i, .int j] ∧ (-(2 ^ 62) ≤ i ∧ i < 2 ^ 62 ∧ -(2 ^ 62) ≤ j ∧ j < 2 ^ 62) ∧ R (Itr i (j - i).toNat) H1) : iRng2 ta σ H R := h
theorem go_rng1 {n : Int} {R : It → Hp → Prop} (hn : -(2 ^ 62) ≤ n ∧ n < 2 ^ 62) (h : R (Itr 0 n.toNat) H) : ∃ j : Int, [V.int n] = [.int j] ∧ -(2 ^ 62) ≤ j ∧ j < 2 ^ 62 ∧ R (Itr 0 j.toNat) H := ⟨n, rfl, hn.1, hn.2, h⟩
theorem go_rng2 {m n : Int} {R : It → Hp → Prop} (hm : -(2 ^ 62) ≤ m ∧ m < 2 ^ 62 ∧ -(2 ^ 62) ≤ n ∧ n < 2 ^ 62) (h : R (Itr m (n - m).toNat) H) :
    ∃ i j : Int, [V.int m, V.int n] = [.int i, .int j] ∧ (-(2 ^ 62) ≤ i ∧ i < 2 ^ 62 ∧ -(2 ^ 62) ≤ j ∧ j < 2 ^ 62) ∧ R (Itr i (j - i).toNat) H := ⟨m, n, rfl, hm, h⟩
theorem go_yes {QB : Bool → Hp → Prop} (h : QB true H) : tYes σ H QB := h
theorem go_lc (h : wi σ H fun J H1 => ∀ D, H1 D = none → ∃ W : Nat → Nat → Hp → Prop, (∃ m, W 0 m (upd H1 D (.lst []))) ∧ ∀ i m H, W i m H →
  (J.stop i H ∧ Q (.ref D) H) ∨ (J.go i H ∧ ∃ Nx : Hp → Prop, (∀ H', Nx H' → ∃ m', m' < m ∧ W (i + 1) m' H') ∧ ∀ x H', J.yld i H x H' → g x (wipe σ vs) H' fun σ2 H2 => wipe σ2 vs = wipe σ vs ∧ tt σ2 H2 fun b H3 =>
    if b = true then te σ2 H3 fun y H4 => ∃ acc, H4 D = some (.lst acc) ∧ acc.length < sizeLine ∧ Nx (upd H4 D (.lst (acc ++ [y]))) else Nx H3)) : tLc wi g tt te vs σ H Q := h
theorem go_for {D : Ends} {tb : TS} (h : wi σ H fun J H1 => ∃ W : Nat → Nat → L2.St → Hp → Prop, (∃ m, W 0 m σ H1) ∧ ∀ i m σ H, W i m σ H →
  (J.stop i H ∧ D.nx σ H) ∨ (J.go i H ∧ ∃ N : L2.St → Hp → Prop, (∀ σ' H', N σ' H' → ∃ m', m' < m ∧ W (i + 1) m' σ' H') ∧ ∀ x H', J.yld i H x H' → g x σ H' fun σ2 H2 => tb { D with nx := N, ct := N, bk := D.nx } σ2 H2)) : tFor wi g tb D σ H := h
/-- what is in the list being made: all of them so, and all else as it was -/
structure Acc (P : Nat → V → Prop) (H : Hp) (D : Addr) (i : Nat) (H' : Hp) : Prop where
  made : ∃ ys : List V, H' D = some (.lst ys) ∧ ys.length = i ∧ ∀ k y, ys[k]? = some y → P k y
  same : Same H H'
theorem acc_step {P : Nat → V → Prop} {H H' : Hp} {D : Addr} {i : Nat} {y : V} (hD : H D = none) (a : Acc P H D i H') (hy : P i y) (hi : i < 100000) : ∃ acc, H' D = some (.lst acc) ∧ acc.length < sizeLine ∧ Acc P H D (i + 1) (upd H' D (.lst (acc ++ [y]))) := by
  obtain ⟨⟨ys, e, hl, hp⟩, hs⟩ := a
  refine ⟨ys, e, szlt (by omega), ⟨ys ++ [y], upd_same, by simp [hl], fun k z hz => ?_⟩, same_mut hs hD⟩
  rcases Nat.lt_or_ge k ys.length with h | h
  · rw [List.getElem?_append_left h] at hz
    exact hp k z hz
  · rw [List.getElem?_append_right h] at hz
    rcases Nat.eq_or_lt_of_le h with e2 | e2
    · rw [← e2, Nat.sub_self] at hz
      cases hz
      rw [← e2, hl]
      exact hy
    · rw [List.getElem?_eq_none (by simp; omega)] at hz
      cases hz
theorem Acc.keep {P : Nat → V → Prop} {H H' H2 : Hp} {D : Addr} {i : Nat} (a : Acc P H D i H') (s : Same H' H2) : Acc P H D i H2 := by
  obtain ⟨⟨ys, e, hl, hp⟩, hs⟩ := a
  exact ⟨⟨ys, s _ _ e, hl, hp⟩, hs.trans s⟩
/-- [e for x in a list], behind the list's reading -/
theorem lcL {R : Addr → Hp → Prop} {a : Addr} (xs : List V) (P : Nat → V → Prop) (hs : SqL K H1 a xs) (hz : xs.length ≤ 100000) (hw : ∀ x, wipe ((wipe σ vs).set j x) vs = wipe σ vs)
    (he : ∀ (i : Nat) x H', xs[i]? = some x → Same H1 H' → ∀ R : VK, (∀ y H'', Same H' H'' → P i y → R y H'') → te ((wipe σ vs).set j (some x)) H' R)
    (q : ∀ D (ys : List V) H2, H1 D = none → Same H1 H2 → H2 D = some (.lst ys) → ys.length = xs.length → (∀ k y, ys[k]? = some y → P k y) → R D H2) :
    ∃ b, V.ref a = .ref b ∧ (∃ xs, SqL K H1 b xs) ∧ ∀ D, H1 D = none → ∃ W : Nat → Nat → Hp → Prop, (∃ m, W 0 m (upd H1 D (.lst []))) ∧ ∀ i m H, W i m H →
      ((Itl K b).stop i H ∧ R D H) ∨ ((Itl K b).go i H ∧ ∃ Nx : Hp → Prop, (∀ H', Nx H' → ∃ m', m' < m ∧ W (i + 1) m' H') ∧ ∀ x H', (Itl K b).yld i H x H' → gName j x (wipe σ vs) H' fun σ2 H2 => wipe σ2 vs = wipe σ vs ∧ tYes σ2 H2 fun b H3 =>
        if b = true then te σ2 H3 fun y H4 => ∃ acc, H4 D = some (.lst acc) ∧ acc.length < sizeLine ∧ Nx (upd H4 D (.lst (acc ++ [y]))) else Nx H3) := by
  refine ⟨a, rfl, ⟨xs, hs⟩, fun D hD => ?_⟩
  refine lc_list (xs := xs) (Acc P H1 D) ⟨⟨[], upd_same, rfl, fun k y h => by simp at h⟩, same_new hD⟩ (fun i H _ p => same_sqL p.same hs) (fun i x H hx p => ?_) fun H p => ?_
  · refine ⟨hw _, ?_⟩
    refine go_yes ?_
    refine iteT ?_
    refine he i x H hx p.same _ fun y H4 s4 hy => ?_
    have hi := (List.getElem?_eq_some_iff.mp hx).1
    exact acc_step hD (p.keep s4) hy (by omega)
  · obtain ⟨⟨ys, e, hl, hp⟩, s⟩ := p
    exact q D ys H hD s e hl hp
/-- [e for x in range(n)], behind the reading of n -/
theorem lcR1 {R : Addr → Hp → Prop} {n : Int} (P : Nat → V → Prop) (hz : n ≤ 100000) (hn : -(2 ^ 62) ≤ n) (hw : ∀ x, wipe ((wipe σ vs).set j x) vs = wipe σ vs)
    (he : ∀ (i : Nat) H', i < n.toNat → Same H1 H' → ∀ R : VK, (∀ y H'', Same H' H'' → P i y → R y H'') → te ((wipe σ vs).set j (some (.int i))) H' R)
    (q : ∀ D (ys : List V) H2, H1 D = none → Same H1 H2 → H2 D = some (.lst ys) → ys.length = n.toNat → (∀ k y, ys[k]? = some y → P k y) → R D H2) :
    ∃ k : Int, [V.int n] = [.int k] ∧ -(2 ^ 62) ≤ k ∧ k < 2 ^ 62 ∧ ∀ D, H1 D = none → ∃ W : Nat → Nat → Hp → Prop, (∃ m, W 0 m (upd H1 D (.lst []))) ∧ ∀ i m H, W i m H →
      ((Itr 0 k.toNat).stop i H ∧ R D H) ∨ ((Itr 0 k.toNat).go i H ∧ ∃ Nx : Hp → Prop, (∀ H', Nx H' → ∃ m', m' < m ∧ W (i + 1) m' H') ∧ ∀ x H', (Itr 0 k.toNat).yld i H x H' → gName j x (wipe σ vs) H' fun σ2 H2 => wipe σ2 vs = wipe σ vs ∧ tYes σ2 H2 fun b H3 =>
        if b = true then te σ2 H3 fun y H4 => ∃ acc, H4 D = some (.lst acc) ∧ acc.length < sizeLine ∧ Nx (upd H4 D (.lst (acc ++ [y]))) else Nx H3) := by
  refine ⟨n, rfl, hn, by omega, fun D hD => ?_⟩
  refine lc_range (lo := 0) (n := n.toNat) (Acc P H1 D) ⟨⟨[], upd_same, rfl, fun k y h => by simp at h⟩, same_new hD⟩ (fun i H hi p => ?_) fun H p => ?_
  · refine ⟨hw _, ?_⟩
    refine go_yes ?_
    refine iteT ?_
    rw [Int.zero_add]
    refine he i H hi p.same _ fun y H4 s4 hy => ?_
    exact acc_step hD (p.keep s4) hy (by omega)
  · obtain ⟨⟨ys, e, hl, hp⟩, s⟩ := p
    exact q D ys H hD s e hl hp
/-- for x in a list, behind the list's reading -/
theorem foL {D : Ends} {tb : TS} {a : Addr} (xs : List V) (Pv : Nat → L2.St → Hp → Prop) (h0 : Pv 0 σ H1) (hl : ∀ i σ H, i ≤ xs.length → Pv i σ H → SqL K H a xs)
    (hs : ∀ i x σ H, xs[i]? = some x → Pv i σ H → g x σ H fun σ2 H2 => tb { D with nx := Pv (i + 1), ct := Pv (i + 1), bk := D.nx } σ2 H2) (hd : ∀ σ H, Pv xs.length σ H → D.nx σ H) :
    ∃ b, V.ref a = .ref b ∧ (∃ xs, SqL K H1 b xs) ∧ ∃ W : Nat → Nat → L2.St → Hp → Prop, (∃ m, W 0 m σ H1) ∧ ∀ i m σ H, W i m σ H →
      ((Itl K b).stop i H ∧ D.nx σ H) ∨ ((Itl K b).go i H ∧ ∃ N : L2.St → Hp → Prop, (∀ σ' H', N σ' H' → ∃ m', m' < m ∧ W (i + 1) m' σ' H') ∧ ∀ x H', (Itl K b).yld i H x H' → g x σ H' fun σ2 H2 => tb { D with nx := N, ct := N, bk := D.nx } σ2 H2) :=
  ⟨a, rfl, ⟨xs, hl 0 σ H1 (Nat.zero_le _) h0⟩, for_list Pv h0 hl hs hd⟩
/-- for x in range(n), behind the reading of n -/
theorem foR1 {D : Ends} {tb : TS} {n : Int} (Pv : Nat → L2.St → Hp → Prop) (hn : -(2 ^ 62) ≤ n ∧ n < 2 ^ 62) (h0 : Pv 0 σ H1)
    (hs : ∀ (i : Nat) σ H, (i : Int) < n → Pv i σ H → g (.int i) σ H fun σ2 H2 => tb { D with nx := Pv (i + 1), ct := Pv (i + 1), bk := D.nx } σ2 H2) (hd : ∀ σ H, Pv n.toNat σ H → D.nx σ H) :
    ∃ k : Int, [V.int n] = [.int k] ∧ -(2 ^ 62) ≤ k ∧ k < 2 ^ 62 ∧ ∃ W : Nat → Nat → L2.St → Hp → Prop, (∃ m, W 0 m σ H1) ∧ ∀ i m σ H, W i m σ H →
      ((Itr 0 k.toNat).stop i H ∧ D.nx σ H) ∨ ((Itr 0 k.toNat).go i H ∧ ∃ N : L2.St → Hp → Prop, (∀ σ' H', N σ' H' → ∃ m', m' < m ∧ W (i + 1) m' σ' H') ∧ ∀ x H', (Itr 0 k.toNat).yld i H x H' → g x σ H' fun σ2 H2 => tb { D with nx := N, ct := N, bk := D.nx } σ2 H2) :=
  ⟨n, rfl, hn.1, hn.2, for_range Pv h0 (fun i σ H hi p => by rw [Int.zero_add]; exact hs i σ H (by omega) p) hd⟩
/-- while, by a measure that the invariant bears -/
theorem go_while {D : Ends} {c : TT} {tb : TS} (W : Nat → L2.St → Hp → Prop) (m : Nat) (h0 : W m σ H) (hs : ∀ m σ H, W m σ H → c σ H fun b H1 => if b = true then ∃ N : L2.St → Hp → Prop, (∀ σ' H', N σ' H' → ∃ m', m' < m ∧ W m' σ' H') ∧ tb { D with nx := N, ct := N, bk := D.nx } σ H1 else D.nx σ H1) :
    tWhile c tb D σ H := ⟨W, ⟨m, h0⟩, hs⟩
theorem go_loop {D : Ends} {tb : TS} {W : Nat → L2.St → Hp → Prop} {m : Nat} (h : tb { D with nx := fun σ' H' => ∃ m', m' < m ∧ W m' σ' H', ct := fun σ' H' => ∃ m', m' < m ∧ W m' σ' H', bk := D.nx } σ H) :
    ∃ N : L2.St → Hp → Prop, (∀ σ' H', N σ' H' → ∃ m', m' < m ∧ W m' σ' H') ∧ tb { D with nx := N, ct := N, bk := D.nx } σ H := ⟨_, fun _ _ h => h, h⟩
end
/-- all ints, each so -/
theorem ints_of {P : Int → Prop} : ∀ {ys : List V}, (∀ (k : Nat) y, ys[k]? = some y → ∃ w, y = V.int w ∧ P w) → ∃ ws : List Int, ys = ws.map V.int ∧ ∀ w ∈ ws, P w
  | [], _ => ⟨[], rfl, fun _ h => nomatch h⟩
  | y :: r, h => by
    obtain ⟨w, e, p⟩ := h 0 y rfl
    obtain ⟨ws, e2, p2⟩ := ints_of (ys := r) fun k z hz => h (k + 1) z hz
    refine ⟨w :: ws, by rw [e, e2, List.map_cons], fun z hz => ?_⟩
    rcases List.mem_cons.mp hz with rfl | hz
    · exact p
    · exact p2 z hz
end Gx

set_option Elab.async false
set_option linter.all false
set_option maxRecDepth 100000
set_option maxHeartbeats 4000000
/-! Own lemmas: a pool of numbers (a list that is changed by place), data, comprehensions that change it. -/
namespace Gx
open PySem PySem.Spec PyProof.Rows L2
section
variable {K : PySem.W.Frag} {σ : L2.St} {H H1 : Hp} {Q : VK} {tl te to ti : TE} {g : TG} {tt : TT} {vs : List Nat} {j : Nat} {wi : TI}
theorem go_sub {t : TSet} {v : V} {R : L2.St → Hp → Prop} (h : to σ H fun o H1 => ti σ H1 fun i H2 => t o i v H2 fun H3 => R σ H3) : gSub to ti t v σ H R := h
theorem go_setL {p : Addr} {xs : List V} {k : Int} {i : Nat} {v : V} {R : Hp → Prop} (e : H p = some (.lst xs)) (hi : ixN xs.length k = some i) (h : R (upd H p (.lst (xs.set i v)))) : rSetL (.ref p) (.int k) v H R :=
  ⟨p, xs, k, i, rfl, rfl, e, hi, h⟩
theorem go_setL2 {p : Addr} {xs : List V} {k : Int} {i : Nat} {v : V} {R : Hp → Prop} (hi : ixN xs.length k = some i) (h : R (upd H p (.lst (xs.set i v)))) : rSetL (.ref p) (.int k) v (upd H p (.lst xs)) R :=
  ⟨p, xs, k, i, rfl, rfl, upd_same, hi, by rw [upd_upd]; exact h⟩
theorem go_ixL2 {p : Addr} {xs : List V} {k : Int} {v : V} (e : atI xs k = some v) (h : Q v (upd H p (.lst xs))) : rIxL K (.ref p) (.int k) (upd H p (.lst xs)) Q := ⟨p, xs, k, v, rfl, rfl, .of upd_same, e, h⟩
theorem go_ixL1 {p : Addr} {xs : List V} {k : Int} {v : V} (h : H p = some (.lst xs)) (e : atI xs k = some v) (q : Q v H) : rIxL K (.ref p) (.int k) H Q := ⟨p, xs, k, v, rfl, rfl, .of h, e, q⟩
theorem go_ixT1 {p : Addr} {xs : List V} {k : Int} {v : V} (h : H p = some (.tup xs)) (e : atI xs k = some v) (q : Q v H) : rIxT K (.ref p) (.int k) H Q := ⟨p, xs, k, v, rfl, rfl, .of h, e, q⟩
end
/-- all else as it was -/
def But (a : Addr) (H H' : Hp) : Prop := ∀ b o, b ≠ a → H b = some o → H' b = some o
theorem But.refl (a : Addr) (H : Hp) : But a H H := fun _ _ _ h => h
theorem But.trans {a : Addr} {H H1 H2 : Hp} (h : But a H H1) (k : But a H1 H2) : But a H H2 := fun b o n e => k b o n (h b o n e)
theorem But.upd {a : Addr} {H H' : Hp} {o : HO} (h : But a H H') : But a H (upd H' a o) := fun b u n e => by rw [upd_ne n]; exact h b u n e
theorem But.new {a p : Addr} {H H' : Hp} {o : HO} (h : But a H H') (n : H' p = none) : But a H (L2.upd H' p o) := fun b u z e => by
  have q := h b u z e
  rw [upd_ne (ne_of_none q n)]
  exact q
theorem Same.but {a : Addr} {H H' : Hp} (s : Same H H') : But a H H' := fun b o _ e => s b o e
/-- a pool: where it stands, where its list of the script's numbers stands, these -/
structure Pl where
  a : Addr
  l : Addr
  ns : List Int
/-- the pool p stands in H; b: its budget -/
structure Pool (H : Hp) (p : Pl) (b : Int) : Prop where
  ex : ∃ (p1 p2 p3 p4 : Int), H p.a = some (.lst [.ref p.l, .int p1, .int p2, .int p3, .int p4, .int b]) ∧ 0 ≤ p1 ∧ 0 ≤ p3 ∧ p3 < 2147483647
  li : H p.l = some (.lst (p.ns.map V.int))
  ne : p.l ≠ p.a
theorem Pool.there {H : Hp} {p : Pl} {b : Int} (h : Pool H p b) : ∃ xs, H p.a = some (.lst xs) := let ⟨_, _, _, _, e, _⟩ := h.ex; ⟨_, e⟩
theorem Pool.same {H H' : Hp} {p : Pl} {b : Int} (h : Pool H p b) (s : Same H H') : Pool H' p b := by
  obtain ⟨p1, p2, p3, p4, e, k⟩ := h.ex
  exact ⟨⟨p1, p2, p3, p4, s _ _ e, k⟩, s _ _ h.li, h.ne⟩
theorem Pool.new {H : Hp} {p : Pl} {q : Addr} {b : Int} {o : HO} (h : Pool H p b) (n : H q = none) : Pool (upd H q o) p b := h.same (same_new n)
/-- another object is written -/
theorem Pool.upd {H : Hp} {p : Pl} {q : Addr} {b : Int} {o : HO} (h : Pool H p b) (n : q ≠ p.a) (n2 : q ≠ p.l) : Pool (upd H q o) p b := by
  obtain ⟨p1, p2, p3, p4, e, k⟩ := h.ex
  exact ⟨⟨p1, p2, p3, p4, by rw [upd_ne n.symm]; exact e, k⟩, by rw [upd_ne n2.symm]; exact h.li, h.ne⟩
/-- what is free behind was free before -/
theorem But.free {a p : Addr} {H H' : Hp} {o : HO} (h : But a H H') (e : H' a = some o) (n : H' p = none) : H p = none := by
  cases q : H p with
  | none => rfl
  | some u =>
    have ne : p ≠ a := fun z => by rw [z, e] at n; cases n
    rw [h p u ne q] at n
    cases n
/-- one pool's turn: the pool stands, all else is as it was -/
structure Turn (p : Pl) (b : Int) (H H' : Hp) : Prop where
  pool : Pool H' p b
  but : But p.a H H'
theorem Turn.refl {p : Pl} {b : Int} {H : Hp} (h : Pool H p b) : Turn p b H H := ⟨h, .refl p.a H⟩
theorem Turn.trans {p : Pl} {b b' : Int} {H H1 H2 : Hp} (h : Turn p b H H1) (k : Turn p b' H1 H2) : Turn p b' H H2 := ⟨k.pool, h.but.trans k.but⟩
theorem Turn.new {p : Pl} {q : Addr} {b : Int} {H H1 : Hp} {o : HO} (h : Turn p b H H1) (n : H1 q = none) : Turn p b H (upd H1 q o) := ⟨h.pool.new n, h.but.new n⟩
theorem Turn.same {p : Pl} {b : Int} {H H1 H2 : Hp} (h : Turn p b H H1) (s : Same H1 H2) : Turn p b H H2 := ⟨h.pool.same s, h.but.trans (Same.but s)⟩
theorem Turn.free {p : Pl} {q : Addr} {b : Int} {H H' : Hp} (h : Turn p b H H') (n : H' q = none) : H q = none := let ⟨_, e⟩ := h.pool.there; h.but.free e n
theorem Pool.nea {p : Pl} {q : Addr} {b : Int} {H : Hp} (h : Pool H p b) (n : H q = none) : q ≠ p.a := fun z => by
  obtain ⟨_, e⟩ := h.there
  rw [z, e] at n
  cases n
theorem Pool.nel {p : Pl} {q : Addr} {b : Int} {H : Hp} (h : Pool H p b) (n : H q = none) : q ≠ p.l := fun z => by
  rw [z, h.li] at n
  cases n
/-- a new list is written further -/
theorem Turn.mut {p : Pl} {q : Addr} {b b' : Int} {H H2 : Hp} {o : HO} (h0 : Pool H p b') (n : H q = none) (h : Turn p b H H2) : Turn p b H (upd H2 q o) :=
  ⟨h.pool.upd (h0.nea n) (h0.nel n), fun c u nc ec => by rw [upd_ne (ne_of_none ec n)]; exact h.but c u nc ec⟩

section
variable {K : PySem.W.Frag} {σ : L2.St} {H H1 : Hp} {Q : VK} {tl te : TE} {g : TG} {tt : TT} {vs : List Nat} {j : Nat} {wi : TI}
/-- [e for x in range(n)] whose element turns a pool -/
theorem lcPool {R : Addr → Hp → Prop} {n : Int} {p : Pl} {b : Int} (P : Nat → V → Prop) (hp : Pool H1 p b) (hz : n ≤ 100000) (hn : -(2 ^ 62) ≤ n) (hw : ∀ x, wipe ((wipe σ vs).set j x) vs = wipe σ vs)
    (he : ∀ (i : Nat) H', (i : Int) < n → Turn p b H1 H' → ∀ R : VK, (∀ y H'', Turn p b H' H'' → P i y → R y H'') → te ((wipe σ vs).set j (some (.int i))) H' R)
    (q : ∀ D (ys : List V) H2, H1 D = none → Turn p b H1 H2 → H2 D = some (.lst ys) → ys.length = n.toNat → (∀ k y, ys[k]? = some y → P k y) → R D H2) :
    ∃ k : Int, [V.int n] = [.int k] ∧ -(2 ^ 62) ≤ k ∧ k < 2 ^ 62 ∧ ∀ D, H1 D = none → ∃ W : Nat → Nat → Hp → Prop, (∃ m, W 0 m (upd H1 D (.lst []))) ∧ ∀ i m H, W i m H →
      ((Itr 0 k.toNat).stop i H ∧ R D H) ∨ ((Itr 0 k.toNat).go i H ∧ ∃ Nx : Hp → Prop, (∀ H', Nx H' → ∃ m', m' < m ∧ W (i + 1) m' H') ∧ ∀ x H', (Itr 0 k.toNat).yld i H x H' → gName j x (wipe σ vs) H' fun σ2 H2 => wipe σ2 vs = wipe σ vs ∧ tYes σ2 H2 fun b H3 =>
        if b = true then te σ2 H3 fun y H4 => ∃ acc, H4 D = some (.lst acc) ∧ acc.length < sizeLine ∧ Nx (upd H4 D (.lst (acc ++ [y]))) else Nx H3) := by
  refine ⟨n, rfl, hn, by omega, fun D hD => ?_⟩
  have nD : D ≠ p.a := hp.nea hD
  refine lc_range (lo := 0) (n := n.toNat) (fun i H' => (∃ ys : List V, H' D = some (.lst ys) ∧ ys.length = i ∧ ∀ k y, ys[k]? = some y → P k y) ∧ Turn p b H1 H') ⟨⟨[], upd_same, rfl, fun k y h => by simp at h⟩, (Turn.refl hp).new hD⟩ (fun i H hi p => ?_) fun H p => ?_
  · refine ⟨hw _, ?_⟩
    refine go_yes ?_
    refine iteT ?_
    rw [Int.zero_add]
    obtain ⟨⟨ys, e, hl, hP⟩, t⟩ := p
    refine he i H (by omega) t _ fun y H4 s4 hy => ?_
    have e4 := s4.but D _ nD e
    refine ⟨ys, e4, szlt (by omega), ⟨ys ++ [y], upd_same, by simp [hl], fun k z hz => ?_⟩, Turn.mut hp hD (t.trans s4)⟩
    rcases Nat.lt_or_ge k ys.length with h | h
    · rw [List.getElem?_append_left h] at hz
      exact hP k z hz
    · rw [List.getElem?_append_right h] at hz
      rcases Nat.eq_or_lt_of_le h with e2 | e2
      · rw [← e2, Nat.sub_self] at hz
        cases hz
        rw [← e2, hl]
        exact hy
      · rw [List.getElem?_eq_none (by simp; omega)] at hz
        cases hz
  · obtain ⟨⟨ys, e, hl, hP⟩, t⟩ := p
    exact q D ys H hD t e hl hP
end
/-! ### data -/
theorem tyx_list {K : PySem.W.Frag} {H : Hp} {a : Addr} {xs : List V} (h : SqL K H a xs) : TyX K H (.ref a) (.type "list") := by
  rcases h with (h | ⟨o, h⟩) | ⟨o, its, n, e, c, _⟩
  · exact .base (.lst h)
  · exact .base (.frz h)
  · exact .kList e c
theorem tyx_tup {K : PySem.W.Frag} {H : Hp} {a : Addr} {xs : List V} (h : SqT K H a xs) : TyX K H (.ref a) (.type "tuple") := by
  rcases h with (h | ⟨o, h⟩) | ⟨o, its, n, e, c, _⟩
  · exact .base (.tup h)
  · exact .fTuple h
  · exact .kTuple e c
/-- the same data, at most n deep -/
inductive Eqd (K : PySem.W.Frag) (H : Hp) : Nat → V → V → Prop where
  | non {n : Nat} : Eqd K H n .non .non
  | bl {n : Nat} (b : Bool) : Eqd K H n (.bl b) (.bl b)
  | int {n : Nat} (i : Int) : Eqd K H n (.int i) (.int i)
  | str {n : Nat} (x : Str) : Eqd K H n (.str x) (.str x)
  | lst {n : Nat} {a b : Addr} {xs ys : List V} (h1 : SqL K H a xs) (h2 : SqL K H b ys) (hl : xs.length = ys.length) (hz : xs.length ≤ 100000) (h : ∀ (i : Nat) x y, xs[i]? = some x → ys[i]? = some y → Eqd K H n x y) : Eqd K H (n + 1) (.ref a) (.ref b)
  | tup {n : Nat} {a b : Addr} {xs ys : List V} (h1 : SqT K H a xs) (h2 : SqT K H b ys) (hl : xs.length = ys.length) (hz : xs.length ≤ 100000) (h : ∀ (i : Nat) x y, xs[i]? = some x → ys[i]? = some y → Eqd K H n x y) : Eqd K H (n + 1) (.ref a) (.ref b)
section
variable {K : PySem.W.Frag} {H H1 : Hp} {Q : VK}
theorem go_isiL (c : String) {b : Bool} {a : Addr} {xs : List V} (h : SqL K H a xs) (e : kitB "list" c = some b) (q : Q (.bl b) H) : rIsi K [.ref a, .ty c] H Q := go_isiB (tyx_list h) e q
theorem go_isiT (c : String) {b : Bool} {a : Addr} {xs : List V} (h : SqT K H a xs) (e : kitB "tuple" c = some b) (q : Q (.bl b) H) : rIsi K [.ref a, .ty c] H Q := go_isiB (tyx_tup h) e q
theorem sq_list_int {a : Addr} {xs : List V} (h : SqL K H a xs) (q : Q (.bl false) H) : rIsi K [.ref a, .ty "int"] H Q := go_isiB (tyx_list h) (by decide +kernel) q
theorem sq_list_bool {a : Addr} {xs : List V} (h : SqL K H a xs) (q : Q (.bl false) H) : rIsi K [.ref a, .ty "bool"] H Q := go_isiB (tyx_list h) (by decide +kernel) q
theorem sq_list_str {a : Addr} {xs : List V} (h : SqL K H a xs) (q : Q (.bl false) H) : rIsi K [.ref a, .ty "str"] H Q := go_isiB (tyx_list h) (by decide +kernel) q
theorem sq_list_list {a : Addr} {xs : List V} (h : SqL K H a xs) (q : Q (.bl true) H) : rIsi K [.ref a, .ty "list"] H Q := go_isiB (tyx_list h) (by decide +kernel) q
theorem sq_list_tuple {a : Addr} {xs : List V} (h : SqL K H a xs) (q : Q (.bl false) H) : rIsi K [.ref a, .ty "tuple"] H Q := go_isiB (tyx_list h) (by decide +kernel) q
theorem sq_tuple_int {a : Addr} {xs : List V} (h : SqT K H a xs) (q : Q (.bl false) H) : rIsi K [.ref a, .ty "int"] H Q := go_isiB (tyx_tup h) (by decide +kernel) q
theorem sq_tuple_bool {a : Addr} {xs : List V} (h : SqT K H a xs) (q : Q (.bl false) H) : rIsi K [.ref a, .ty "bool"] H Q := go_isiB (tyx_tup h) (by decide +kernel) q
theorem sq_tuple_str {a : Addr} {xs : List V} (h : SqT K H a xs) (q : Q (.bl false) H) : rIsi K [.ref a, .ty "str"] H Q := go_isiB (tyx_tup h) (by decide +kernel) q
theorem sq_tuple_list {a : Addr} {xs : List V} (h : SqT K H a xs) (q : Q (.bl false) H) : rIsi K [.ref a, .ty "list"] H Q := go_isiB (tyx_tup h) (by decide +kernel) q
theorem sq_tuple_tuple {a : Addr} {xs : List V} (h : SqT K H a xs) (q : Q (.bl true) H) : rIsi K [.ref a, .ty "tuple"] H Q := go_isiB (tyx_tup h) (by decide +kernel) q
theorem go_ixQL {a : Addr} {xs : List V} {k : Int} {v : V} (hs : SqL K H a xs) (e : atI xs k = some v) (h : Q v H) : rIx K (.ref a) (.int k) H Q := .inl ⟨a, xs, k, v, rfl, rfl, hs, e, h⟩
theorem go_ixQT {a : Addr} {xs : List V} {k : Int} {v : V} (hs : SqT K H a xs) (e : atI xs k = some v) (h : Q v H) : rIx K (.ref a) (.int k) H Q := .inr (.inl ⟨a, xs, k, v, rfl, rfl, hs, e, h⟩)
end
/-! ### texts -/
abbrev S : List Nat → Str := SX.S
section
variable {X : Cx} {σ : L2.St} {H H1 : Hp} {Q : VK} {K : PySem.W.Frag} {o e : Expr} {to te : TE}
def qSplit : V → List V → Hp → VK → Prop := fun x xs H Q => ∃ a b, x = .str a ∧ xs = [.str b] ∧ (b.length == 0) = false ∧ a.length + 2 ≤ sizeLine ∧ rNewStrs (Txt.split a b) H Q
theorem e_split {apos pos : Pos} (ho : PE X o to) (he : PE X e te) (hs : starEach [e] X.env = [(false, eval e X.env)] := by rfl) (hbase : attributeBase o "split" X.env (eval o X.env) = eval o X.env := by rfl) (hline : (apos.endLine == pos.line) = true := by rfl) :
    PE X (.Call (.Attribute o "split" apos) [e] [] pos) (tM1 qSplit to te) := pe_split ho he hs hbase hline
theorem go_M1 {r : V → List V → Hp → VK → Prop} (h : to σ H fun x H1 => (∃ a, x = .str a) ∧ te σ H1 fun y H2 => r x [y] H2 Q) : tM1 r to te σ H Q := h
theorem go_M0 {r : V → List V → Hp → VK → Prop} (h : to σ H fun x H1 => (∃ a, x = .str a) ∧ r x [] H1 Q) : tM0 r to σ H Q := h
theorem go_isS {a : Str} {B : Prop} (h : B) : (∃ b, V.str a = .str b) ∧ B := ⟨⟨a, rfl⟩, h⟩
theorem go_split {a : List Nat} (ha : a.length ≤ 90000) {c : Nat} (hc : c < 256) (h : ∀ p, H p = none → Q (.ref p) (upd H p (.lst ((TL.spl [c] 0 [] a).map fun w => V.str (S w))))) : qSplit (.str (S a)) [.str (S [c])] H Q := by
  refine ⟨S a, S [c], rfl, rfl, rfl, by rw [SX.S_len]; exact sz (by omega), ?_⟩
  rw [SX.split_S (by simp) (by simp [hc])]
  intro p hp
  rw [List.map_map]
  exact h p hp
def qJoin (K : PySem.W.Frag) : V → List V → Hp → VK → Prop := fun x xs H Q => ∃ a p, ∃ ys : List Str, x = .str a ∧ xs = [.ref p] ∧ (SqL K H p (ys.map V.str) ∨ SqT K H p (ys.map V.str)) ∧ (ys.map (·.length)).sum + ys.length * a.length ≤ 16777216 ∧ Q (.str (Txt.join a ys)) H
theorem e_join {apos pos : Pos} (ho : PE X o to) (he : PE X e te) (hs : starEach [e] X.env = [(false, eval e X.env)] := by rfl) (hbase : attributeBase o "join" X.env (eval o X.env) = eval o X.env := by rfl) (hline : (apos.endLine == pos.line) = true := by rfl) :
    PE X (.Call (.Attribute o "join" apos) [e] [] pos) (tM1 (qJoin X.K) to te) := pe_join ho he hs hbase hline
theorem go_join {a : List Nat} {p : Addr} {ws : List (List Nat)} (hs : SqL K H p (ws.map fun w => V.str (S w))) (hz : (ws.map List.length).sum + ws.length * a.length ≤ 16777216) (h : Q (.str (S (TL.joinL a ws))) H) : qJoin K (.str (S a)) [.ref p] H Q := by
  refine ⟨S a, p, ws.map S, rfl, rfl, .inl (by rw [List.map_map]; exact hs), ?_, by rw [SX.join_S]; exact h⟩
  rw [SX.lens, List.length_map, SX.S_len]
  exact hz
/-- for c in a text -/
theorem go_iStr {R : It → Hp → Prop} (h : te σ H fun v H1 => ∃ x, v = .str x ∧ R (Its x) H1) : iStr te σ H R := h
theorem foS {D : Ends} {tb : TS} {g : TG} (cs : List Nat) (Pv : Nat → L2.St → Hp → Prop) (h0 : Pv 0 σ H1)
    (hs : ∀ i c σ H, cs[i]? = some c → Pv i σ H → g (.str (S [c])) σ H fun σ2 H2 => tb { D with nx := Pv (i + 1), ct := Pv (i + 1), bk := D.nx } σ2 H2) (hd : ∀ σ H, Pv cs.length σ H → D.nx σ H) :
    ∃ x, V.str (S cs) = .str x ∧ ∃ W : Nat → Nat → L2.St → Hp → Prop, (∃ m, W 0 m σ H1) ∧ ∀ i m σ H, W i m σ H →
      ((Its x).stop i H ∧ D.nx σ H) ∨ ((Its x).go i H ∧ ∃ N : L2.St → Hp → Prop, (∀ σ' H', N σ' H' → ∃ m', m' < m ∧ W (i + 1) m' σ' H') ∧ ∀ x2 H', (Its x).yld i H x2 H' → g x2 σ H' fun σ2 H2 => tb { D with nx := N, ct := N, bk := D.nx } σ2 H2) := by
  refine ⟨S cs, rfl, fun i m σ H => m = cs.length - i ∧ i ≤ cs.length ∧ Pv i σ H, ⟨cs.length, by simp, Nat.zero_le _, h0⟩, ?_⟩
  rintro i m σ H ⟨rfl, hi, p⟩
  have hsz : (S cs).cps.size = cs.length := by simp
  by_cases hlt : i < cs.length
  · refine .inr ⟨by show i < (S cs).cps.size; rw [hsz]; exact hlt, Pv (i + 1), fun σ' H' p' => ⟨cs.length - (i + 1), by omega, rfl, hlt, p'⟩, fun x H' y => ?_⟩
    obtain ⟨e, c, hc, rfl⟩ := y
    subst e
    refine hs i c σ _ ?_ p
    have : (S cs).cps[i]? = some c := hc
    simpa using this
  · have e : i = cs.length := by omega
    subst e
    exact .inl ⟨by show (S cs).cps.size ≤ cs.length; omega, hd σ H p⟩
theorem at_mem {α : Type} {xs : List α} {i : Nat} {v : α} (h : atI xs (i : Int) = some v) : v ∈ xs := by
  unfold atI ixN at h
  rw [if_pos (by omega)] at h
  split at h
  · rw [Option.bind_some, Int.toNat_natCast] at h
    exact List.mem_of_getElem? h
  · cases h
theorem atS_ex {z : Str} {k : Int} (h0 : 0 ≤ k) (h : k < z.length) : ∃ c, atI z.cps.toList k = some c := by
  have e : k = (k.toNat : Int) := by omega
  have h2 : k.toNat < z.cps.toList.length := by
    have : z.length = z.cps.toList.length := by simp [Str.length]
    omega
  rw [e]
  exact ⟨_, atI_nat (List.getElem?_eq_getElem h2)⟩
theorem dp_strs : ∀ ws : List Str, DpAll K H (ws.map V.str) (ws.map PyData.str)
  | [] => .nil
  | n :: r => .cons (.str n) (dp_strs r)
theorem eqvAll_strs : ∀ xs : List Str, PyData.eqvAll (xs.map PyData.str) (xs.map PyData.str) = true
  | [] => by simp [PyData.eqvAll]
  | x :: xs => by simp only [List.map_cons, PyData.eqvAll, PyData.eqv, eqvAll_strs xs]; simp
theorem depth_strs : ∀ xs : List Str, PyData.depthAll (xs.map PyData.str) = 0
  | [] => rfl
  | x :: xs => by
    rw [List.map_cons]
    unfold PyData.depthAll
    rw [depth_strs xs]
    rfl
theorem canLay_strs : ∀ xs : List Str, xs.all PyData.strOk = true → PyData.canLayAll0 (xs.map PyData.str) = true
  | [], _ => rfl
  | x :: xs, h => by
    rw [List.all_cons, Bool.and_eq_true] at h
    rw [List.map_cons]
    simp only [PyData.canLayAll0, PyData.canLay0, canLay_strs xs h.2, h.1, Bool.and_self]
theorem shaped_strs (xs : List Str) (h : xs.all PyData.strOk = true) : SeqAt.shaped (.list (xs.map PyData.str)) = true := by
  unfold SeqAt.shaped
  have h1 : PyData.canLay0 (.list (xs.map PyData.str)) = true := by
    simp only [PyData.canLay0]
    exact canLay_strs xs h
  have h2 : PyData.depth (.list (xs.map PyData.str)) ≤ 64 := by
    unfold PyData.depth
    rw [depth_strs xs]
    decide
  rw [h1, decide_eq_true h2]
  rfl
theorem go_eqStrs {a b : Addr} {xs : List Str} (h1 : SqL K H a (xs.map V.str)) (h2 : SqL K H b (xs.map V.str)) (ho : xs.all PyData.strOk = true) (h : Q (.bl true) H) : rEqD K (.ref a) (.ref b) H Q :=
  ⟨_, _, .lst h1 (dp_strs xs), .lst h2 (dp_strs xs), shaped_strs xs ho, shaped_strs xs ho, by rw [PyData.eqv, eqvAll_strs]; exact h⟩
end
end Gx

set_option Elab.async false
set_option linter.all false
set_option maxRecDepth 100000
set_option maxHeartbeats 4000000
/-! Own lemmas: operators that a class defines; gcd, lcm, // of great ints. -/
namespace Gx
open PySem PySem.Spec PyProof.Rows L2
section
variable {X : Cx} {CX : CXT} {C f : Addr} {fd : FuncData} {ps : List Str} {sp : Sp} {E : XK} {k : Nat} {Q : VK} {H : Hp}
theorem back_of {pins : List (Addr × Obj)} {σ : L2.St} {M : Model} {A : Around} {R : Value → Shared → Prop} {t : Sem Value} {s : Shared} (h : wpAny M A t (EP X pins σ Q) R s) : wpAny M A t (PySem.W.CmpBack (EP X pins σ Q)) R s := by
  refine wpAny_mono h (fun v s' q => ?_) fun _ _ z => z
  cases v <;> first | exact q | (obtain ⟨x, H', I, r, q⟩ := q; cases x <;> first | (cases r; done) | (obtain ⟨_, r⟩ := r; cases r))
/-- x op y by the class's own method -/
def rOwn (C : Addr) (sp : Sp) (E : XK) : R2 := fun x y H Q => ∃ a b dx dy fs gs, x = .ref a ∧ y = .ref b ∧ H a = some (.ins C dx fs) ∧ H b = some (.ins C dy gs) ∧ sp [x, y] H Q E
theorem go_own {a b dx dy : Addr} {fs gs : List (Str × V)} (h1 : H a = some (.ins C dx fs)) (h2 : H b = some (.ins C dy gs)) (h : sp [.ref a, .ref b] H Q E) : rOwn C sp E (.ref a) (.ref b) H Q := ⟨a, b, dx, dy, fs, gs, rfl, rfl, h1, h2, h⟩
theorem op_own {op : Operator} (hc : PySem.W.selfFirst X.K C = true) (hs : PySem.W.findIn X.K (.ref C) (PySem.dunder op.info.2) = some (some (.ref f))) (hf : PySem.W.isFn X.K (.ref f) = true)
    (F : FnOk X.prog X.w X.K X.mg X.base CX k f fd ps sp) (hr : Room k X.A) (hb : Binds X.K fd ps []) (hx : Passes CX X E) : OpR X (binaryOp op) (rOwn C sp E) := by
  intro pins s σ H x y v u Q I rx ry h
  obtain ⟨a, b, dx, dy, fs, gs, rfl, rfl, ha, hb', hq⟩ := h
  have rx' := rx
  have ry' := ry
  cases rx
  cases ry
  obtain ⟨mA, J, _⟩ := ins_get I.hok ha
  obtain ⟨mB, J', _⟩ := ins_get I.hok hb'
  obtain ⟨od, J, _⟩ := J.look
  obtain ⟨od', J', _⟩ := J'.look
  obtain ⟨m, hF⟩ := I.fr
  refine PySem.W.binop_K hF I.ok.mod.kin J J'.type hc hs hf (back_of ?_)
  exact run_fn F hr hb .nil hx I (.cons rx' (.cons ry' .nil)) (by simpa using hq)
/-- x == y, x != y by the class's own method (op: its own name) -/
theorem op_ownCmp {op : CmpOp} (hcmp : ∀ v u, compareOp op v u = richCompare op v u) (hc : PySem.W.notFirst X.K C (.ref C) = true) (hs : PySem.W.findIn X.K (.ref C) (cmpInfo op).2.1 = some (some (.ref f))) (hf : PySem.W.isFn X.K (.ref f) = true)
    (F : FnOk X.prog X.w X.K X.mg X.base CX k f fd ps sp) (hr : Room k X.A) (hb : Binds X.K fd ps []) (hx : Passes CX X E) : OpR X (compareOp op) (rOwn C sp E) := by
  intro pins s σ H x y v u Q I rx ry h
  obtain ⟨a, b, dx, dy, fs, gs, rfl, rfl, ha, hb', hq⟩ := h
  have rx' := rx
  have ry' := ry
  cases rx
  cases ry
  obtain ⟨mA, J, _⟩ := ins_get I.hok ha
  obtain ⟨mB, J', _⟩ := ins_get I.hok hb'
  obtain ⟨od, J, _⟩ := J.look
  obtain ⟨od', J', _⟩ := J'.look
  obtain ⟨m, hF⟩ := I.fr
  rw [hcmp]
  refine PySem.W.cmp_K hr.units0 hF I.ok.mod.kin J J'.type hc hs hf (back_of ?_)
  exact run_fn F hr hb .nil hx I (.cons rx' (.cons ry' .nil)) (by simpa using hq)
/-- -x by the class's own method -/
def uOwn (C : Addr) (sp : Sp) (E : XK) : V → Hp → VK → Prop := fun x H Q => ∃ a dx fs, x = .ref a ∧ H a = some (.ins C dx fs) ∧ sp [x] H Q E
theorem go_uOwn {a dx : Addr} {fs : List (Str × V)} (h1 : H a = some (.ins C dx fs)) (h : sp [.ref a] H Q E) : uOwn C sp E (.ref a) H Q := ⟨a, dx, fs, rfl, h1, h⟩
theorem un_own (hs : PySem.W.findIn X.K (.ref C) "__neg__" = some (some (.ref f))) (hf : PySem.W.isFn X.K (.ref f) = true)
    (F : FnOk X.prog X.w X.K X.mg X.base CX k f fd ps sp) (hr : Room k X.A) (hb : Binds X.K fd ps []) (hx : Passes CX X E) : UnR X (unaryOp .USub) (uOwn C sp E) := by
  intro pins s σ H x v Q I rx h
  obtain ⟨a, dx, fs, rfl, ha, hq⟩ := h
  have rx' := rx
  cases rx
  obtain ⟨mA, J, _⟩ := ins_get I.hok ha
  obtain ⟨od, J, _⟩ := J.look
  unfold unaryOp
  refine wpAny_holding ?_
  dsimp only
  rw [if_neg (by decide)]
  refine wpAny_bind (PySem.W.special_fn I.kIn J hs (beq_iff_eq.mp hf) ?_)
  exact wpAny_mono (run_fn F hr hb .nil hx I (.cons rx' .nil) (by simpa using hq)) (fun v s' q => wpAny_pure q) fun _ _ z => z
/-! ### great ints -/
def CDivX (_ j : Int) : Prop := j ≠ 0 ∧ j.natAbs.log2 < 9000
theorem op_fdivX : OpR X (binaryOp .FloorDiv) (rI CDivX fun i j => .int (i.fdiv j)) := opI fun _ _ _ _ _ _ _ hc q => floordiv_int hc.1 q (.inl (PyProof.noPylong_of_log2 hc.2))
theorem divX {i j : Int} {b : Nat} (h : j ≠ 0) (hb : j.natAbs < 2 ^ b) (h0 : 0 < b) (h9 : b ≤ 9000) : CDivX i j := ⟨h, Nat.lt_of_lt_of_le (PySem.Flt.log2_lt_of h0 hb) h9⟩
theorem go_gcd {a b : Int} (h : Q (.int ((Nat.gcd a.natAbs b.natAbs : Nat) : Int)) H) : rGcd [.int a, .int b] H Q := ⟨a, b, rfl, h⟩
/-- two numbers of up to 9000 bits -/
def rLcm : List V → Hp → VK → Prop := fun vs H Q => ∃ a b : Int, vs = [.int a, .int b] ∧ a.natAbs < 2 ^ 9000 ∧ b.natAbs < 2 ^ 9000 ∧ Q (.int ((Nat.lcm a.natAbs b.natAbs : Nat) : Int)) H
theorem log2_le {n k : Nat} (h : n < 2 ^ (k + 1)) : n.log2 ≤ k := PySem.W.mg_log h
theorem cr_lcm : CallR X (.builtin "math.lcm") rLcm := by
  intro pins s σ H vs us Q I r h
  obtain ⟨a, b, rfl, ha, hb, q⟩ := h
  obtain ⟨t, u, rfl⟩ := Vals.int2 r
  have h1 : (max 1 a.natAbs).log2 ≤ 8999 := log2_le (by
    have : 1 < 2 ^ 9000 := Nat.one_lt_two_pow (by decide)
    show max 1 a.natAbs < 2 ^ 9000
    omega)
  have h2 : (max a.natAbs b.natAbs).log2 ≤ 8999 := log2_le (by show max a.natAbs b.natAbs < 2 ^ 9000; omega)
  have e : (Nat.lcm 1 a.natAbs) = a.natAbs := Nat.lcm_one_left _
  have hz : ((((Nat.lcm 1 a.natAbs).lcm b.natAbs : Nat) : Int)).natAbs.log2 < bitsLine := by
    rw [e, Int.natAbs_natCast]
    have hm : a.natAbs.lcm b.natAbs ≤ a.natAbs * b.natAbs := Nat.div_le_self _ _
    have hl : a.natAbs.lcm b.natAbs < 2 ^ (17999 + 1) := by
      have : a.natAbs * b.natAbs < 2 ^ 9000 * 2 ^ 9000 := Nat.mul_lt_mul'' ha hb
      rw [← Nat.pow_add] at this
      exact Nat.lt_of_le_of_lt hm this
    have := log2_le hl
    have hb : bitsLine = 134217728 := by decide
    omega
  have g := PySem.W.mg_run_lcm a t b u (by omega) (by omega) hz
  refine call_function_meets PySem.W.MGF.kind_lcm PySem.W.MGF.plain_lcm PySem.W.MGF.entry_lcm (PySem.W.MGF.args_lcm _ _) g.meets ?_
  rw [e]
  exact ⟨.int _, H, I.tok _, ⟨_, rfl⟩, q⟩
theorem go_lcm {a b : Int} (ha : a.natAbs < 2 ^ 9000) (hb : b.natAbs < 2 ^ 9000) (h : Q (.int ((Nat.lcm a.natAbs b.natAbs : Nat) : Int)) H) : rLcm [.int a, .int b] H Q := ⟨a, b, rfl, ha, hb, h⟩
end
end Gx

set_option Elab.async false
set_option linter.all false
set_option maxRecDepth 100000
set_option maxHeartbeats 4000000
/-! Own lemmas: fractions in lowest terms; Euclid's loop. -/
namespace Gx
open PySem PySem.Spec PyProof.Rows L2
/-- the numerator and the denominator in lowest terms -/
def rN (a b : Int) : Int := if b < 0 then (-a) / (Int.gcd a b : Int) else a / (Int.gcd a b : Int)
def rD (a b : Int) : Int := if b < 0 then (-b) / (Int.gcd a b : Int) else b / (Int.gcd a b : Int)
theorem gcd_pos {a b : Int} (h : b ≠ 0) : 0 < (Int.gcd a b : Int) := by
  have := Int.gcd_pos_of_ne_zero_right a h
  omega
theorem gcd_l (a b : Int) : (Int.gcd a b : Int) ∣ a := Int.gcd_dvd_left _ _
theorem gcd_r (a b : Int) : (Int.gcd a b : Int) ∣ b := Int.gcd_dvd_right _ _
/-- one form for both signs -/
theorem rN_mul {a b : Int} (h : b ≠ 0) : rN a b * (if b < 0 then -(Int.gcd a b : Int) else (Int.gcd a b : Int)) = a := by
  unfold rN
  split
  · rw [Int.mul_neg, Int.ediv_mul_cancel (Int.dvd_neg.mpr (gcd_l a b)), Int.neg_neg]
  · exact Int.ediv_mul_cancel (gcd_l a b)
theorem rD_mul {a b : Int} (h : b ≠ 0) : rD a b * (if b < 0 then -(Int.gcd a b : Int) else (Int.gcd a b : Int)) = b := by
  unfold rD
  split
  · rw [Int.mul_neg, Int.ediv_mul_cancel (Int.dvd_neg.mpr (gcd_r a b)), Int.neg_neg]
  · exact Int.ediv_mul_cancel (gcd_r a b)
theorem rD_pos {a b : Int} (h : b ≠ 0) : 0 < rD a b := by
  have g := gcd_pos (a := a) h
  have e := rD_mul (a := a) h
  by_cases hb : b < 0
  · rw [if_pos hb] at e
    by_cases q : 0 < rD a b
    · exact q
    · have : 0 ≤ rD a b * -(Int.gcd a b : Int) := Int.mul_nonneg_of_nonpos_of_nonpos (by omega) (by omega)
      omega
  · rw [if_neg hb] at e
    by_cases q : 0 < rD a b
    · exact q
    · have : rD a b * (Int.gcd a b : Int) ≤ 0 := Int.mul_nonpos_of_nonpos_of_nonneg (by omega) (by omega)
      omega
theorem r_cross {a b : Int} (h : b ≠ 0) : rN a b * b = a * rD a b := by
  have e1 := rN_mul (a := a) h
  have e2 := rD_mul (a := a) h
  generalize (if b < 0 then -(Int.gcd a b : Int) else (Int.gcd a b : Int)) = g at e1 e2
  calc rN a b * b = rN a b * (rD a b * g) := by rw [e2]
    _ = (rN a b * g) * rD a b := by rw [Int.mul_comm (rD a b) g, ← Int.mul_assoc]
    _ = a * rD a b := by rw [e1]
theorem r_coprime {a b : Int} (h : b ≠ 0) : Int.gcd (rN a b) (rD a b) = 1 := by
  have g := gcd_pos (a := a) h
  have e1 := rN_mul (a := a) h
  have e2 := rD_mul (a := a) h
  have e3 : Int.gcd (rN a b * (if b < 0 then -(Int.gcd a b : Int) else (Int.gcd a b : Int))) (rD a b * (if b < 0 then -(Int.gcd a b : Int) else (Int.gcd a b : Int))) = Int.gcd a b := by rw [e1, e2]
  rw [Int.gcd_mul_right] at e3
  have e4 : (if b < 0 then -(Int.gcd a b : Int) else (Int.gcd a b : Int)).natAbs = Int.gcd a b := by
    split
    · rw [Int.natAbs_neg, Int.natAbs_natCast]
    · rw [Int.natAbs_natCast]
  rw [e4] at e3
  have hp : 0 < Int.gcd a b := by omega
  exact Nat.eq_of_mul_eq_mul_right hp (by omega)
theorem dvd_co {k m n : Int} (h : k ∣ m * n) (g : Int.gcd k m = 1) : k ∣ n := by
  have h' : k.natAbs ∣ m.natAbs * n.natAbs := by
    rw [← Int.natAbs_mul]
    exact Int.natAbs_dvd_natAbs.mpr h
  exact Int.natAbs_dvd_natAbs.mp (Nat.Coprime.dvd_of_dvd_mul_left (show Nat.gcd k.natAbs m.natAbs = 1 from g) h')
/-- lowest terms are one -/
theorem low_unique {n d n' d' : Int} (hd : 0 < d) (hd' : 0 < d') (h1 : Int.gcd n d = 1) (h2 : Int.gcd n' d' = 1) (h : n * d' = n' * d) : n = n' ∧ d = d' := by
  have k1 : d ∣ d' := by
    have : d ∣ n * d' := by rw [h]; exact Int.dvd_mul_left _ _
    exact dvd_co this (by rw [Int.gcd_comm]; exact h1)
  have k2 : d' ∣ d := by
    have : d' ∣ n' * d := by rw [← h]; exact Int.dvd_mul_left _ _
    exact dvd_co this (by rw [Int.gcd_comm]; exact h2)
  have e : d = d' := Int.dvd_antisymm (by omega) (by omega) k1 k2
  subst e
  exact ⟨Int.eq_of_mul_eq_mul_right (by omega) h, rfl⟩
theorem r_unique {a b n d : Int} (h : b ≠ 0) (hd : 0 < d) (hg : Int.gcd n d = 1) (e : n * b = a * d) : n = rN a b ∧ d = rD a b := by
  refine low_unique hd (rD_pos h) hg (r_coprime h) ?_
  have c := r_cross (a := a) h
  have : n * rD a b * b = rN a b * d * b := by
    calc n * rD a b * b = n * b * rD a b := by rw [Int.mul_right_comm]
      _ = a * d * rD a b := by rw [e]
      _ = a * rD a b * d := by rw [Int.mul_right_comm]
      _ = rN a b * b * d := by rw [c]
      _ = rN a b * d * b := by rw [Int.mul_right_comm]
  exact Int.eq_of_mul_eq_mul_right h this
theorem r_congr {a b a' b' : Int} (h : b ≠ 0) (h' : b' ≠ 0) (e : a * b' = a' * b) : rN a b = rN a' b' ∧ rD a b = rD a' b' := by
  refine r_unique h' (rD_pos h) (r_coprime h) ?_
  have c := r_cross (a := a) h
  have : rN a b * b' * b = a' * rD a b * b := by
    calc rN a b * b' * b = rN a b * b * b' := by rw [Int.mul_right_comm]
      _ = a * rD a b * b' := by rw [c]
      _ = a * b' * rD a b := by rw [Int.mul_right_comm]
      _ = a' * b * rD a b := by rw [e]
      _ = a' * rD a b * b := by rw [Int.mul_right_comm]
  exact Int.eq_of_mul_eq_mul_right h this
/-- what the program reckons -/
theorem rN_fdiv {a b : Int} (h : b ≠ 0) {p : Int} (hp : p = if b < 0 then -(Int.gcd a b : Int) else (Int.gcd a b : Int)) : a.fdiv p = rN a b ∧ b.fdiv p = rD a b ∧ p ≠ 0 := by
  have g := gcd_pos (a := a) h
  have hp0 : p ≠ 0 := by rw [hp]; split <;> omega
  have e1 := rN_mul (a := a) h
  have e2 := rD_mul (a := a) h
  rw [← hp] at e1 e2
  refine ⟨?_, ?_, hp0⟩
  · have := Int.mul_fdiv_cancel (rN a b) hp0
    rw [e1] at this
    exact this
  · have := Int.mul_fdiv_cancel (rD a b) hp0
    rw [e2] at this
    exact this
theorem mul_abs_le {x y z : Int} (hz : z ≠ 0) (e : x * z = y) : x.natAbs ≤ y.natAbs := by
  rw [← e, Int.natAbs_mul]
  exact Nat.le_mul_of_pos_right _ (by omega)
theorem rN_le (a b : Int) (h : b ≠ 0) : (rN a b).natAbs ≤ a.natAbs := by
  have g := gcd_pos (a := a) h
  exact mul_abs_le (by split <;> omega) (rN_mul h)
theorem rD_le (a b : Int) (h : b ≠ 0) : (rD a b).natAbs ≤ b.natAbs := by
  have g := gcd_pos (a := a) h
  exact mul_abs_le (by split <;> omega) (rD_mul h)
theorem r_self {n d : Int} (hd : 0 < d) (hg : Int.gcd n d = 1) : rN n d = n ∧ rD n d = d := by
  obtain ⟨e1, e2⟩ := r_unique (a := n) (b := d) (n := n) (d := d) (by omega) hd hg rfl
  exact ⟨e1.symm, e2.symm⟩
/-! ### sums, products of fractions that were brought to lowest terms -/
theorem r_add {a b c d : Int} (hb : b ≠ 0) (hd : d ≠ 0) : rN (rN a b * rD c d + rN c d * rD a b) (rD a b * rD c d) = rN (a * d + c * b) (b * d) ∧ rD (rN a b * rD c d + rN c d * rD a b) (rD a b * rD c d) = rD (a * d + c * b) (b * d) := by
  have p1 := rD_pos (a := a) hb
  have p2 := rD_pos (a := c) hd
  have c1 := r_cross (a := a) hb
  have c2 := r_cross (a := c) hd
  refine r_congr (Int.ne_of_gt (Int.mul_pos p1 p2)) (Int.mul_ne_zero hb hd) ?_
  generalize rN a b = n at *
  generalize rD a b = m at *
  generalize rN c d = n' at *
  generalize rD c d = m' at *
  rw [Int.add_mul, Int.add_mul]
  have e1 : n * m' * (b * d) = a * d * (m * m') := by
    calc n * m' * (b * d) = (n * b) * (m' * d) := by ac_rfl
      _ = (a * m) * (m' * d) := by rw [c1]
      _ = a * d * (m * m') := by ac_rfl
  have e2 : n' * m * (b * d) = c * b * (m * m') := by
    calc n' * m * (b * d) = (n' * d) * (m * b) := by ac_rfl
      _ = (c * m') * (m * b) := by rw [c2]
      _ = c * b * (m * m') := by ac_rfl
  rw [e1, e2]
theorem r_neg {a b : Int} (hb : b ≠ 0) : rN (-rN a b) (rD a b) = rN (-a) b ∧ rD (-rN a b) (rD a b) = rD (-a) b := by
  have p1 := rD_pos (a := a) hb
  have c1 := r_cross (a := a) hb
  refine r_congr (by omega) hb ?_
  rw [Int.neg_mul, Int.neg_mul, c1]
theorem r_sub {a b c d : Int} (hb : b ≠ 0) (hd : d ≠ 0) : rN (rN a b * rD c d - rN c d * rD a b) (rD a b * rD c d) = rN (a * d - c * b) (b * d) ∧ rD (rN a b * rD c d - rN c d * rD a b) (rD a b * rD c d) = rD (a * d - c * b) (b * d) := by
  have p1 := rD_pos (a := a) hb
  have p2 := rD_pos (a := c) hd
  have c1 := r_cross (a := a) hb
  have c2 := r_cross (a := c) hd
  refine r_congr (Int.ne_of_gt (Int.mul_pos p1 p2)) (Int.mul_ne_zero hb hd) ?_
  generalize rN a b = n at *
  generalize rD a b = m at *
  generalize rN c d = n' at *
  generalize rD c d = m' at *
  rw [Int.sub_mul, Int.sub_mul]
  have e1 : n * m' * (b * d) = a * d * (m * m') := by
    calc n * m' * (b * d) = (n * b) * (m' * d) := by ac_rfl
      _ = (a * m) * (m' * d) := by rw [c1]
      _ = a * d * (m * m') := by ac_rfl
  have e2 : n' * m * (b * d) = c * b * (m * m') := by
    calc n' * m * (b * d) = (n' * d) * (m * b) := by ac_rfl
      _ = (c * m') * (m * b) := by rw [c2]
      _ = c * b * (m * m') := by ac_rfl
  rw [e1, e2]
theorem r_mul {a b c d : Int} (hb : b ≠ 0) (hd : d ≠ 0) : rN (rN a b * rN c d) (rD a b * rD c d) = rN (a * c) (b * d) ∧ rD (rN a b * rN c d) (rD a b * rD c d) = rD (a * c) (b * d) := by
  have p1 := rD_pos (a := a) hb
  have p2 := rD_pos (a := c) hd
  have c1 := r_cross (a := a) hb
  have c2 := r_cross (a := c) hd
  refine r_congr (Int.ne_of_gt (Int.mul_pos p1 p2)) (Int.mul_ne_zero hb hd) ?_
  generalize rN a b = n at *
  generalize rD a b = m at *
  generalize rN c d = n' at *
  generalize rD c d = m' at *
  calc n * n' * (b * d) = (n * b) * (n' * d) := by ac_rfl
    _ = (a * m) * (c * m') := by rw [c1, c2]
    _ = a * c * (m * m') := by ac_rfl
/-! ### Euclid -/
theorem gcd_step {a b : Int} (ha : 0 ≤ a) (hb : 0 < b) : Int.gcd b (a % b) = Int.gcd a b := by
  have h : 0 ≤ a % b := Int.emod_nonneg _ (by omega)
  obtain ⟨n, rfl⟩ : ∃ n : Nat, a = n := ⟨a.toNat, by omega⟩
  obtain ⟨m, rfl⟩ : ∃ m : Nat, b = m := ⟨b.toNat, by omega⟩
  rw [← Int.natCast_emod, Int.gcd_natCast_natCast, Int.gcd_natCast_natCast, Nat.gcd_comm n m, Nat.gcd_rec m n, Nat.gcd_comm]
theorem euclid_drop {a b : Int} (hb : 0 < b) (h : b < a) : 2 * (b * (a % b)) ≤ a * b := by
  have h0 : 0 ≤ a % b := Int.emod_nonneg _ (by omega)
  have h1 : a % b < b := Int.emod_lt_of_pos _ hb
  have h2 : 1 ≤ a / b := by
    rw [Int.le_ediv_iff_mul_le hb]
    omega
  have h3 := Int.mul_ediv_add_emod a b
  have h4 : b * 1 ≤ b * (a / b) := Int.mul_le_mul_of_nonneg_left h2 (by omega)
  have h5 : 2 * (a % b) ≤ a := by omega
  have h6 : b * (2 * (a % b)) ≤ b * a := Int.mul_le_mul_of_nonneg_left h5 (by omega)
  rw [Int.mul_comm a b]
  calc 2 * (b * (a % b)) = b * (2 * (a % b)) := by ac_rfl
    _ ≤ b * a := h6
/-! ### a ratio as an object -/
def rf (n d : Int) : List (Str × V) := [("num", .int n), ("den", .int d)]
theorem nd_ne : ¬ (("num" : Str) = "den") := by decide +kernel
theorem rf_num (n d : Int) : (rf n d).lookup ("num" : Str) = some (.int n) := by
  unfold rf
  rw [List.lookup_cons, beq_self_eq_true]
theorem rf_den (n d : Int) : (rf n d).lookup ("den" : Str) = some (.int d) := by
  unfold rf
  rw [List.lookup_cons, show (("den" : Str) == "num") = false by decide +kernel, List.lookup_cons, beq_self_eq_true]
theorem rf_none (n d : Int) {m : Str} (h1 : ¬ m = "num") (h2 : ¬ m = "den") : (rf n d).lookup m = none := by
  unfold rf
  rw [List.lookup_cons, beq_eq_false_iff_ne.mpr h1, List.lookup_cons, beq_eq_false_iff_ne.mpr h2]
  rfl
theorem rf_put (n d : Int) : putF "den" (.int d) (putF "num" (.int n) []) = rf n d := by
  show (if ("num" : Str) = "den" then [(("num" : Str), V.int d)] else (("num" : Str), V.int n) :: putF "den" (V.int d) []) = _
  rw [if_neg nd_ne]
  rfl
/-- a ratio n / d stands at x -/
def RatAt (C : Addr) (H : Hp) (x : Addr) (n d : Int) : Prop := ∃ dx, H x = some (.ins C dx (rf n d))
theorem RatAt.same {C : Addr} {H H' : Hp} {x : Addr} {n d : Int} (h : RatAt C H x n d) (s : Same H H') : RatAt C H' x n d := let ⟨dx, e⟩ := h; ⟨dx, s _ _ e⟩
section
variable {K : PySem.W.Frag} {σ : L2.St} {H : Hp} {Q : VK} {ta : TE} {f : Str}
def qFld (K : PySem.W.Frag) (f : Str) (Q : VK) : VK := fun x H1 => ∃ a C dx fs v, x = .ref a ∧ H1 a = some (.ins C dx fs) ∧ Cls K C ∧ NoAttr K C f ∧ fs.lookup f = some v ∧ Q v H1
theorem go_fld (h : ta σ H (qFld K f Q)) : tFld K ta f σ H Q := h
theorem go_fldV {a C dx : Addr} {fs : List (Str × V)} {v : V} (e : H a = some (.ins C dx fs)) (c : Cls K C) (n : NoAttr K C f) (l : fs.lookup f = some v) (h : Q v H) : qFld K f Q (.ref a) H := ⟨a, C, dx, fs, v, rfl, e, c, n, l, h⟩
theorem go_rnum {a C dx : Addr} {m d : Int} (e : H a = some (.ins C dx (rf m d))) (c : Cls K C) (n : NoAttr K C "num") (h : Q (.int m) H) : qFld K "num" Q (.ref a) H := go_fldV e c n (rf_num m d) h
theorem go_rden {a C dx : Addr} {m d : Int} (e : H a = some (.ins C dx (rf m d))) (c : Cls K C) (n : NoAttr K C "den") (h : Q (.int d) H) : qFld K "den" Q (.ref a) H := go_fldV e c n (rf_den m d) h
theorem go_make {C : Addr} {sp : Sp} {dvs : List V} {E : XK} {t : TA} (h : t σ H fun vs H1 => ∀ x dx, H1 x = none → H1 dx = none → dx ≠ x →
  sp (.ref x :: (vs ++ dvs)) (upd (upd H1 dx (.own x)) x (.ins C dx [])) (fun v H2 => v = .non ∧ Q (.ref x) H2) E) : tMake C sp dvs E t σ H Q := h
theorem go_meth {C : Addr} {m : Str} {sp : Sp} {dvs : List V} {E : XK} {t : TA} (h : ta σ H fun x H1 => ∃ a dx fs, x = .ref a ∧ H1 a = some (.ins C dx fs) ∧ fs.lookup m = none ∧
  t σ H1 fun vs H2 => sp (x :: (vs ++ dvs)) H2 Q E) : tMeth C m sp dvs E ta t σ H Q := h
def sFldN (K : PySem.W.Frag) (f : Str) (y : V) (σ : L2.St) (D : Ends) : VK := fun x H2 => ∃ a C dx fs, x = .ref a ∧ H2 a = some (.ins C dx fs) ∧ Cls K C ∧ NoAttr K C f ∧ fs.length < 1000 ∧ D.nx σ (upd H2 a (.ins C dx (putF f y fs)))
theorem go_sfld {D : Ends} {tv : TE} (h : tv σ H fun y H1 => ta σ H1 (sFldN K f y σ D)) : sFld K ta tv f D σ H := h
theorem go_sfldV {D : Ends} {y : V} {a C dx : Addr} {fs : List (Str × V)} (e : H a = some (.ins C dx fs)) (c : Cls K C) (n : NoAttr K C f) (l : fs.length < 1000) (h : D.nx σ (upd H a (.ins C dx (putF f y fs)))) : sFldN K f y σ D (.ref a) H :=
  ⟨a, C, dx, fs, rfl, e, c, n, l, h⟩
end
theorem same_made {H H1 : Hp} {z dz : Addr} {o1 o2 : HO} (hz : H z = none) (hdz : H dz = none) (s : ∀ c o, c ≠ z → upd (upd H dz o1) z o2 c = some o → H1 c = some o) : Same H H1 := fun t o ht => by
  refine s t o (ne_of_none ht hz) ?_
  rw [upd_ne (ne_of_none ht hz), upd_ne (ne_of_none ht hdz)]
  exact ht
theorem p_mono {x : Int} {k n : Nat} (h : x.natAbs < 2 ^ k) (hk : k ≤ n) : x.natAbs < 2 ^ n := Nat.lt_of_lt_of_le h (Nat.pow_le_pow_right (by decide) hk)
theorem p30 {x : Int} (h : x.natAbs ≤ 10 ^ 30 + 1) : x.natAbs < 2 ^ 100 := Nat.lt_of_le_of_lt h (by decide)
theorem p_add {x y : Int} {k : Nat} (h1 : x.natAbs < 2 ^ k) (h2 : y.natAbs < 2 ^ k) : (x + y).natAbs < 2 ^ (k + 1) := by
  have := Int.natAbs_add_le x y
  rw [Nat.pow_succ]
  omega
theorem p_sub {x y : Int} {k : Nat} (h1 : x.natAbs < 2 ^ k) (h2 : y.natAbs < 2 ^ k) : (x - y).natAbs < 2 ^ (k + 1) := by
  have := Int.natAbs_sub_le x y
  rw [Nat.pow_succ]
  omega
/-! ### lists of ratios -/
/-- each of xs is a ratio, with the terms of rs -/
def RatsAt (C : Addr) (H : Hp) (xs : List V) (rs : List (Int × Int)) : Prop := xs.length = rs.length ∧ ∀ (i : Nat) x r, xs[i]? = some x → rs[i]? = some r → ∃ p dx, x = .ref p ∧ H p = some (.ins C dx (rf r.1 r.2))
theorem RatsAt.same {C : Addr} {H H' : Hp} {xs : List V} {rs : List (Int × Int)} (h : RatsAt C H xs rs) (s : Same H H') : RatsAt C H' xs rs :=
  ⟨h.1, fun i x r a b => let ⟨p, dx, e, k⟩ := h.2 i x r a b; ⟨p, dx, e, s _ _ k⟩⟩
theorem RatsAt.get {C : Addr} {H : Hp} {xs : List V} {rs : List (Int × Int)} (h : RatsAt C H xs rs) {i : Nat} {x : V} (e : xs[i]? = some x) : ∃ r p dx, rs[i]? = some r ∧ x = .ref p ∧ H p = some (.ins C dx (rf r.1 r.2)) := by
  have hi := (List.getElem?_eq_some_iff.mp e).1
  have hi2 : i < rs.length := by rw [← h.1]; exact hi
  obtain ⟨p, dx, e2, k⟩ := h.2 i x _ e (List.getElem?_eq_getElem hi2)
  exact ⟨_, p, dx, List.getElem?_eq_getElem hi2, e2, k⟩
theorem RatsAt.nil {C : Addr} {H : Hp} : RatsAt C H [] [] := ⟨rfl, fun i x r h _ => by simp at h⟩
theorem RatsAt.snoc {C : Addr} {H : Hp} {xs : List V} {rs : List (Int × Int)} (h : RatsAt C H xs rs) {p dx : Addr} {n d : Int} (e : H p = some (.ins C dx (rf n d))) : RatsAt C H (xs ++ [.ref p]) (rs ++ [(n, d)]) := by
  refine ⟨by simp [h.1], fun i x r a b => ?_⟩
  rcases Nat.lt_or_ge i xs.length with q | q
  · rw [List.getElem?_append_left q] at a
    rw [List.getElem?_append_left (by rw [← h.1]; exact q)] at b
    exact h.2 i x r a b
  · rw [List.getElem?_append_right q] at a
    rw [List.getElem?_append_right (by rw [← h.1]; exact q), ← h.1] at b
    rcases Nat.eq_zero_or_pos (i - xs.length) with z | z
    · rw [z] at a b
      cases a
      cases b
      exact ⟨p, dx, rfl, e⟩
    · rw [List.getElem?_eq_none (by simp; omega)] at a
      cases a
/-- a comprehension's list, by what was made at each place -/
theorem rats_of {C : Addr} {H : Hp} {ys : List V} {rs : List (Int × Int)} (hl : ys.length = rs.length) (h : ∀ (k : Nat) y, ys[k]? = some y → ∃ r p dx, rs[k]? = some r ∧ y = .ref p ∧ H p = some (.ins C dx (rf r.1 r.2))) : RatsAt C H ys rs :=
  ⟨hl, fun i x r a b => by
    obtain ⟨r', p, dx, e1, e2, e3⟩ := h i x a
    rw [b] at e1
    cases e1
    exact ⟨p, dx, e2, e3⟩⟩
/-- the denominator of the common form -/
def cden (rs : List (Int × Int)) : Nat := rs.foldl (fun m r => Nat.lcm m r.2.natAbs) 1
theorem cden_snoc (rs : List (Int × Int)) (r : Int × Int) : cden (rs ++ [r]) = Nat.lcm (cden rs) r.2.natAbs := by
  unfold cden
  rw [List.foldl_append]
  rfl
theorem cden_take {rs : List (Int × Int)} {i : Nat} {r : Int × Int} (h : rs[i]? = some r) : cden (rs.take (i + 1)) = Nat.lcm (cden (rs.take i)) r.2.natAbs := by
  rw [List.take_add_one, h, show (some r).toList = [r] from rfl, cden_snoc]
theorem lfold_pos : ∀ (rs : List (Int × Int)) (m : Nat), 0 < m → (∀ r ∈ rs, 0 < r.2) → 0 < rs.foldl (fun m r => Nat.lcm m r.2.natAbs) m
  | [], m, h, _ => h
  | r :: t, m, h, hr => by
    rw [List.foldl_cons]
    refine lfold_pos t _ (Nat.lcm_pos h ?_) fun z hz => hr z (List.mem_cons_of_mem _ hz)
    have := hr r List.mem_cons_self
    omega
theorem cden_pos {rs : List (Int × Int)} (h : ∀ r ∈ rs, 0 < r.2) : 0 < cden rs := lfold_pos rs 1 (by decide) h
theorem lfold_dvd : ∀ (rs : List (Int × Int)) (m : Nat), m ∣ rs.foldl (fun m r => Nat.lcm m r.2.natAbs) m ∧ ∀ r ∈ rs, r.2.natAbs ∣ rs.foldl (fun m r => Nat.lcm m r.2.natAbs) m
  | [], m => ⟨Nat.dvd_refl _, fun r h => nomatch h⟩
  | s :: t, m => by
    rw [List.foldl_cons]
    obtain ⟨h1, h2⟩ := lfold_dvd t (Nat.lcm m s.2.natAbs)
    refine ⟨Nat.dvd_trans (Nat.dvd_lcm_left _ _) h1, fun r hr => ?_⟩
    rcases List.mem_cons.mp hr with rfl | hr
    · exact Nat.dvd_trans (Nat.dvd_lcm_right _ _) h1
    · exact h2 r hr
theorem cden_dvd {rs : List (Int × Int)} {r : Int × Int} (h : r ∈ rs) : r.2.natAbs ∣ cden rs := (lfold_dvd rs 1).2 r h
theorem lfold_least : ∀ (rs : List (Int × Int)) (m k : Nat), m ∣ k → (∀ r ∈ rs, r.2.natAbs ∣ k) → rs.foldl (fun m r => Nat.lcm m r.2.natAbs) m ∣ k
  | [], m, k, h, _ => h
  | s :: t, m, k, h, hr => by
    rw [List.foldl_cons]
    exact lfold_least t _ k (Nat.lcm_dvd h (hr s List.mem_cons_self)) fun z hz => hr z (List.mem_cons_of_mem _ hz)
theorem cden_least {rs : List (Int × Int)} {k : Nat} (h : ∀ r ∈ rs, r.2.natAbs ∣ k) : cden rs ∣ k := lfold_least rs 1 k (Nat.one_dvd _) h
theorem lfold_lt : ∀ (rs : List (Int × Int)) (m e : Nat), m < 2 ^ e → (∀ r ∈ rs, r.2.natAbs < 2 ^ 100) → rs.foldl (fun m r => Nat.lcm m r.2.natAbs) m < 2 ^ (e + 100 * rs.length)
  | [], m, e, h, _ => h
  | s :: t, m, e, h, hr => by
    rw [List.foldl_cons]
    have h1 : Nat.lcm m s.2.natAbs ≤ m * s.2.natAbs := Nat.div_le_self _ _
    have h2 : m * s.2.natAbs < 2 ^ e * 2 ^ 100 := Nat.mul_lt_mul'' h (hr s List.mem_cons_self)
    rw [← Nat.pow_add] at h2
    have := lfold_lt t (Nat.lcm m s.2.natAbs) (e + 100) (Nat.lt_of_le_of_lt h1 h2) fun z hz => hr z (List.mem_cons_of_mem _ hz)
    rw [List.length_cons, show e + 100 * (t.length + 1) = e + 100 + 100 * t.length by omega]
    exact this
theorem cden_lt {rs : List (Int × Int)} (h : ∀ r ∈ rs, r.2.natAbs < 2 ^ 100) (hl : rs.length ≤ 60) : cden rs < 2 ^ 9000 :=
  Nat.lt_of_lt_of_le (lfold_lt rs 1 1 (by decide) h) (Nat.pow_le_pow_right (by decide) (by omega))
/-- the numbers of the common form -/
def cnum (rs : List (Int × Int)) : List Int := rs.map fun r => r.1 * ((cden rs : Int) / r.2)
section
variable {K : PySem.W.Frag} {σ : L2.St} {H : Hp} {R : L2.St → Hp → Prop} {t : TG} {u : TGs}
theorem go_gtup {n : Nat} {a : Addr} {xs : List V} (h : SqT K H a xs) (hl : xs.length = n) (q : u xs σ H R) : gTup K n u (.ref a) σ H R := ⟨a, xs, rfl, h, hl, q⟩
theorem go_gcons {v : V} {r : List V} (h : t v σ H fun σ' H' => u r σ' H' R) : gCons t u (v :: r) σ H R := ⟨v, r, rfl, h⟩
theorem go_gnil (h : R σ H) : gNil [] σ H R := ⟨rfl, h⟩
end
/-! ### comprehensions that make objects -/
/-- what is told of an item stays as the heap grows, and as a list is written -/
structure Stays (P : Hp → Nat → V → Prop) : Prop where
  same : ∀ H H' k y, Same H H' → P H k y → P H' k y
  lst : ∀ H D zs zs' k y, H D = some (.lst zs) → P H k y → P (upd H D (.lst zs')) k y
theorem stays_rat {C : Addr} {rs : List (Int × Int)} : Stays fun H k y => ∃ r p dx, rs[k]? = some r ∧ y = .ref p ∧ H p = some (.ins C dx (rf r.1 r.2)) :=
  ⟨fun H H' k y s ⟨r, p, dx, a, b, c⟩ => ⟨r, p, dx, a, b, s _ _ c⟩, fun H D zs zs' k y e ⟨r, p, dx, a, b, c⟩ => ⟨r, p, dx, a, b, by rw [upd_ne (ne_of c e (by intro z; cases z))]; exact c⟩⟩
section
variable {K : PySem.W.Frag} {σ : L2.St} {H H1 : Hp} {Q : VK} {tl te : TE} {vs : List Nat} {j : Nat}
theorem lcLh {R : Addr → Hp → Prop} {a : Addr} (xs : List V) {P : Hp → Nat → V → Prop} (hP : Stays P) (hs : SqL K H1 a xs) (hz : xs.length ≤ 100000) (hw : ∀ x, wipe ((wipe σ vs).set j x) vs = wipe σ vs)
    (he : ∀ (i : Nat) x H', xs[i]? = some x → Same H1 H' → ∀ R : VK, (∀ y H'', Same H' H'' → P H'' i y → R y H'') → te ((wipe σ vs).set j (some x)) H' R)
    (q : ∀ D (ys : List V) H2, H1 D = none → Same H1 H2 → H2 D = some (.lst ys) → ys.length = xs.length → (∀ k y, ys[k]? = some y → P H2 k y) → R D H2) :
    ∃ b, V.ref a = .ref b ∧ (∃ xs, SqL K H1 b xs) ∧ ∀ D, H1 D = none → ∃ W : Nat → Nat → Hp → Prop, (∃ m, W 0 m (upd H1 D (.lst []))) ∧ ∀ i m H, W i m H →
      ((Itl K b).stop i H ∧ R D H) ∨ ((Itl K b).go i H ∧ ∃ Nx : Hp → Prop, (∀ H', Nx H' → ∃ m', m' < m ∧ W (i + 1) m' H') ∧ ∀ x H', (Itl K b).yld i H x H' → gName j x (wipe σ vs) H' fun σ2 H2 => wipe σ2 vs = wipe σ vs ∧ tYes σ2 H2 fun b H3 =>
        if b = true then te σ2 H3 fun y H4 => ∃ acc, H4 D = some (.lst acc) ∧ acc.length < sizeLine ∧ Nx (upd H4 D (.lst (acc ++ [y]))) else Nx H3) := by
  refine ⟨a, rfl, ⟨xs, hs⟩, fun D hD => ?_⟩
  refine lc_list (xs := xs) (fun i H' => Same H1 H' ∧ ∃ ys : List V, H' D = some (.lst ys) ∧ ys.length = i ∧ ∀ k y, ys[k]? = some y → P H' k y) ⟨same_new hD, [], upd_same, rfl, fun k y h => by simp at h⟩ (fun i H _ p => same_sqL p.1 hs) (fun i x H hx p => ?_) fun H p => ?_
  · obtain ⟨s, ys, e, hl, hp⟩ := p
    refine ⟨hw _, ?_⟩
    refine go_yes ?_
    refine iteT ?_
    refine he i x H hx s _ fun y H4 s4 hy => ?_
    have hi := (List.getElem?_eq_some_iff.mp hx).1
    have e4 := s4 _ _ e
    refine ⟨ys, e4, szlt (by omega), same_mut (s.trans s4) hD, ys ++ [y], upd_same, by simp [hl], fun k z hz => ?_⟩
    refine hP.lst _ _ ys _ _ _ e4 ?_
    rcases Nat.lt_or_ge k ys.length with h | h
    · rw [List.getElem?_append_left h] at hz
      exact hP.same _ _ _ _ s4 (hp k z hz)
    · rw [List.getElem?_append_right h] at hz
      rcases Nat.eq_or_lt_of_le h with e2 | e2
      · rw [← e2, Nat.sub_self] at hz
        cases hz
        rw [← e2, hl]
        exact hy
      · rw [List.getElem?_eq_none (by simp; omega)] at hz
        cases hz
  · obtain ⟨s, ys, e, hl, hp⟩ := p
    exact q D ys H hD s e hl hp
end
/-! ### lists of pairs -/
def PairsAt (H : Hp) (xs : List V) (ts : List (Int × Int)) : Prop := xs.length = ts.length ∧ ∀ (i : Nat) x t, xs[i]? = some x → ts[i]? = some t → ∃ p, x = .ref p ∧ H p = some (.tup [.int t.1, .int t.2])
theorem PairsAt.nil {H : Hp} : PairsAt H [] [] := ⟨rfl, fun i x r h _ => by simp at h⟩
theorem PairsAt.same {H H' : Hp} {xs : List V} {ts : List (Int × Int)} (h : PairsAt H xs ts) (s : Same H H') : PairsAt H' xs ts :=
  ⟨h.1, fun i x r a b => let ⟨p, e, k⟩ := h.2 i x r a b; ⟨p, e, s _ _ k⟩⟩
theorem PairsAt.get {H : Hp} {xs : List V} {ts : List (Int × Int)} (h : PairsAt H xs ts) {i : Nat} {t : Int × Int} (e : ts[i]? = some t) : ∃ p, xs[i]? = some (.ref p) ∧ H p = some (.tup [.int t.1, .int t.2]) := by
  have hi := (List.getElem?_eq_some_iff.mp e).1
  have hi2 : i < xs.length := by rw [h.1]; exact hi
  obtain ⟨p, e2, k⟩ := h.2 i _ t (List.getElem?_eq_getElem hi2) e
  exact ⟨p, by rw [List.getElem?_eq_getElem hi2, e2], k⟩
/-- a list is written: the pairs stand -/
theorem PairsAt.lst {H : Hp} {xs : List V} {ts : List (Int × Int)} {D : Addr} {zs zs' : List V} (h : PairsAt H xs ts) (e : H D = some (.lst zs)) : PairsAt (upd H D (.lst zs')) xs ts :=
  ⟨h.1, fun i x r a b => let ⟨p, e1, k⟩ := h.2 i x r a b; ⟨p, e1, by rw [upd_ne (ne_of k e (by intro z; cases z))]; exact k⟩⟩
theorem PairsAt.snoc {H : Hp} {xs : List V} {ts : List (Int × Int)} (h : PairsAt H xs ts) {p : Addr} {n d : Int} (e : H p = some (.tup [.int n, .int d])) : PairsAt H (xs ++ [.ref p]) (ts ++ [(n, d)]) := by
  refine ⟨by simp [h.1], fun i x r a b => ?_⟩
  rcases Nat.lt_or_ge i xs.length with q | q
  · rw [List.getElem?_append_left q] at a
    rw [List.getElem?_append_left (by rw [← h.1]; exact q)] at b
    exact h.2 i x r a b
  · rw [List.getElem?_append_right q] at a
    rw [List.getElem?_append_right (by rw [← h.1]; exact q), ← h.1] at b
    rcases Nat.eq_zero_or_pos (i - xs.length) with z | z
    · rw [z] at a b
      cases a
      cases b
      exact ⟨p, rfl, e⟩
    · rw [List.getElem?_eq_none (by simp; omega)] at a
      cases a
/-! ### the common form is the least -/
theorem form_coprime {rs : List (Int × Int)} (hpos : ∀ r ∈ rs, 0 < r.2) (hco : ∀ r ∈ rs, Int.gcd r.1 r.2 = 1) {g : Nat} (h1 : g ∣ cden rs) (h2 : ∀ n ∈ cnum rs, (g : Int) ∣ n) : g = 1 := by
  have hL := cden_pos hpos
  obtain ⟨m, hm⟩ := h1
  have hg : 0 < g := by
    rcases Nat.eq_zero_or_pos g with z | z
    · rw [z, Nat.zero_mul] at hm
      omega
    · exact z
  have hmp : 0 < m := by
    rcases Nat.eq_zero_or_pos m with z | z
    · rw [z, Nat.mul_zero] at hm
      omega
    · exact z
  have key : cden rs ∣ m := cden_least fun r hr => by
    have hd := cden_dvd hr
    have d0 := hpos r hr
    have co := hco r hr
    have hn : (g : Int) ∣ r.1 * ((cden rs : Int) / r.2) := h2 _ (List.mem_map_of_mem hr)
    obtain ⟨k, hk⟩ := hd
    have hrd : r.2 = (r.2.natAbs : Int) := by omega
    have hq : (cden rs : Int) / r.2 = (k : Int) := by
      rw [hk, hrd]
      push_cast
      rw [Int.natAbs_natCast]
      exact Int.mul_ediv_cancel_left _ (by omega)
    rw [hq] at hn
    have hn2 : g ∣ r.1.natAbs * k := by
      have := Int.natAbs_dvd_natAbs.mpr hn
      rw [Int.natAbs_natCast, Int.natAbs_mul, Int.natAbs_natCast] at this
      exact this
    have hn3 : g ∣ r.2.natAbs * k := by rw [← hk]; exact ⟨m, hm⟩
    have hgk : g ∣ k := by
      have := Nat.dvd_gcd hn2 hn3
      rw [Nat.gcd_mul_right] at this
      have e : Nat.gcd r.1.natAbs r.2.natAbs = 1 := co
      rw [e, Nat.one_mul] at this
      exact this
    obtain ⟨j, hj⟩ := hgk
    refine ⟨j, ?_⟩
    have : g * m = g * (r.2.natAbs * j) := by rw [← hm, hk, hj]; ac_rfl
    exact Nat.eq_of_mul_eq_mul_left hg this
  have := Nat.le_of_dvd hmp key
  rw [hm] at this
  rcases Nat.lt_or_ge 1 g with z | z
  · exfalso
    have : 2 * m ≤ g * m := Nat.mul_le_mul_right _ z
    omega
  · omega
theorem cnum_len (rs : List (Int × Int)) : (cnum rs).length = rs.length := by unfold cnum; rw [List.length_map]
theorem cnum_at {rs : List (Int × Int)} {i : Nat} {r : Int × Int} (h : rs[i]? = some r) : (cnum rs)[i]? = some (r.1 * ((cden rs : Int) / r.2)) := by
  unfold cnum
  rw [List.getElem?_map, h]
  rfl
theorem cnum_mul {rs : List (Int × Int)} {r : Int × Int} (h : r ∈ rs) : r.1 * ((cden rs : Int) / r.2) * r.2 = r.1 * (cden rs : Int) := by
  have : r.2 ∣ (cden rs : Int) := Int.natAbs_dvd_natAbs.mp (by rw [Int.natAbs_natCast]; exact cden_dvd h)
  rw [Int.mul_assoc, Int.ediv_mul_cancel this]
end Gx

set_option Elab.async false
set_option linter.all false
set_option maxRecDepth 100000
set_option maxHeartbeats 4000000
/-! Own lemmas: an error of the program whose maker says super().__init__(text); self.f = a, and whose class stands below a class of the program. -/
namespace ErX
open PySem PySem.W PySem.Calls PyProof.Rows PySem.HandSPX
def eA (an : Str) (p1 p2 : Pos) : Arguments := { posonlyargs := [], args := [{ arg := "self", annotation := none, pos := p1 }, { arg := an, annotation := none, pos := p2 }], vararg := none, kwonlyargs := [], kw_defaults := [], kwarg := none, defaults := [] }
def eB (an fn msg : Str) (j : Nat) (q1 q2 q3 q4 q5 q6 q7 q8 q9 q0 : Pos) : List Stmt :=
  [.Expr (.Call (.Attribute (.Call (.Name "super" q1) [] [] q2) "__init__" q3) [.Constant (.str msg) j q4] [] q5) q6, .Assign [.Attribute (.Name "self" q7) fn q8] (.Name an q9) q0]
def eS (an : Str) : Scope := { kind := .function, names := [(PySem.Str.ofString "self", .local), (an, .local), (PySem.Str.ofString "__class__", .free), (PySem.Str.ofString "super", .globalImplicit)], isGenerator := false, isCoroutine := false, more := [] }
/-- what the names must be -/
structure Nm (an : Str) : Prop where
  n1 : an ≠ "self"
  n2 : an ≠ "__class__"
  n3 : an ≠ "super"
  n4 : (an == ("__debug__" : Str)) = false
  bd : ∀ (qual : Str) (p1 p2 : Pos) (body : List Stmt) (doc pm : Value) (an' : Option Addr) (cda cc x : Addr) (ct v : Value), bindArgs (ksFn "__init__" qual (eA an p1 p2) body (eS an) .none .none doc pm an' (.ref cda) ct cc) ⟨[.ref x, v], []⟩ = (pure [(PySem.Str.ofString "self", Value.ref x), (an, v)] : Sem (List (Str × Value)))
/-- how the call of the maker above is read -/
def Ev (msg : Str) (j : Nat) (q1 q2 q3 q4 q5 : Pos) : Prop := ∃ pl : Sem Bool, ∀ env : Env,
  eval (.Call (.Attribute (.Call (.Name "super" q1) [] [] q2) "__init__" q3) [.Constant (.str msg) j q4] [] q5) env = (do
      let ov ← attributeBase (.Call (.Name "super" q1) [] [] q2) "__init__" env (eval (.Call (.Name "super" q1) [] [] q2) env)
      standAt q3.atName
      let (f, first) ← holding [ov] (getMethod ov "__init__" pl)
      callWith q5 f first (backTo q5 (starEach [.Constant (.str msg) j q4] env)) [])
/-- what the written part says of the class at C, and of its maker, at fI -/
structure ErrT (P : Program) (K : Frag) (mg : Str → Option Value) (C fI : Addr) (an fn : Str) : Prop where
  cls : ∃ nm q N bs bm sn sub ab col dd k0 k1 k2 k3 k5, K.lookup C = some (excClassObj nm q C N bs bm true sn sub ab col dd k0 k1 k2 k3 k5 "ValueError.__new__") ∧ refsVE bm = true
  sa : findIn K (.ref C) "__setattr__" = some (some (.builtin "object.__setattr__"))
  noN : findIn K (.ref C) fn = some none
  iC : findIn K (.ref C) "__init__" = some (some (.ref fI))
  tC : typeIn K (.ref fI) = some (.type "function")
  kC : keepIn K (.ref C) = true
  exC : subIn K (.ref C) (.type "BaseException") = some true
  tyC : typeIn K (.ref C) = some (.type "type")
  opq : nsIn K cStatics "thirdparty.any" = some none
  sup : ks_superIn K C C "__init__" = some (some (.builtin "ValueError.__init__"))
  sVE : subIn K (.ref C) (.type "ValueError") = some true
  mC : mroIn K C (.ref C) = some true
  mgS : mg "super" = none
  top : (P.main.scope.names.lookup ("super" : Str)).isSome = false
  nm : Nm an
  fn : ∃ (oc : Value) (od : Option Addr) (qual : Str) (doc pm : Value) (an' : Option Addr) (cda cc : Addr) (ct : Value) (osl : Array (Option Value)) (p1 p2 : Pos) (msg : Str) (j : Nat) (q1 q2 q3 q4 q5 q6 q7 q8 q9 q0 : Pos)
      (ccl : Value) (cdd : Option Addr) (vs : Array Value) (ccs : Array (Option Value)) (file : Str) (tf : Tok) (cl : Value) (cld : Option Addr) (csl : Array (Option Value)),
    K.lookup fI = some ⟨oc, od, .func (ksFn "__init__" qual (eA an p1 p2) (eB an fn msg j q1 q2 q3 q4 q5 q6 q7 q8 q9 q0) (eS an) .none .none doc pm an' (.ref cda) ct cc), osl⟩ ∧ codeIn K (.ref cda) qual = true ∧
      K.lookup cda = some ⟨ccl, cdd, .fields vs, ccs⟩ ∧ vs[2]? = some (.str file tf) ∧ ((P.main.file : Str) == file) = true ∧ K.lookup cc = some ⟨cl, cld, .cell (some (.ref C)), csl⟩ ∧
      Ev msg j q1 q2 q3 q4 q5
/-- what the maker leaves of a fresh exception at x -/
structure InitEnd (h h' : Heap) (x C dx t1 : Addr) (fn : Str) (v : Value) : Prop where
  keep : ∀ b o, b ≠ x → h.get? b = some o → h'.get? b = some o
  obj : h'.get? x = some { cls := .ref C, dict := some dx, data := .fields #[.ref t1, .none, .none, .none, .bool false, .none] }
  dbig : h.objs.size ≤ dx
  dne : dx ≠ x
  ns : h'.Ns1 dx (fun y => if y = fn then some v else none)
structure Made (h h' : Heap) (e C d : Addr) (fn : Str) (v : Value) : Prop where
  keep : ∀ b o, h.get? b = some o → h'.get? b = some o
  new : h.objs.size ≤ e
  obj : ∃ oe vs, h'.get? e = some oe ∧ oe.cls = .ref C ∧ oe.dict = some d ∧ oe.data = .fields vs ∧ vs[1]? = some .none
  dbig : h.objs.size ≤ d
  dne : d ≠ e
  ns : h'.Ns1 d (fun y => if y = fn then some v else none)
theorem one_size (v : Value) : [v].length ≤ sizeLine := by
  rw [sizeLine_eq]
  exact (by decide : 1 ≤ 16777216)
section
variable {prog : Program} {w : World} {A : Around} {E : Value → Shared → Prop} {h : Heap} {g : Array GenState} {d : Drawn} {t : Nat} {os : OsState}
variable {nm q : Str} {C N : Addr} {bs bm : List Value} {hdct : Bool} {sn : List Str} {sub : List Value} {ab : Bool} {col : Option Bool} {dd : Option Addr} {k0 k1 k2 k3 k5 : Option Value}
theorem call_bv {u e t0 : Addr} {rest : List Value} {Q : Value → Shared → Prop}
    (hC : h.get? C = some (excClassObj nm q C N bs bm hdct sn sub ab col dd k0 k1 k2 k3 k5 "ValueError.__new__")) (he : h.get? e = some (excO C t0)) (hu : h.get? u = some (kxs_mw "ValueError.__init__" e)) (hrest : rest.length ≤ sizeLine)
    (hq : ∀ h' t1, (∀ b o, b ≠ e → h.get? b = some o → h'.get? b = some o) → h'.get? e = some (excO C t1) → Q .none ⟨h', g, d, t, os⟩) :
    wpAny (model prog w) A (call (.ref u) rest) Q E ⟨h, g, d, t, os⟩ := by
  refine wpAny_call (codeAny_of_tree ?_)
  show wpAny _ A.in1 (callAny (.ref u) ⟨rest, []⟩) _ _ _
  simp only [callAny]
  refine wpAny_bind (wpAny_load hu ?_)
  simp only [kxs_mw, show (Value.type "method-wrapper" == Value.type "method" || Value.type "method-wrapper" == Value.type "builtin_function_or_method" || Value.type "method-wrapper" == Value.type "method-wrapper") = true by decide, if_true]
  refine W.KFB.if_so (by decide) ?_
  refine wpAny_bind (PySem.ESX.check_bound F.excBase_ValueError hC he rfl ?_)
  refine wpAny_bind (wpAny_pure (wpAny_pure ?_))
  refine ⟨Code.quiet_builtin _ (by decide +kernel), codeAny_builtin F.excBase_ValueError.initEntry ?_⟩
  rw [Around.under_plainId F.excBase_ValueError.init.plain _]
  wp_walk
  refine hq _ h.objs.size (fun b o hb ho => ?_) ?_
  · rw [Heap.get?_update_other _ _ (Ne.symm hb)]
    exact Heap.get?_push_of_some _ ho
  · rw [Heap.get?_update_self _ (Heap.get?_push_of_some _ he) rfl]
    rfl
end
section
variable {P : Program} {w : World} {A : Around} {R : Result → Shared → Prop} {K : Frag} {mg mb : Str → Option Value} {C fI : Addr} {an fn : Str}
theorem lk_self : (eS an).names.lookup ("self" : Str) = some .local := by simp [eS, List.lookup]
theorem lk_an (n : Nm an) : (eS an).names.lookup an = some .local := by
  have h : (an == (PySem.Str.ofString "self")) = false := by simpa using n.n1
  simp [eS, List.lookup, h]
theorem lk_cls (n : Nm an) : (eS an).names.lookup ("__class__" : Str) = some .free := by
  have h : ((PySem.Str.ofString "__class__") == an) = false := by simpa using n.n2.symm
  have h0 : ((PySem.Str.ofString "__class__") == (PySem.Str.ofString "self")) = false := by decide
  show List.lookup (PySem.Str.ofString "__class__") [(PySem.Str.ofString "self", _), (an, _), (PySem.Str.ofString "__class__", _), (PySem.Str.ofString "super", _)] = _
  simp [List.lookup, h, h0]
theorem lk_sup (n : Nm an) : (eS an).names.lookup ("super" : Str) = some .globalImplicit := by
  have h : ((PySem.Str.ofString "super") == an) = false := by simpa using n.n3.symm
  have h0 : ((PySem.Str.ofString "super") == (PySem.Str.ofString "self")) = false := by decide
  have h1 : ((PySem.Str.ofString "super") == (PySem.Str.ofString "__class__")) = false := by decide
  show List.lookup (PySem.Str.ofString "super") [(PySem.Str.ofString "self", _), (an, _), (PySem.Str.ofString "__class__", _), (PySem.Str.ofString "super", _)] = _
  simp [List.lookup, h, h0, h1]
theorem nocell : ∀ x ∈ (eS an).names, x.2 ≠ NameKind.cell := by
  intro x hx
  simp only [eS, List.mem_cons, List.not_mem_nil, or_false] at hx
  rcases hx with rfl | rfl | rfl | rfl <;> simp
theorem err_init (T : ErrT P K mg C fI an fn) {hp : Heap} {g : Array GenState} {d : Drawn} {t : Nat} {os : OsState} {x t0 : Addr} {v : Value} (X : K.In hp) (hlim : hp.NoLimit) (hG : hp.Ns mainGlobals mg) (hB : hp.Ns builtinsNs mb)
    (hbb : ∀ x : Str, x ≠ "__name__" → mb x = bootBuiltins x) (hx : hp.get? x = some (excO C t0)) (hnx : K.lookup x = none) (hroom : A.depth < recursionLimit)
    (hq : ∀ h' tk dx t1, InitEnd hp h' x C dx t1 fn v → R (.ok (.ret .none)) ⟨h', g, d, tk, os⟩) :
    codeAny (model P w) A (.call (.ref fI) ⟨[.ref x, v], []⟩) R ⟨hp, g, d, t, os⟩ := by
  obtain ⟨oc, od, qual, doc, pm, an', cda, cc, ct, osl, p1, p2, msg, j, q1, q2, q3, q4, q5, q6, q7, q8, q9, q0, ccl, cdd, vs, ccs, file, tf, cl, cld, csl, ho, hcd, hco, hvs, hfile, hcell, pl, hev⟩ := T.fn
  obtain ⟨nm, q, N, bs, bm, sn, sub, ab, col, dd, k0, k1, k2, k3, k5, hC, hbm⟩ := T.cls
  have hcl : clsIn K C = some { name := nm, bases := bs, mro := .ref C :: bm, ns := N, qualname := q, hasDict := true, slotNames := sn, subclasses := sub, abstract := ab, collection := col, hasDel := false } := by unfold clsIn; rw [hC] <;> rfl
  refine ks_codeAny_call_defAt (fd := ksFn "__init__" qual (eA an p1 p2) (eB an fn msg j q1 q2 q3 q4 q5 q6 q7 q8 q9 q0) (eS an) .none .none doc pm an' (.ref cda) ct cc)
    (body := eB an fn msg j q1 q2 q3 q4 q5 q6 q7 q8 q9 q0) (binds := [(PySem.Str.ofString "self", .ref x), (an, v)]) hroom (X _ _ ho) rfl hlim (codeRec_of X hcd) rfl (BindsTo.of_eq (T.nm.bd _ _ _ _ _ _ _ _ _ _ _ _)) nocell ?_ (fun h₁ hns hk₁ => ?_) rfl rfl rfl
  · intro y hy
    simp only [List.mem_cons, List.not_mem_nil, or_false] at hy
    rcases hy with rfl | rfl
    · exact lk_self
    · exact lk_an T.nm
  have X₁ : K.In h₁ := X.keeps hk₁
  have hx₁ := hk₁ _ _ hx
  obtain ⟨oD, hD1, hD2⟩ : ∃ oD, h₁.get? C = some oD ∧ oD.data = .cls { name := nm, bases := bs, mro := .ref C :: bm, ns := N, qualname := q, hasDict := true, slotNames := sn, subclasses := sub, abstract := ab, collection := col, hasDel := false } := ⟨_, X₁ _ _ hC, rfl⟩
  have I₁ : InstAt h₁ x (excO C t0) C none := ⟨hx₁, rfl, rfl, trivial⟩
  have hnS : List.lookup ("self" : Str) [(an, v), (PySem.Str.ofString "self", Value.ref x)] = some (.ref x) := by
    have h : (("self" : Str) == an) = false := by simpa using T.nm.n1.symm
    simp [List.lookup, h]
  have hnA : List.lookup an [(an, v), (PySem.Str.ofString "self", Value.ref x)] = some v := by simp [List.lookup]
  refine ks_wpAt_execs_cons (ks_wpAt_Expr_any (ks_wpAt_MethodCall (pl := pl) ?_ (hev _)))
  refine ks_wpAt_super_base (fd := ksFn "__init__" qual (eA an p1 p2) (eB an fn msg j q1 q2 q3 q4 q5 q6 q7 q8 q9 q0) (eS an) .none .none doc pm an' (.ref cda) ct cc) (lk_sup T.nm) (lk_cls T.nm) rfl rfl (X₁ _ _ ho) rfl rfl rfl (X₁ _ _ hco) rfl hvs hfile T.top ?_
  refine ks_loadName_global rfl (lk_sup T.nm) (loadGlobal_builtin (hG.keeps hk₁) T.mgS (hB.keeps hk₁) ((hbb _ (by decide)).trans (by first | boot_by_name | rfl | kernel_rfl)) ⟨rfl, ?_⟩)
  refine wpAny_loadName_free rfl (lk_cls T.nm) rfl ⟨_, X₁ _ _ hcell, rfl⟩ ?_
  refine wpAny_loadName_local rfl lk_self hns hnS ?_
  refine ks_wpAny_isType_cls hD1 hD2 ⟨rfl, ?_⟩
  refine ks_wpAny_call_super hD1 hD2 hx₁ rfl (fun c e => by cases e) (looks_mroIn X₁ T.mC) (fun h₂ e₂ k₂ => ?_)
  have X₂ : K.In h₂ := X₁.keeps k₂
  have hx₂ := k₂ _ _ hx₁
  have I₂ : InstAt h₂ x (excO C t0) C none := ⟨hx₂, rfl, rfl, trivial⟩
  have hsup := T.sup
  unfold ks_superIn at hsup
  rw [hcl] at hsup
  refine kxs_getMethod kxs_ValueError e₂ (looks_opaque X₂ T.opq) (l₀ := .ref C :: bm) (fun A Q E s k q => wpAny_bind ((looks_clsIn X₂ hcl) A _ E s k (wpAny_pure q))) rfl X₂ hsup (I₂.type.andThen (looks_subIn X₂ T.sVE)) (ks_ne X₂ I₂ hcl) rfl ?_
  have hs1 : ∀ env : Env, starEach [Expr.Constant (Const.str msg) j q4] env = (false, eval (Expr.Constant (Const.str msg) j q4) env) :: starEach [] env := fun _ => rfl
  rw [hs1]
  show wpAny _ _ (callWith q5 (.ref h₂.objs.size) [] ((false, eval (Expr.Constant (Const.str msg) j q4) _) :: backTo q5 (starEach [] _)) []) _ _ _
  have hu₃ : (h₂.push (kxs_mw "ValueError.__init__" x)).get? h₂.objs.size = some (kxs_mw "ValueError.__init__" x) := Heap.get?_push_at rfl rfl
  have k₃ : ∀ b o, h₂.get? b = some o → (h₂.push (kxs_mw "ValueError.__init__" x)).get? b = some o := fun b o e => Heap.get?_push_of_some _ e
  refine kxs_callWith (i := "ValueError.__init__") (x := x) (u := h₂.objs.size) rfl (Calls.evalArgs_plain (Calls.spliced_cons (Calls.Constant_str (Calls.spliced_nil ⟨hu₃, ?_⟩))))
  refine call_bv (X₂.keeps k₃ _ _ hC) (k₃ _ _ hx₂) hu₃ (one_size _) (fun h₄ t1 k₄ hx₄ => ?_)
  have nx : ∀ b o, K.lookup b = some o → b ≠ x := fun b o e z => by rw [z, hnx] at e; cases e
  have X₄ : K.In h₄ := fun b o e => k₄ b o (nx b o e) (k₃ _ _ (X₂ b o e))
  have hn₄ : h₄.Ns hp.objs.size (fun y => List.lookup y [(an, v), (PySem.Str.ofString "self", Value.ref x)]) := by
    have hLx : hp.objs.size ≠ x := Nat.ne_of_gt (Heap.lt_size hx)
    exact hns.at fun o e => k₄ _ o hLx (k₃ _ _ (k₂ _ _ e))
  refine ks_wpAt_execs_cons (wpAt_of_wpAny (plainObj_wpAny_Assign_Attribute ?_))
  refine wpAny_Name (wpAny_loadName_local rfl (lk_an T.nm) hn₄ hnA ?_) T.nm.n4
  refine wpAny_Name (wpAny_loadName_local rfl lk_self hn₄ hnS ?_) (by decide)
  refine set_plain X₄ (ox := excO C t1) (od := none) ⟨hx₄, rfl, rfl, trivial⟩ T.sa ?_
  refine exc_osa X₄ hx₄ hcl (show refsVE (.ref C :: bm) = true from hbm) rfl T.noN (fun h₅ tk₅ dx k₅ dn dne hx₅ hn₅ => ?_)
  show PySem.wpAt _ _ _ (execs [] _) _ _ _
  have kk : ∀ b o, b ≠ x → hp.get? b = some o → h₄.get? b = some o := fun b o hb e => k₄ b o hb (k₃ _ _ (k₂ _ _ (hk₁ _ _ e)))
  have z : hp.objs.size ≤ h₄.objs.size := by
    obtain ⟨oL, es, ep, hL, _⟩ := hn₄
    exact Nat.le_of_lt (Heap.lt_size hL)
  exact wpAt_of_wpAny (wpAny_execs_nil (hq h₅ tk₅ dx t1 ⟨fun b o hb e => k₅ b o hb (kk b o hb e), hx₅, Nat.le_trans z dn, dne, hn₅⟩))
theorem err_made (T : ErrT P K mg C fI an fn) {hp : Heap} {g : Array GenState} {dr : Drawn} {tk : Nat} {os : OsState} {v : Value} (X : K.In hp) (hlim : hp.NoLimit) (hG : hp.Ns mainGlobals mg) (hB : hp.Ns builtinsNs mb)
    (hbb : ∀ x : Str, x ≠ "__name__" → mb x = bootBuiltins x) (hroom : A.depth + 1 < recursionLimit)
    (hq : ∀ h' tk e d, Made hp h' e C d fn v → R (.ok (.ret (.ref e))) ⟨h', g, dr, tk, os⟩) :
    codeAny (model P w) A (.call (.ref C) ⟨[v], []⟩) R ⟨hp, g, dr, tk, os⟩ := by
  obtain ⟨nm, q, N, bs, bm, sn, sub, ab, col, dd, k0, k1, k2, k3, k5, hC, hbm⟩ := T.cls
  have k : ∀ b o, hp.get? b = some o → ((hp.push (kdv_tup [v])).push (excO C hp.objs.size)).get? b = some o := fun b o e => Heap.get?_push_of_some _ (Heap.get?_push_of_some _ e)
  have hget : ((hp.push (kdv_tup [v])).push (excO C hp.objs.size)).get? (hp.objs.size + 1) = some (excO C hp.objs.size) := by heap_get
  have hnx : K.lookup (hp.objs.size + 1) = none := by
    cases e : K.lookup (hp.objs.size + 1) with
    | none => rfl
    | some o =>
      have z : hp.get? (hp.objs.size + 1) = some o := X _ _ e
      exact absurd (Nat.lt_of_succ_lt (Heap.lt_size z)) (Nat.lt_irrefl _)
  refine call_own F.excBase_ValueError (fun X => refsVE_contains X bm hbm) (X _ _ hC) (looks_findIn X T.iC) (fun self => bind_fn X self T.tC) (one_size v) ?_
  refine err_init T (X.keeps k) (hlim.keeps k) (hG.keeps k) (hB.keeps k) hbb hget hnx ?_ fun h' tk' dx t1 ⟨k', hx, dn, dne, hns⟩ => ?_
  · show A.depth + 1 < recursionLimit
    exact hroom
  · have old : ∀ b o, hp.get? b = some o → h'.get? b = some o := fun b o e => k' b o (Nat.ne_of_lt (Nat.lt_succ_of_lt (Heap.lt_size e))) (k b o e)
    have z : hp.objs.size + 1 + 1 ≤ dx := by
      first
        | (simpa only [Heap.size_push] using dn)
        | exact dn
        | (have q := dn; rw [Heap.size_push, Heap.size_push] at q; exact q)
    exact ⟨rfl, hq h' tk' (hp.objs.size + 1) dx ⟨old, Nat.le_succ _, ⟨_, _, hx, rfl, rfl, rfl, rfl⟩, Nat.le_trans (Nat.le_trans (Nat.le_succ _) (Nat.le_succ _)) z, dne, hns⟩⟩
end
end ErX
namespace Gx
open PySem PySem.Spec PyProof.Rows L2
section
variable {X : Cx} {C fI : Addr} {an fn : Str}
theorem relO_err {v : V} {v' : Value} (r : RelV v v') (fn f : Str) : RelO (List.lookup f [(fn, v)]) (if f = fn then some v' else none) := by
  by_cases hw : f = fn
  · subst hw
    rw [if_pos rfl]
    have q : List.lookup f [(f, v)] = some v := by simp [List.lookup]
    rw [q]
    exact r
  · rw [if_neg hw]
    have qw : (f == fn) = false := by simpa using hw
    have q2 : List.lookup f [(fn, v)] = none := by simp [List.lookup, qw]
    rw [q2]
    trivial
/-- C(e) -/
def tMkErr (C : Addr) (fn : Str) (ta : TA) : L2.St → Hp → XK → Prop := fun σ H Q => ta σ H fun vs H1 => ∃ v, vs = [v] ∧ ∀ d, H1 d = none → Q (.ref C) (some d) (upd H1 d (.xd [(fn, v)]))
theorem pmk_err {x : Str} {a : Expr} {ta : TA} {p pos : Pos} {k : Nat} (T : ErX.ErrT X.prog X.K X.mg C fI an fn) (hr : Room k X.A) (hm : X.mg x = some (.ref C)) (ha : PA X [a] ta) (hg : Gl X x := by rfl) (hdb : (x == ("__debug__" : Str)) = false := by decide)
    (he : starEach (a :: []) X.env = (false, eval a X.env) :: starEach [] X.env := by rfl) (hpl : (backTo pos (starEach [] X.env)).any (·.1) = false := by rfl) :
    PMk X (.Call (.Name x p) [a] [] pos) (tMkErr C fn ta) := by
  intro pins s σ H Q I h
  refine wpAny_Call_Name_kw (ld_glob I hg hm ?_ hdb)
  refine PySem.W.callWith_K (h₀ := X.base) I.ok.mod.kin T.kC (thn (ha.run pos pins s σ H _ I h) fun us s1 hh => ?_) he hpl
  obtain ⟨vs, H1, I1, r1, v, ev, q1⟩ := hh
  subst ev
  refine ⟨I1.kIn, ?_⟩
  cases r1 with
  | cons rv rn =>
    rename_i v' us'
    cases rn
    show wpAny _ _ (call (.ref C) [v']) _ _ _
    have hlim := I1.nolimit
    have hG := I1.mod.glob.keeps I1.bk
    obtain ⟨mb, h1, h2⟩ := I1.mod.blt
    have hB := h1.keeps I1.bk
    obtain ⟨hp, g, dr, tk, os⟩ := s1
    refine wpAny_call (ErX.err_made T I1.kIn hlim hG hB h2 (by have := hr.dp; omega) fun h' tk' e d M => ?_)
    show MkP X pins σ Q (.ref e) ⟨h', g, dr, tk', os⟩
    obtain ⟨oe, fv, hoe, hc, hd, hdat, h1⟩ := M.obj
    have hns := M.ns
    obtain ⟨G', g1, g2⟩ := restrict h' fun b => decide (b ≠ e)
    have gk : ∀ b, b ≠ e → G'.get? b = h'.get? b := fun b hb => g1 b (decide_eq_true hb)
    have ge : G'.get? e = none := g2 e (by simp)
    have old : ∀ b o, hp.get? b = some o → G'.get? b = some o := fun b o q => (gk b (Nat.ne_of_lt (Nat.lt_of_lt_of_le (Heap.lt_size q) M.new))).trans (M.keep b o q)
    have ob : ObjOk X.prog X.w (upd H1 d (.xd [(fn, v)])) G' d (.xd [(fn, v)]) :=
      ⟨_, hns.at (fun o q => (gk d M.dne).trans q), fun f => relO_err rv fn f⟩
    have J : Inv X pins σ (upd H1 d (.xd [(fn, v)])) ⟨G', g, dr, tk', os⟩ := I1.laid (t' := tk') old M.dbig ob
    refine ⟨e, oe, fv, ⟨G', g, dr, tk', os⟩, _, .ref C, some d, rfl, J, fun b o q => ?_, ge, hoe, ⟨hc, hd⟩, hdat, h1, ?_, rfl, I1.bare, raises_own T.exC T.tyC, q1 d (I1.hok.fresh M.dbig)⟩
    · by_cases hb : b = e
      · have q' : G'.get? b = some o := q
        rw [hb, ge] at q'; cases q'
      · exact (gk b hb).symm.trans q
    · rw [upd_ne (Ne.symm M.dne)]
      exact I1.hok.fresh M.new
/-- raise C(e) -/
def tRaiseErr (C : Addr) (fn : Str) (W : WX) (ta : TA) : TS := fun _ σ H => tMkErr C fn ta σ H fun cls d H' => W cls d σ H'
theorem ps_raiseErr {x : Str} {a : Expr} {ta : TA} {W : WX} {p pos pos2 : Pos} {k : Nat} (hc : X.calm = true) (T : ErX.ErrT X.prog X.K X.mg C fI an fn) (hr : Room k X.A) (hm : X.mg x = some (.ref C)) (tk : Takes X W) (ha : PA X [a] ta) (hg : Gl X x := by rfl) (hdb : (x == ("__debug__" : Str)) = false := by decide)
    (he : starEach (a :: []) X.env = (false, eval a X.env) :: starEach [] X.env := by rfl) (hpl : (backTo pos (starEach [] X.env)).any (·.1) = false := by rfl) :
    PS X (.Raise (some (.Call (.Name x p) [a] [] pos)) none pos2) (tRaiseErr C fn W ta) := ps_raise hc tk (pmk_err T hr hm ha hg hdb he hpl)
end
/-! calls of defs that may raise: what is raised is wished for at the caller's slots -/
section
variable {X : Cx} {CX : CXT} {k : Nat} {f C : Addr} {fd : FuncData} {ps : List Str} {sp : Sp} {dvs : List V} {ds : List Value} {E : L2.St → XK} {x m : Str} {p pos apos : Pos} {e o : Expr} {es : List Expr} {ta : TE} {t : TA}
def tMethSD (C : Addr) (m : Str) (sp : Sp) (dvs : List V) (E : L2.St → XK) (ta : TE) (t : TA) : TE := fun σ H Q => ta σ H fun x H1 => ∃ a dx fs, x = .ref a ∧ H1 a = some (.ins C dx fs) ∧ fs.lookup m = none ∧
  t σ H1 fun vs H2 => sp (x :: (vs ++ dvs)) H2 Q (E σ)
def tMakeSD (C : Addr) (sp : Sp) (dvs : List V) (E : L2.St → XK) (t : TA) : TE := fun σ H Q => t σ H fun vs H1 => ∀ x dx, H1 x = none → H1 dx = none → dx ≠ x →
  sp (.ref x :: (vs ++ dvs)) (upd (upd H1 dx (.own x)) x (.ins C dx [])) (fun v H2 => v = .non ∧ Q (.ref x) H2) (E σ)
theorem pe_callSD0 (F : FnOk X.prog X.w X.K X.mg X.base CX k f fd ps sp) (hr : Room k X.A) (hg : Gl X x) (hm : X.mg x = some (.ref f)) (hk : PySem.W.keepIn X.K (.ref f) = true) (hb : Binds X.K fd ps ds) (hd : Vals dvs ds) (hx : ∀ σ, PassesAt CX X σ (E σ))
    (hdb : (x == ("__debug__" : Str)) = false := by decide) : PE X (.Call (.Name x p) [] [] pos) (tCallSD sp dvs E tNil) := by
  refine ⟨fun pins s σ H Q I h => ?_⟩
  refine wpAny_Call_Name_kw (ld_glob I hg hm ?_ hdb)
  exact PySem.W.callWith_K0 I.kIn hk (run_fnSD (us := []) F hr hb hd (hx σ) I .nil h)
theorem pe_methSD {pl : Sem Bool} (he : PE X o ta) (c : Cls X.K C) (hm : Meth X.K C m f) (F : FnOk X.prog X.w X.K X.mg X.base CX k f fd ps sp) (hr : Room k X.A) (hb : Binds X.K fd ps ds) (hd : Vals dvs ds) (hx : ∀ σ, PassesAt CX X σ (E σ)) (ha : PA X (e :: es) t)
    (hst : starEach (e :: es) X.env = (false, eval e X.env) :: starEach es X.env := by rfl) (hpl : (backTo pos (starEach es X.env)).any (·.1) = false := by rfl)
    (ht : eval (.Call (.Attribute o m apos) (e :: es) [] pos) X.env = (do
      let ov ← eval o X.env
      standAt apos.atName
      let (f, first) ← holding [ov] (getMethod ov m pl)
      callWith pos f first (backTo pos (starEach (e :: es) X.env)) (backToKw pos (keywordEach [] X.env))) := by rfl) :
    PE X (.Call (.Attribute o m apos) (e :: es) [] pos) (tMethSD C m sp dvs E ta t) := by
  refine ⟨fun pins s σ H Q I h => ?_⟩
  refine PySem.W.methodCall_KW (pl := pl) (thn (he.run pins s σ H _ I h) fun u s1 ⟨x, H1, I1, rx, a, dx, fs, ex, ea, l, q⟩ => ?_) ht
  subst ex
  obtain rfl : u = Value.ref a := rx
  refine getmeth_ok I1 ea c hm l ?_
  refine PySem.W.callWith_K (first := [.ref a]) (h₀ := X.base) I.ok.mod.kin hm.kp (thn (ha.run pos pins s1 σ H1 _ I1 q) fun us s2 ⟨vs, H2, I2, r, q2⟩ => ⟨I2.kIn, ?_⟩) hst hpl
  exact run_fnSD (us := .ref a :: us) (vs := .ref a :: vs) F hr hb hd (hx σ) I2 (.cons rfl r) q2
theorem pe_methSD0 {pl : Sem Bool} (he : PE X o ta) (c : Cls X.K C) (hm : Meth X.K C m f) (F : FnOk X.prog X.w X.K X.mg X.base CX k f fd ps sp) (hr : Room k X.A) (hb : Binds X.K fd ps ds) (hd : Vals dvs ds) (hx : ∀ σ, PassesAt CX X σ (E σ))
    (ht : eval (.Call (.Attribute o m apos) [] [] pos) X.env = (do
      let ov ← eval o X.env
      standAt apos.atName
      let (f, first) ← holding [ov] (getMethod ov m pl)
      callWith pos f first (backTo pos (starEach [] X.env)) (backToKw pos (keywordEach [] X.env))) := by rfl) :
    PE X (.Call (.Attribute o m apos) [] [] pos) (tMethSD C m sp dvs E ta tNil) := by
  refine ⟨fun pins s σ H Q I h => ?_⟩
  refine PySem.W.methodCall_KW (pl := pl) (thn (he.run pins s σ H _ I h) fun u s1 ⟨x, H1, I1, rx, a, dx, fs, ex, ea, l, q⟩ => ?_) ht
  subst ex
  obtain rfl : u = Value.ref a := rx
  refine getmeth_ok I1 ea c hm l ?_
  exact PySem.W.callWith_K0 (first := [.ref a]) I1.kIn hm.kp (run_fnSD (us := [.ref a]) (vs := [.ref a]) F hr hb hd (hx σ) I1 (.cons rfl .nil) q)
theorem run_makeSD {pins : List (Addr × Obj)} {σ : L2.St} {H : Hp} {s : Shared} {Q : VK} {us : List Value} {vs : List V} (M : Mk X.K C f) (F : FnOk X.prog X.w X.K X.mg X.base CX k f fd ps sp) (hr : Room (k + 1) X.A) (hb : Binds X.K fd ps ds) (hd : Vals dvs ds)
    (hx : PassesAt CX X σ (E σ)) (I : L2.Inv X pins σ H s) (r : Vals vs us)
    (h : ∀ x dx, H x = none → H dx = none → dx ≠ x → sp (.ref x :: (vs ++ dvs)) (upd (upd H dx (.own x)) x (.ins C dx [])) (fun v H2 => v = .non ∧ Q (.ref x) H2) (E σ)) :
    wpAny (model X.prog X.w) X.A (call (.ref C) us) (EP X pins σ Q) X.xe s := by
  have hq := h (s.heap.objs.size + 1) s.heap.objs.size (I.hok.fresh (Nat.le_succ _)) (I.hok.fresh (Nat.le_refl _)) (Nat.ne_of_lt (Nat.lt_succ_self _))
  have I2 := Inv.made (C := C) I
  have r2 : Vals (V.ref (s.heap.objs.size + 1) :: (vs ++ dvs)) (Value.ref (s.heap.objs.size + 1) :: (us ++ ds)) := .cons rfl (r.append hd)
  have hl : (Value.ref (s.heap.objs.size + 1) :: us ++ ds).length = ps.length := by
    have e := r2.length
    rw [F.len _ _ _ _ hq] at e
    exact e.symm
  refine wpAny_call (make_map (f := f) I.kIn M.makes M.init (beq_iff_eq.mp M.fn) (codeAny_mono (F.run _ X.stack _ _ ⟨Value.ref (s.heap.objs.size + 1) :: us, []⟩ (Value.ref (s.heap.objs.size + 1) :: (us ++ ds)) _ _ (E σ) (hr.make C us [])
    (I2.env0.make C us []) (hb _ (Value.ref (s.heap.objs.size + 1) :: us) I2.kIn hl) r2 hq) fun r s' hq' => ?_))
  cases r with
  | error e => exact hx pins _ _ e s' I2 hq'
  | ok fl =>
    cases fl with
    | ret u =>
      obtain ⟨v, H', I3, rv, ev, q3⟩ := I2.after hq'
      subst ev
      exact ⟨rv, ⟨V.ref (s.heap.objs.size + 1), H', I3, rfl, q3⟩⟩
    | next => exact False.elim hq'
    | brk => exact False.elim hq'
    | cont => exact False.elim hq'
theorem pe_makeSD (M : Mk X.K C f) (F : FnOk X.prog X.w X.K X.mg X.base CX k f fd ps sp) (hr : Room (k + 1) X.A) (hg : Gl X x) (hm : X.mg x = some (.ref C)) (hb : Binds X.K fd ps ds) (hd : Vals dvs ds) (hx : ∀ σ, PassesAt CX X σ (E σ))
    (ha : PA X (e :: es) t) (hdb : (x == ("__debug__" : Str)) = false := by decide) (he : starEach (e :: es) X.env = (false, eval e X.env) :: starEach es X.env := by rfl) (hpl : (backTo pos (starEach es X.env)).any (·.1) = false := by rfl) :
    PE X (.Call (.Name x p) (e :: es) [] pos) (tMakeSD C sp dvs E t) := by
  refine ⟨fun pins s σ H Q I h => ?_⟩
  refine wpAny_Call_Name_kw (ld_glob I hg hm ?_ hdb)
  refine PySem.W.callWith_K (h₀ := X.base) I.ok.mod.kin M.kp (thn (ha.run pos pins s σ H _ I h) fun us s1 ⟨vs, H1, I1, r, q⟩ => ⟨I1.kIn, ?_⟩) he hpl
  exact run_makeSD M F hr hb hd (hx σ) I1 r q
/-! readings -/
variable {σ : L2.St} {H : Hp} {Q : VK} {D : Ends}
theorem go_callSD (h : t σ H fun vs H1 => sp (vs ++ dvs) H1 Q (E σ)) : tCallSD sp dvs E t σ H Q := h
theorem go_methSD (h : ta σ H fun x H1 => ∃ a dx fs, x = .ref a ∧ H1 a = some (.ins C dx fs) ∧ fs.lookup m = none ∧ t σ H1 fun vs H2 => sp (x :: (vs ++ dvs)) H2 Q (E σ)) : tMethSD C m sp dvs E ta t σ H Q := h
theorem go_makeSD (h : t σ H fun vs H1 => ∀ x dx, H1 x = none → H1 dx = none → dx ≠ x →
  sp (.ref x :: (vs ++ dvs)) (upd (upd H1 dx (.own x)) x (.ins C dx [])) (fun v H2 => v = .non ∧ Q (.ref x) H2) (E σ)) : tMakeSD C sp dvs E t σ H Q := h
theorem go_raise {W : WX} {fn : Str} (h : t σ H fun vs H1 => ∃ v, vs = [v] ∧ ∀ d, H1 d = none → W (.ref C) (some d) σ (upd H1 d (.xd [(fn, v)]))) : tRaiseErr C fn W t D σ H := h
end
/-! a def called within an except suite (it raises nothing itself) -/
structure RoomM (k : Nat) (A : Around) : Prop where
  dp : A.depth + 3 * k + 5 < recursionLimit
  un : A.units + 16 * k + 200 < cLine
theorem RoomM.mono {j k : Nat} {A : Around} (r : RoomM k A) (h : j ≤ k) : RoomM j A := ⟨by have := r.dp; omega, by have := r.un; omega⟩
theorem RoomM.deeper {k : Nat} {A : Around} (r : RoomM (k + 1) A) (env : Env) : RoomM k (A.deeper env) :=
  ⟨by have := r.dp; show A.depth + 1 + 3 * k + 5 < _; omega, by have := r.un; show A.units + 3 + 16 * k + 200 < _; omega⟩
theorem RoomM.depth {k : Nat} {A : Around} (r : RoomM k A) : A.depth < recursionLimit := by have := r.dp; omega
theorem roomM_mark {k : Nat} {A : Around} (r : Room k A) (h : Option Value) : RoomM k (A.mark h) := ⟨r.dp, r.un⟩
structure FnM (P : Program) (w : World) (K : PySem.W.Frag) (mg : Str → Option Value) (base : Heap) (k : Nat) (f : Addr) (fd : FuncData) (ps : List Str) (sp : Sp) : Prop where
  len : ∀ vs H Q E, sp vs H Q E → vs.length = ps.length
  run : ∀ (A : Around) (outer : List Env) (s : Shared) (H : Hp) (args : Args) (us : List Value) (vs : List V) (Q : VK), RoomM k A → Env0 P w K mg base A outer s H → BindsTo s fd args (ps.zip us) → Vals vs us → sp vs H Q E0 →
    codeAny (model P w) A (.call (.ref f) args) (CR CX0 outer P w H s Q E0) s
def cxM (P : Program) (w : World) (K : PySem.W.Frag) (mg : Str → Option Value) (base : Heap) (N : List Str) (qual : Str) (scope : Scope) (f : Addr) (cd : Value) (A : Around) (outer : List Env) (s : Shared) (H : Hp) : Cx :=
  { cxOf CX0 P w K mg base N qual scope f cd A outer s H E0 with calm := false }
theorem inv_startM {P : Program} {w : World} {K : PySem.W.Frag} {mg : Str → Option Value} {base : Heap} {N ps : List Str} {qual : Str} {scope : Scope} {f : Addr} {cd : Value} {A : Around} {outer : List Env} {s s1 : Shared} {H : Hp} {us : List Value} {vs : List V}
    (S : FnScope N ps scope) (e0 : Env0 P w K mg base A outer s H) (hl : vs.length = ps.length) (r : Vals vs us)
    (x : InCallC s s.heap.objs.size (bindL (envOfC qual scope s.heap.objs.size f cd).kindOf (ps.zip us) fun _ => none) (cellsFrom (s.heap.objs.size + 1) scope.names []) (bindC (envOfC qual scope s.heap.objs.size f cd).kindOf (ps.zip us) fun _ => none) s1) :
    L2.Inv (cxM P w K mg base N qual scope f cd A outer s H) [] (L2.start N vs) H s1 := by
  have hpl : ps.length ≤ N.length := by have := congrArg List.length S.pre; rw [List.length_take] at this; omega
  obtain ⟨h1, tk, rfl, hk⟩ := x.done
  have noA : ∀ b : Addr, b ∉ (cxM P w K mg base N qual scope f cd A outer s H).ex := fun b z => absurd (show b ∈ ([] : List Addr) from z) (by simp)
  refine ⟨⟨e0.mod, S.kind, rfl, rfl, Nat.le_refl _, fun y z c h1 h2 => ?_, fun y hy => ?_, fun y c _ h => ?_, (fun z => Bool.noConfusion (show false = true from z)), Around.frames_deeper e0.frames, .inr ⟨rfl, rfl⟩, fun b z => absurd z (noA b), e0.bs, e0.bsz, fun b _ _ => noA b, fun b z => absurd z (noA b), e0.funs, e0.frf⟩,
    rfl, e0.bare, Un.kept hk, ⟨_, x.toInCall.ns, fun i y v h1 h2 h3 => ?_⟩, fun y c h => ⟨_, x.cell y c h⟩, e0.hok.fresh (Nat.le_refl _), fun y c h => ?_, fun p hp => absurd (show p ∈ ([] : List (Addr × Obj)) from hp) (by simp), e0.hok.kept hk, ?_⟩
  · exact name_of_addr x.apart (PySem.mem_of_lookup h1) (PySem.mem_of_lookup h2)
  · have hy : scope.names.lookup y = some .cell ∨ scope.names.lookup y = some .free := hy
    rcases hy with hy | hy
    · exact cell_has hy
    · exact absurd rfl (S.nofree _ (PySem.mem_of_lookup hy))
  · exact Nat.le_of_lt (x.above y c (PySem.mem_of_lookup h))
  · have hi : i < vs.length := by
      unfold L2.start at h2
      by_cases hi : i < vs.length
      · exact hi
      · rw [List.getElem?_append_right (by simpa using hi)] at h2
        rw [List.getElem?_replicate] at h2
        split at h2 <;> cases h2
    have ha : vs[i]? = some v := by
      unfold L2.start at h2
      rw [List.getElem?_append_left (by simpa using hi), List.getElem?_map] at h2
      cases e : vs[i]? with
      | none => rw [e] at h2; cases h2
      | some a => rw [e] at h2; cases h2; rfl
    obtain ⟨u, hu, rv⟩ := r.get ha
    have hp : ps[i]? = some y := by
      rw [← S.pre, List.getElem?_take_of_lt (by omega)]; exact h1
    have ndP : ps.Nodup := by rw [← S.pre]; exact S.nd.sublist (List.take_sublist _ _)
    refine ⟨u, rv, ?_⟩
    rcases S.par y (List.mem_of_getElem? hp) with k | k
    · exact .inl ⟨k, bindL_get ndP hp hu k⟩
    · obtain ⟨c, e⟩ := cell_has (n := s.heap.objs.size + 1) k
      refine .inr ⟨.inl k, c, e, ?_⟩
      have q := x.cell y c e
      rw [bindC_get ndP hp hu (by show scope.names.lookup y ≠ _; rw [k]; decide)] at q
      exact q
  · exact e0.hok.fresh (Nat.le_of_lt (x.above y c (PySem.mem_of_lookup h)))
  · unfold L2.start
    show _ = N.length
    rw [List.length_append, List.length_map, List.length_replicate]
    omega
section
variable {P : Program} {w : World} {K : PySem.W.Frag} {mg : Str → Option Value} {base : Heap}
theorem Fun.okM {x qual : Str} {st : Stmt} {f : Addr} {fd : FuncData} {N ps : List Str} {k : Nat} {sp : Sp} (F : Fun K x qual st f fd) (S : FnScope N ps (defScope st)) (len : ∀ vs H Q E, sp vs H Q E → vs.length = ps.length)
    (hbody : ∀ (cdv : Value) (A : Around) (outer : List Env) (s : Shared) (H : Hp) (vs : List V) (Q : VK), RoomM k (A.deeper (envOfC qual (defScope st) s.heap.objs.size f cdv)) → sp vs H Q E0 →
      ∃ t, PSs (cxM P w K mg base N qual (defScope st) f cdv A outer s H) (defBody st) t ∧ t { nx := fun _ H' => Q .non H', rt := Q } (L2.start N vs) H) : FnM P w K mg base (k + 1) f fd ps sp := by
  obtain ⟨oc, od, kV, doc, pm, an, cdv, ct, osl, rfl, lk, hcd⟩ := F.ex
  refine ⟨len, fun A outer s H args us vs Q hr e0 hb r hsp => ?_⟩
  have hl := len _ _ _ _ hsp
  have KX : K.In s.heap := e0.mod.kin.keeps fun b o e => (e0.bs b o e).1
  have lim : s.heap.NoLimit := e0.mod.nolimit.keeps fun b o e => (e0.bs b o e).1
  have hkind : ∀ y ∈ ps.zip us, (defScope st).names.lookup y.1 = some .local ∨ ((defScope st).names.lookup y.1 = some .cell ∧ ((cellsFrom (s.heap.objs.size + 1) (defScope st).names []).lookup y.1).isSome = true) := fun ⟨n, v⟩ hy => by
    rcases S.par n (List.of_mem_zip hy).1 with q | q
    · exact .inl q
    · exact .inr ⟨q, PySem.W.cellsFrom_some _ _ _ (.inl q)⟩
  refine codeAny_call_function hr.depth (KX _ _ lk) rfl S.co S.gen rfl (PySem.W.codeRec_of KX hcd) (hb _ _ _ _ ?_)
  refine wpAny_newFunctionEnv_cells S.kind hkind fun env he s1 x => ?_
  subst he
  refine ⟨lim.keeps x.toInCall.keep, codeAny_func ?_⟩
  obtain ⟨t, ht, hq⟩ := hbody cdv A outer s H vs Q (hr.deeper _) hsp
  have I : L2.Inv (cxM P w K mg base N qual (defScope st) f cdv A outer s H) [] (L2.start N vs) H s1 := inv_startM S e0 hl r x
  refine wpAny_mono (ht.run [] s1 (L2.start N vs) H _ I hq) (fun fl s' hs => ?_) fun e s' hs => hs
  have fin : ∀ {σ' : L2.St} {H' : Hp} {v : V} {u : Value}, L2.Inv (cxM P w K mg base N qual (defScope st) f cdv A outer s H) [] σ' H' s' → RelV v u → Q v H' → CE outer P w H s Q u s' :=
    fun {σ' H' v u} J rv q => ⟨v, H', J.os, J.bare, J.base, J.hok, rv, q⟩
  cases fl with
  | ret u =>
    obtain ⟨v, σ', H', J, rv, q⟩ := hs
    exact fin J rv q
  | next =>
    obtain ⟨σ', H', J, q⟩ := hs
    exact fin (v := V.non) (u := Value.none) J rfl q
  | brk =>
    obtain ⟨_, _, _, q⟩ := hs
    exact False.elim q
  | cont =>
    obtain ⟨_, _, _, q⟩ := hs
    exact False.elim q
end
section
variable {X : Cx} {k : Nat} {f : Addr} {fd : FuncData} {ps : List Str} {sp : Sp} {x : Str} {q pos : Pos} {e : Expr} {es : List Expr} {t : TA}
theorem pe_callM (F : FnM X.prog X.w X.K X.mg X.base k f fd ps sp) (hr : RoomM k X.A) (hg : Gl X x) (hm : X.mg x = some (.ref f)) (hk : PySem.W.keepIn X.K (.ref f) = true) (hb : Binds X.K fd ps [])
    (ha : PA X (e :: es) t) (hdb : (x == ("__debug__" : Str)) = false := by decide) (he : starEach (e :: es) X.env = (false, eval e X.env) :: starEach es X.env := by rfl) (hpl : (backTo pos (starEach es X.env)).any (·.1) = false := by rfl) :
    PE X (.Call (.Name x q) (e :: es) [] pos) (tCall sp [] E0 t) := by
  refine ⟨fun pins s σ H Q I h => ?_⟩
  refine wpAny_Call_Name_kw (ld_glob I hg hm ?_ hdb)
  refine PySem.W.callWith_K (h₀ := X.base) I.ok.mod.kin hk (thn (ha.run pos pins s σ H _ I h) fun us s1 ⟨vs, H1, I1, r, q⟩ => ⟨I1.kIn, ?_⟩) he hpl
  have q : sp vs H1 Q E0 := by
    have z : sp (vs ++ []) H1 Q E0 := q
    rwa [List.append_nil] at z
  have hl : us.length = ps.length := by rw [← r.length]; exact F.len _ _ _ _ q
  have b := hb s1 us I1.kIn (by rw [List.append_nil]; exact hl)
  rw [List.append_nil] at b
  refine wpAny_call (codeAny_mono (F.run X.A X.stack s1 H1 ⟨us, []⟩ us vs Q hr I1.env0 b r q) fun r s' hq => ?_)
  cases r with
  | error e => exact False.elim hq
  | ok fl =>
    cases fl with
    | ret u => exact I1.after hq
    | next => exact False.elim hq
    | brk => exact False.elim hq
    | cont => exact False.elim hq
end
/-- what is raised is the clause's -/
theorem we_as {K : PySem.W.Frag} {c cls : Value} {i : Nat} {ts : Addr → Value → Option Addr → TS} {Wout : WX} {D : Ends} {σ : L2.St} {H : Hp} {d : Option Addr} (hc : PySem.W.exmOne K cls c = some true)
    (h : ∀ a, H a = none → ts a cls d { nx := fun σ' H' => D.nx (σ'.set i none) H', rt := D.rt, bk := fun σ' H' => D.bk (σ'.set i none) H', ct := fun σ' H' => D.ct (σ'.set i none) H' } (σ.set i (some (.ref a))) H) :
    WE (wAs K c i ts Wout D) σ cls d H := ⟨true, hc, fun _ => h, fun q => Bool.noConfusion q⟩
/-- e.f of a caught error whose dict tells f -/
theorem go_xf {a C : Addr} {cls : Value} {d : Option Addr} {f : Str} {te : TE} {σ : L2.St} {H : Hp} {Q : VK} (h : te σ H fun x H1 => x = .ref a ∧ cls = .ref C ∧ ∃ (dd : Addr) (fs : List (Str × V)) (v : V), d = some dd ∧ H1 dd = some (.xd fs) ∧ fs.lookup f = some v ∧ Q v H1) :
    tXf a cls d C f te σ H Q := h
end Gx
/-! isinstance of the error that a suite holds -/
namespace Gx
open PySem PySem.Spec PyProof.Rows L2
/-- what the class D must say, so that isinstance asks its instances rightly -/
structure ExD (K : PySem.W.Frag) (D : Addr) : Prop where
  cl : (PySem.W.clsIn K D).isSome = true
  hg : PySem.W.findIn K (.ref D) "__getattribute__" = some (some (.builtin "BaseException.__getattribute__"))
  hk : PySem.W.findIn K (.ref D) "__getattr__" = some none
  hs : PySem.W.subIn K (.ref D) (.type "BaseException") = some true
  ha : PySem.W.findIn K (.ref D) "__class__" = some (some (.builtin "object.__class__"))
  hn : PySem.W.specialIn K (.builtin "object.__class__") "__get__" = some (some (.builtin "getset_descriptor.__get__"))
  ht : PySem.W.takesIn K (.builtin "object.__class__") = some true
  hm : PySem.W.mroIn K D (.type "object") = some true
/-- what is asked of: one class, or a written tuple of classes -/
inductive AskX (K : PySem.W.Frag) (D : Addr) (H : Hp) (b : Bool) : V → Prop
  | one {c : V} {cv : Value} : (∀ u, RelV c u → u = cv) → PySem.W.kitOne K (.ref D) cv = some b → AskX K D H b c
  | tup {tp : Addr} {cs : List V} {cvs : List Value} : H tp = some (.tup cs) → (∀ us, Vals cs us → us = cvs) → PySem.W.kitAny K (.ref D) cvs = some b → AskX K D H b (.ref tp)
def rIsX (K : PySem.W.Frag) (cls : Value) (d : Option Addr) (a : Addr) : List V → Hp → VK → Prop := fun xs H Q => ∃ (D dd : Addr) (fs : List (Str × V)) (b : Bool) (c : V),
  xs = [.ref a, c] ∧ cls = .ref D ∧ d = some dd ∧ H dd = some (.xd fs) ∧ ExD K D ∧ AskX K D H b c ∧ Q (.bl b) H
theorem call_isX {X : Cx} {a : Addr} {oe : Obj} {cls : Value} {d : Option Addr} {pn : List (Addr × Obj)} (hz : Zc cls d oe) (hf : ∃ vs, oe.data = .fields vs) : CallR (X.suite a ((a, oe) :: pn)) (.builtin "isinstance") (rIsX X.K cls d a) := by
  intro pins s σ H xs us Q I r h
  obtain ⟨D, dd, fs, b, c, rfl, rfl, rfl, ed, C, ask, q⟩ := h
  cases r with
  | cons rx rr =>
    cases rr with
    | cons rt rr =>
      cases rr
      cases rx
      obtain ⟨hget, _⟩ := I.pin (a, oe) (List.mem_append.mpr (.inl List.mem_cons_self))
      obtain ⟨vs, hv⟩ := hf
      have hx : ObjOk X.prog X.w H s.heap dd (.xd fs) := I.hok dd _ ed
      obtain ⟨mA, hns, _⟩ := hx
      obtain ⟨od, _, _, hod, _⟩ := hns
      have J : PySem.W.InstAt s.heap a oe D (some od) := by
        obtain ⟨oc, odd, oda, osl⟩ := oe
        obtain ⟨h1, h2⟩ := hz
        dsimp only at h1 h2 hv
        subst h1 h2 hv
        exact ⟨hget, rfl, rfl, hod⟩
      have KX := PySem.W.kitx_exc (K := X.K) (C := D) (x := a) (ox := oe) (od := some od) C.cl C.hg C.hk C.hs C.ha C.hn C.ht C.hm
      cases ask with
      | one hcv e =>
        have ec := hcv _ rt
        subst ec
        exact PySem.W.kia_one KX I.kIn J e (fun z => nomatch z) fun tk => ⟨.bl b, H, I.kept (t' := tk) fun _ _ z => z, rfl, q⟩
      | tup ht hcs e =>
        cases rt
        have hx : ObjOk X.prog X.w H s.heap _ (.tup _) := I.hok _ _ ht
        obtain ⟨_, its, hv, hi⟩ := hx
        have ec := hcs _ hv
        subst ec
        obtain ⟨⟨oc', od', oda', osl'⟩, h1, h2, n, h3⟩ := hi
        dsimp only at h2 h3
        subst h2 h3
        exact PySem.W.kia_tup KX I.kIn J h1 e (fun z => nomatch z) fun tk => ⟨.bl b, H, I.kept (t' := tk) fun _ _ z => z, rfl, q⟩
/-- values of written class names -/
inductive ClsVs : List V → List Value → Prop
  | nil : ClsVs [] []
  | ref {a : Addr} {cs : List V} {cvs : List Value} : ClsVs cs cvs → ClsVs (.ref a :: cs) (.ref a :: cvs)
theorem ClsVs.only {cs : List V} {cvs : List Value} (h : ClsVs cs cvs) : ∀ us, Vals cs us → us = cvs := by
  induction h with
  | nil => intro us r; cases r; rfl
  | ref _ ih =>
    intro us r
    cases r with
    | cons rx rr =>
      cases rx
      rw [ih _ rr]
/-- one own class -/
theorem AskX.cls {K : PySem.W.Frag} {D C : Addr} {H : Hp} {b : Bool} (e : PySem.W.kitOne K (.ref D) (.ref C) = some b) : AskX K D H b (.ref C) := .one (cv := .ref C) (fun u r => by cases r; rfl) e
/-- one built-in class -/
theorem AskX.ty {K : PySem.W.Frag} {D : Addr} {T : String} {H : Hp} {b : Bool} (e : PySem.W.kitOne K (.ref D) (.type T) = some b) : AskX K D H b (.ty T) := .one (cv := .type T) (fun u r => by cases r; rfl) e
theorem go_isX {K : PySem.W.Frag} {D dd a : Addr} {fs : List (Str × V)} {b : Bool} {c : V} {H : Hp} {Q : VK} (ed : H dd = some (.xd fs)) (C : ExD K D) (ask : AskX K D H b c) (h : Q (.bl b) H) : rIsX K (.ref D) (some dd) a [.ref a, c] H Q :=
  ⟨D, dd, fs, b, c, rfl, rfl, rfl, ed, C, ask, h⟩
end Gx

set_option Elab.async false
set_option linter.all false
set_option maxRecDepth 100000
set_option maxHeartbeats 4000000
/-! Own lemmas: a list comprehension whose element may let an error out. -/
namespace Gx
open PySem PySem.Spec PyProof.Rows L2
theorem note_env {u : Value} {ce env : Env} (h : ce.frame = env.frame) : noteFrame u ce = noteFrame u env := by
  unfold PySem.noteFrame PySem.frameOf
  rw [h]
def hid (h : Heap) (C : Addr) : Heap := PySem.W.hideAll h [C]
theorem hid_get {h : Heap} {C b : Addr} {o : Obj} (e : h.get? b = some o) (n : b ≠ C) : (hid h C).get? b = some o := PySem.W.hideAll_get _ e (by simpa using n)
theorem of_hid {h : Heap} {C b : Addr} {o : Obj} (e : (hid h C).get? b = some o) : h.get? b = some o := PySem.W.of_hideAll _ e
theorem hid_self {h : Heap} {C : Addr} : (hid h C).get? C = none := PySem.W.hideAll_none _ (by simp)
theorem hid_none {h : Heap} {C b : Addr} (e : h.get? b = none) : (hid h C).get? b = none := by
  cases q : (hid h C).get? b with
  | none => rfl
  | some o => rw [of_hid q] at e; cases e
theorem hid_ne {h : Heap} {C b : Addr} {o : Obj} (e : (hid h C).get? b = some o) : b ≠ C := fun z => by
  rw [z, hid_self] at e
  cases e
theorem ff_but {base B h h' : Heap} {C : Addr} (sb : Heap.SameBut C h h') (hn : ∀ b, base.get? b = none → B.get? b = none) : ∀ {l : List Env}, C ∉ frs l → h.FunFrames base l → h'.FunFrames B l
  | [], _, _ => trivial
  | env :: l, nC, ⟨hk, ⟨L, o, hf, h1, ho, hd⟩, hr⟩ => by
    have e1 : frs (env :: l) = L :: frs l := by
      unfold frs
      rw [List.filterMap_cons, hf]
    rw [e1] at nC
    refine ⟨hk, ⟨L, o, hf, hn _ h1, ?_, hd⟩, ff_but sb hn (fun z => nC (List.mem_cons_of_mem _ z)) hr⟩
    rw [sb.2 L (fun z => nC (z ▸ List.mem_cons_self))]
    exact ho
section
variable {X : Cx} {pins : List (Addr × Obj)} {σ : L2.St} {H H' : Hp} {sO s2 : Shared} {B : Heap} {W : WX}
/-- an exception held at our frame, behind a call's work -/
theorem xe_held {a : Addr} {cls : Value} {d : Option Addr} (J : Inv X pins σ H sO) (hh : HandSPX.HeldZ B X.stack a (Zc cls d) X.env.locals s2.heap) (hB : HOk X.prog X.w H' B) (ub : UB (frs X.stack) H H' sO.heap B s2.heap)
    (na : H' a = none) (os : s2.os = sO.os) (ag : AllBare s2.gens) (hw : W cls d σ H') : XE X W (.ref a) s2 := by
  obtain ⟨N, n1, n2⟩ := restrict s2.heap fun c => (B.get? c).isSome || decide (c ∈ frs X.stack)
  have stay : B.StaysIn s2.heap := hh.1
  have inN : ∀ c u, B.get? c = some u → N.get? c = some u := fun c u q =>
    (n1 c (by simp [q])).trans (stay c u q)
  have frN : ∀ c, c ∈ frs X.stack → N.get? c = s2.heap.get? c := fun c q =>
    n1 c (by simp [q])
  have fromN : ∀ c u, N.get? c = some u → s2.heap.get? c = some u ∧ ((B.get? c).isSome = true ∨ c ∈ frs X.stack) := fun c u q => by
    by_cases k : ((B.get? c).isSome || decide (c ∈ frs X.stack)) = true
    · rw [n1 c k] at q
      exact ⟨q, by simpa [Bool.or_eq_true] using k⟩
    · rw [n2 c (by simpa using k)] at q
      cases q
  refine ⟨a, B, { sO with heap := N, gens := s2.gens, drawn := s2.drawn, toks := s2.toks }, pins, σ, H', cls, d, rfl, ?_, ?_,
    Heap.UpToSlots.of_keeps fun c u q => (fromN c u q).1, .inr (.inr hh), na, os, ag, hw⟩
  · refine J.call (ch := []) ⟨fun c u q n hc _ => inN c u (ub.keep c u q n hc), fun c u q n hc _ => ?_, fun c u q n _ => ub.free c u q n, fun c u q _ => ?_, ub.tups, ub.frzs, ub.tbls⟩
      (hB.kept inN) ag (fun _ z => nomatch z)
    · obtain ⟨sl, k⟩ := ub.slot c u q hc
      exact ⟨sl, (frN c hc).trans k⟩
    · by_cases hc : c ∈ frs X.stack
      · obtain ⟨sl, k⟩ := ub.slot c u q hc
        exact ⟨_, (frN c hc).trans k⟩
      · obtain ⟨v, k⟩ := ub.there c u q hc
        exact ⟨v, inN c v k⟩
  · intro c u q hc
    obtain ⟨k1, k2⟩ := fromN c u q
    rcases k2 with k2 | k2
    · obtain ⟨v, k3⟩ := Option.isSome_iff_exists.mp k2
      have k4 := stay c v k3
      rw [k1] at k4
      cases k4
      exact k3
    · exact absurd k2 hc
end
/-- the block's context, with what it owes for an error -/
abbrev blkE (X : Cx) (s : Shared) (H : Hp) (scope : Scope) (ce : Env) (fp : List Addr) : Cx :=
  { X.blk s H scope ce fp with xe := notedBy (model X.prog X.w) X.A ce (CompFails (model X.prog X.w) X.A X.xe ce) }
section
variable {X : Cx} {pins pins' : List (Addr × Obj)} {σ σ' : L2.St} {H H3 : Hp} {s s3 s' : Shared} {scope : Scope} {ce : Env} {fp : List Addr}
theorem ok_xe {y : Value → Shared → Prop} (k : X.Ok) : ({ X with xe := y } : Cx).Ok := { k with }
theorem inv_xe {y : Value → Shared → Prop} (I : Inv X pins σ H s) : Inv { X with xe := y } pins σ H s := ⟨ok_xe I.ok, I.os, I.bare, I.base, I.loc, I.cell, I.free, I.freeC, I.pin, I.hok, I.len⟩
/-- an error out of the block's element -/
theorem blk_pass {E : XK} (I3 : Inv X pins σ H3 s3) (f3 : ∀ b ∈ fp, FpOk X pins H3 b ∧ b < s3.heap.objs.size) (hC : ce.locals = s3.heap.objs.size) (hce : ce.frame = X.env.frame) (hs : X.stack = X.env :: X.outer)
    (hf : X.env.frame = some X.env.locals) (tk : Takes X (fun cls d _ H => E cls d H)) {u : Value} (I : Inv (blkE X s3 H3 scope ce fp) pins' σ' H s) (c : CX X.prog X.w X.stack H s E u s') :
    notedBy (model X.prog X.w) X.A ce (CompFails (model X.prog X.w) X.A X.xe ce) u s' := by
  obtain ⟨a, B, H', cls, d, rfl, fl, hok, ub, na, os, ag, hE⟩ := c
  have hfr : X.A.frames = some (X.env :: X.outer) := by rw [I3.ok.frames, hs]
  generalize hCe : ce.locals = C at *
  have nC : C ∉ frs X.stack := fun z => by
    rcases List.mem_cons.mp (I3.stkSub C z) with z | z
    · have := I3.lt
      rw [← z, hC] at this
      exact Nat.lt_irrefl _ this
    · exact I3.nofs (Nat.le_of_eq hC.symm) z
  have hHC : H C = none := by
    have := I.free
    rw [← hCe]
    exact this
  obtain ⟨m, hns, _⟩ := I.loc
  have hns : s.heap.Ns C m := by rw [← hCe]; exact hns
  obtain ⟨oC, es, ep, eC, dC, r1, r2⟩ := hns
  have eB : B.get? C = some oC := ub.keep C oC eC hHC nC
  have aC : a ≠ C := fun z => by
    have k := fl.2.1
    rw [z, eB] at k
    cases k
  have fl2 : HandSPX.FlyingZ (hid B C) (X.env :: X.outer) a (Zc cls d) s'.heap := by
    obtain ⟨f1, f2, f4, oe, vs, T, oT, ts, t1, t2, t3, t4, t5, t6⟩ := fl
    rw [hs] at f4
    exact ⟨fun b o q => f1 b o (of_hid q), hid_none f2, ff_but (C := C) (Heap.SameBut.refl C _) (fun b q => hid_none q) (by rw [← hs]; exact nC) f4, oe, vs, T, oT, ts, t1, t2, t3, t4, hid_none t5, t6⟩
  unfold notedBy
  rw [note_env hce]
  refine HandSPX.looks_onZ Zc.steady hfr hf fl2 fun h1 hh1 up1 => ?_
  obtain ⟨sl1, eC1⟩ := up1 C oC (fl.1 C oC eB) (fun vs z => by rw [dC] at z; cases z)
  refine ⟨m, by rw [hCe]; exact ⟨_, es, ep, eC1, dC, r1, r2⟩, fun h2 m2 _ sb => ?_⟩
  rw [hCe] at sb
  have hh2 : HandSPX.HeldZ (hid B C) (X.env :: X.outer) a (Zc cls d) X.env.locals h2 := by
    obtain ⟨f1, f2, f4, oe, vs, T, oT, ts, t1, t2, t3, t4, t5, t6, t7, t8, t9⟩ := hh1
    have nT : T ≠ C := fun z => by
      rw [z, eC1] at t7
      cases t7
      rw [dC] at t8
      cases t8
    exact ⟨fun b o q => (sb.2 b (hid_ne q)).trans (f1 b o q), f2, ff_but (C := C) sb (fun b q => q) (by rw [← hs]; exact nC) f4, oe, vs, T, oT, ts, (sb.2 a aC).trans t1, t2, t3, t4, t5, t6, (sb.2 T nT).trans t7, t8, t9⟩
  have keep2 := hh2
  obtain ⟨_, _, _, oe, vs, T, oT, ts, t1, t2, t3, t4, t5⟩ := keep2
  unfold PySem.passOn
  refine wpAny_bind (wpAny_field t1 t3 t4 ?_)
  rw [if_neg (by simp)]
  refine wpAny_bind ?_
  rw [hce, hf]
  refine HandSPX.setFlight_onZ hh2 fun h3 hh3 up3 => ?_
  refine wpAny_throw (tk _ _ ?_)
  have sO : Inv X pins σ H { s with heap := hid s.heap C } := by
    refine I3.call' (ch := fp) I.os ?_ (fun b o q => ?_) I.bare fun b hb => ⟨(f3 b hb).1.2.2.2.1, (f3 b hb).1.2.1, (f3 b hb).1.2.2.2.2.1, (f3 b hb).1.2.2.2.2.2⟩
    · have old : ∀ b o, s3.heap.get? b = some o → b ≠ C := fun b o q z => by
        have := Heap.lt_size q
        rw [z, hC] at this
        exact Nat.lt_irrefl _ this
      have U := I.base
      exact ⟨fun b o q n k1 k2 => hid_get (U.keep b o q n k1 k2) (old b o q), fun b o q n k1 k2 => let ⟨sl, k⟩ := U.slot b o q n k1 k2; ⟨sl, hid_get k (old b o q)⟩, U.free,
        fun b o q k => let ⟨v, k2⟩ := U.there b o q k; ⟨v, hid_get k2 (old b o q)⟩, U.tups, U.frzs, U.tbls⟩
    · refine (I.hok b o q).stay (fun c v hc k => hid_get k fun z => ?_) (fun _ k => k) fun _ _ k => k
      rcases hc with z2 | z2
      · rw [← z2, z, hHC] at q
        cases q
      · rw [z, hHC] at z2
        cases z2
  have hH'C : H' C = none := ub.free C oC eC hHC
  refine xe_held (B := hid B C) (H' := H') (s2 := { s' with heap := h3 }) sO (by rw [hs]; exact hh3) (fun b o q => ?_) ⟨fun b o q n k => hid_get (ub.keep b o (of_hid q) n k) (hid_ne q), fun b o q k => ?_, fun b o q n => ub.free b o (of_hid q) n, fun b o q k => ?_, ub.tups, ub.frzs, ub.tbls⟩ na os ag hE
  · refine (hok b o q).stay (fun c v hc k => hid_get k fun z => ?_) (fun _ k => k) fun _ _ k => k
    rcases hc with z2 | z2
    · rw [← z2, z, hH'C] at q
      cases q
    · rw [z, hH'C] at z2
      cases z2
  · obtain ⟨_, o2, e2, nf⟩ := I.stack.mem k
    rw [of_hid q] at e2
    cases e2
    obtain ⟨s1, k1⟩ := ub.slot b o (of_hid q) k
    obtain ⟨s4, k4⟩ := up1 b _ k1 nf
    have k5 : h2.get? b = some { o with slots := s4 } := (sb.2 b (hid_ne q)).trans k4
    obtain ⟨s6, k6⟩ := up3 b _ k5 nf
    exact ⟨s6, k6⟩
  · obtain ⟨v, k2⟩ := ub.there b o (of_hid q) k
    exact ⟨v, hid_get k2 (hid_ne q)⟩
theorem lc_err {elt tg iter : Expr} {ifs : List Expr} {own : List (Str × Nat)} {pos pos' : Pos} {wi : TI} {g : TG} {tt : TT} {te : TE} {E : XK} {Q : VK} {Qf : Value → Shared → Prop}
    (hc : X.calm = true) (hN : X.N.Nodup) (I : Inv X pins σ H s) (hi : PI X tg iter wi) (ok : BlkOk X.N X.env.scope scope own) (hst : X.stack = X.env :: X.outer) (hfr : X.env.frame = some X.env.locals) (tk : Takes X (fun cls d _ H => E cls d H))
    (hg : ∀ (s : Shared) (H : Hp) (C : Addr) (cl : List (Str × Addr)) (fp : List Addr), PG (blkE X s H scope (compEnvC scope cl C X.env) fp) tg g)
    (ht : ∀ (s : Shared) (H : Hp) (C : Addr) (cl : List (Str × Addr)) (fp : List Addr), PTs (blkE X s H scope (compEnvC scope cl C X.env) fp) ifs tt)
    (he : ∀ (s : Shared) (H : Hp) (C : Addr) (cl : List (Str × Addr)) (fp : List Addr), (∀ σ, PassesAt (L2.CX X.prog X.w) (blkE X s H scope (compEnvC scope cl C X.env) fp) σ E) → PE (blkE X s H scope (compEnvC scope cl C X.env) fp) elt te)
    (hs : ∀ x, foldedSetIterable iter X.env x = pure x) (h : tLc wi g tt te (own.map (·.2)) σ H Q)
    (fine : ∀ D C s' m H', Inv X pins σ H' s' → Q (.ref D) H' → s'.heap.Ns C m → FpOk X pins H' C → ∀ h', Heap.SameBut C s'.heap h' → Qf (.ref D) { s' with heap := h' }) :
    wpAny (model X.prog X.w) X.A (comprehension (.ListComp elt [⟨tg, iter, ifs, 0⟩] scope pos) scope X.env pos' (newList []) false (eval iter X.env) none) Qf X.xe s := by
  have frees : ∀ y ∈ scope.names, y.2 = .free → ∃ c, X.env.cells.lookup y.1 = some c := fun y hy z => by
    rcases ok.free y hy z with q | q
    · exact I.ok.has _ (.inl q)
    · exact I.ok.has _ (.inr q)
  refine comprehension_at (use := none) rfl hs (closure_ok frees) ok.kind
    (fun y hy z => by rw [ok.uniq y hy, z]) ?_
  refine thn (hi.run pins s σ H _ I h) fun src sa hsrc => ?_
  refine thn hsrc fun walker sb hw => ?_
  obtain ⟨it, fp, tn, J, H2, rfl, I2, T, at0, frs2, q⟩ := hw
  refine wpAny_newObj_type (newEnv_comp ?_) (Nat.zero_le _)
  generalize hD : sb.heap.objs.size = D
  have freeD : H2 D = none := I2.hok.fresh (Nat.le_of_eq hD)
  obtain ⟨W, ⟨m0, w0⟩, turn⟩ := q D freeD
  generalize hsc : ({ sb with heap := sb.heap.push { cls := .type "list", data := .seq ([] : List Value).toArray } } : Shared) = sc
  have Ic : Inv X pins σ (upd H2 D (.lst [])) sc := by
    subst hsc
    refine I2.laid (t' := sb.toks) (fun _ _ k => Heap.get?_push_of_some _ k) (Nat.le_of_eq hD) ?_
    refine ⟨Nat.zero_le _, [], 0, .nil, ?_⟩
    subst hD
    exact Heap.get?_push_size _ rfl
  have heapc : sc.heap = sb.heap.push { cls := .type "list", data := .seq ([] : List Value).toArray } := by subst hsc; rfl
  have small : ∀ b ∈ fp, b < sb.heap.objs.size := fun b hb =>
    let ⟨_, k, _⟩ := T.obj _ _ at0 b hb
    Heap.lt_size k
  have fc : ∀ b ∈ fp, FpOk X pins (upd H2 D (.lst [])) b ∧ b < sc.heap.objs.size := fun b hb => by
    have lt := small b hb
    refine ⟨⟨?_, (frs2 b hb).2⟩, ?_⟩
    · rw [upd_ne (fun z => by rw [z, ← hD] at lt; exact Nat.lt_irrefl _ lt)]
      exact (frs2 b hb).1
    · rw [heapc, Heap.size_push]
      exact Nat.lt_succ_of_lt lt
  have atc : tn 0 sc.heap := T.keep _ _ _ at0 fun b _ o k => by
    rw [heapc]
    exact Heap.get?_push_of_some _ k
  have Id := inv_xe (y := notedBy (model X.prog X.w) X.A (compEnvC scope (cellsFrom (sc.heap.objs.size + 1) scope.names (cloFrom X.env.cells scope.names [])) sc.heap.objs.size X.env)
    (CompFails (model X.prog X.w) X.A X.xe (compEnvC scope (cellsFrom (sc.heap.objs.size + 1) scope.names (cloFrom X.env.cells scope.names [])) sc.heap.objs.size X.env))) (block_start Ic ok hN fc)
  have pg := hg sc (upd H2 D (.lst [])) sc.heap.objs.size (cellsFrom (sc.heap.objs.size + 1) scope.names (cloFrom X.env.cells scope.names [])) fp
  have pt := ht sc (upd H2 D (.lst [])) sc.heap.objs.size (cellsFrom (sc.heap.objs.size + 1) scope.names (cloFrom X.env.cells scope.names [])) fp
  have pe := he sc (upd H2 D (.lst [])) sc.heap.objs.size (cellsFrom (sc.heap.objs.size + 1) scope.names (cloFrom X.env.cells scope.names [])) fp
    fun σ9 pins9 H9 s9 e9 s10 I9 c9 =>
      blk_pass (scope := scope) (fp := fp) (ce := compEnvC scope (cellsFrom (sc.heap.objs.size + 1) scope.names (cloFrom X.env.cells scope.names [])) sc.heap.objs.size X.env) Ic fc rfl rfl hst hfr tk I9 c9
  show codeAny _ _ (.compStart (.ListComp elt [⟨tg, iter, ifs, 0⟩] scope pos) 0 (.ref it) (.ref D) (compEnvC scope (cellsFrom (sc.heap.objs.size + 1) scope.names (cloFrom X.env.cells scope.names [])) sc.heap.objs.size X.env))
    (compEnds (model X.prog X.w) X.A X.xe none Qf (.ref D) (compEnvC scope (cellsFrom (sc.heap.objs.size + 1) scope.names (cloFrom X.env.cells scope.names [])) sc.heap.objs.size X.env)) { sc with heap := pushCells (sc.heap.push { cls := .type "dict", data := .dict #[] }) scope.names }
  have bare : ∀ b ∈ fp, (upd H2 D (.lst [])) b = none := fun b hb => (fc b hb).1.1
  generalize hce : compEnvC scope (cellsFrom (sc.heap.objs.size + 1) scope.names (cloFrom X.env.cells scope.names [])) sc.heap.objs.size X.env = ce at Id pg pt pe ⊢
  have locC : ce.locals = sc.heap.objs.size := by subst hce; rfl
  generalize hHc : upd H2 D (.lst []) = Hc at Ic Id pg pt pe w0 bare fc
  generalize hsd : ({ sc with heap := pushCells (sc.heap.push { cls := .type "dict", data := .dict #[] }) scope.names } : Shared) = sd at Id ⊢
  have atd : tn 0 sd.heap := T.keep _ _ _ atc fun b _ o k => by
    subst hsd
    exact pushCells_keeps _ _ _ _ (Heap.get?_push_of_some _ k)
  have still : ∀ {σ' : L2.St} {H' : Hp} {s' : Shared}, Inv (blkE X sc Hc scope ce fp) [] σ' H' s' → (∀ b ∈ fp, H' b = none) → ∀ b ∈ fp, FpOk (blkE X sc Hc scope ce fp) [] H' b := fun {σ' H' s'} K n b hb =>
    ⟨n b hb, (K.ok.exf b hb).1, K.ok.exfs b hb, .inl hb, fun x c k => (K.ok.exf b hb).2 x c k, fun p hp => absurd (show p ∈ ([] : List (Addr × Obj)) ++ [] from hp) (by simp)⟩
  have main : codeAny (model X.prog X.w) X.A (.compLoop (.ListComp elt [⟨tg, iter, ifs, 0⟩] scope pos) 0 (.ref it) (.ref D) ce) (compEnds (model X.prog X.w) X.A X.xe none Qf (.ref D) ce) sd := by
    refine compLoop_any (fun n t => ∃ i H', Inv (blkE X sc Hc scope ce fp) [] (wipe σ (own.map (·.2))) H' t ∧ tn i t.heap ∧ (∀ b ∈ fp, H' b = none) ∧ W i n H') ?_ m0 ⟨0, Hc, Id, atd, bare, w0⟩
    rintro n t5 ⟨i, H5, I5, at5, b5, w5⟩
    rcases turn i n H5 w5 with ⟨stop, hQ⟩ | ⟨go, Nx, hNx, step⟩
    · refine thnF (T.done (blkE X sc Hc scope ce fp) rfl rfl rfl hc i [] t5 _ H5 (fun _ _ => False) I5 (still I5 b5) at5 stop) fun r t6 hr => ?_
      obtain ⟨rfl, I6⟩ := hr
      have back : Inv X pins σ H5 t6 := Ic.call' (ch := fp) I6.os I6.base I6.hok I6.bare fun b hb =>
        let k := (fc b hb).1.2
        ⟨k.2.2.1, k.1, k.2.2.2.1, k.2.2.2.2⟩
      have noC : H5 ce.locals = none := I6.free
      obtain ⟨m, hn, _⟩ := I6.loc
      exact ⟨m, hn, fine D ce.locals t6 m H5 back hQ hn (Ic.fpOk (Nat.le_of_eq locC.symm) noC)⟩
    · refine thnF (T.item (blkE X sc Hc scope ce fp) rfl rfl rfl hc i [] t5 _ H5 (fun _ _ => False) I5 (still I5 b5) at5 go) fun r t6 hr => ?_
      obtain ⟨u, rfl, h6⟩ := hr
      refine thnF h6 fun _ t7 h7 => ?_
      obtain ⟨x, H7, I7, r7, y7, at7, b7⟩ := h7
      have P7 := I7.pinned (still I7 b7) (T.obj _ _ at7)
      refine thn (pg.run _ t7 _ H7 x u _ P7 r7 (step x H7 y7)) fun _ t8 h8 => ?_
      obtain ⟨σ8, H8, I8, same8, q8⟩ := h8
      refine thn (pt.run _ t8 σ8 H8 _ I8 q8) fun b t9 h9 => ?_
      obtain ⟨H9, I9, q9⟩ := h9
      have close : ∀ {t : Shared} {H' : Hp}, Inv (blkE X sc Hc scope ce fp) ([] ++ pinsAt fp t7.heap) σ8 H' t → Nx H' → ∃ m, m < n ∧ ∃ i H', Inv (blkE X sc Hc scope ce fp) [] (wipe σ (own.map (·.2))) H' t ∧ tn i t.heap ∧ (∀ b ∈ fp, H' b = none) ∧ W i m H' := fun {t H'} K nx => by
        obtain ⟨m', lt', w'⟩ := hNx H' nx
        have pinned : ∀ b ∈ fp, ∀ o, t7.heap.get? b = some o → t.heap.get? b = some o ∧ H' b = none := fun b hb o k =>
          let ⟨z1, z2, _⟩ := K.pin (b, o) (List.mem_append_right _ (List.mem_append_right _ (mem_pinsAt hb k)))
          ⟨z1, z2⟩
        refine ⟨m', lt', i + 1, H', ?_, T.keep _ _ _ at7 fun b hb o k => (pinned b hb o k).1, ?_, w'⟩
        · refine (K.unpinned (pins := [])).weak (by rw [← same8, wipe_length]) fun j v k => ?_
          rw [← same8] at k
          exact (wipe_some k).1
        · intro b hb
          obtain ⟨o, k, _⟩ := T.obj _ _ at7 b hb
          exact (pinned b hb o k).2
      cases b with
      | false =>
        simp only [Bool.false_eq_true, if_false] at q9 ⊢
        exact close I9 q9
      | true =>
        simp only [if_true] at q9 ⊢
        refine thn (pe.run _ t9 σ8 H9 _ I9 q9) fun z t10 h10 => ?_
        obtain ⟨yv, H10, I10, r10, acc, eD, room, nx⟩ := h10
        exact app_ok (X := blkE X sc Hc scope ce fp) I10 eD room r10 fun t11 I11 => close I11 nx
  exact codeAny_compStart_list main (T.self X.A 0 _ _ _ atd main)
/-- as a value -/
theorem pe_lcE {elt tg iter : Expr} {ifs : List Expr} {own : List (Str × Nat)} {pos : Pos} {wi : TI} {g : TG} {tt : TT} {te : TE} {E : XK}
    (hc : X.calm = true) (hN : X.N.Nodup) (hi : PI X tg iter wi) (ok : BlkOk X.N X.env.scope scope own) (hst : X.stack = X.env :: X.outer) (hfr : X.env.frame = some X.env.locals) (tk : Takes X (fun cls d _ H => E cls d H))
    (hg : ∀ (s : Shared) (H : Hp) (C : Addr) (cl : List (Str × Addr)) (fp : List Addr), PG (blkE X s H scope (compEnvC scope cl C X.env) fp) tg g)
    (ht : ∀ (s : Shared) (H : Hp) (C : Addr) (cl : List (Str × Addr)) (fp : List Addr), PTs (blkE X s H scope (compEnvC scope cl C X.env) fp) ifs tt)
    (he : ∀ (s : Shared) (H : Hp) (C : Addr) (cl : List (Str × Addr)) (fp : List Addr), (∀ σ, PassesAt (L2.CX X.prog X.w) (blkE X s H scope (compEnvC scope cl C X.env) fp) σ E) → PE (blkE X s H scope (compEnvC scope cl C X.env) fp) elt te)
    (hs : ∀ x, foldedSetIterable iter X.env x = pure x := by intro _; rfl) : PE X (.ListComp elt [⟨tg, iter, ifs, 0⟩] scope pos) (tLc wi g tt te (own.map (·.2))) := by
  constructor
  intro pins s σ H Q I h
  rw [eval_ListComp]
  refine lc_err hc hN I hi ok hst hfr tk hg ht he hs h fun D C s' m H' K q hn f h'' sb => ?_
  obtain ⟨g0, g1, g2, g3, g4, g5⟩ := f
  have K2 := K.turned (t' := s'.toks) (h' := h'') (fun b o ne k => (sb.2 b ne).trans k) g0 g1 g3 g4 g5
  exact ⟨.ref D, H', K2, rfl, q⟩
end
section
variable {K : PySem.W.Frag} {σ : L2.St} {H H1 : Hp} {Q : VK} {te : TE} {vs : List Nat} {j : Nat}
/-- [e for x in xs], where each element that is made shows G -/
theorem lcGo {R : Addr → Hp → Prop} {a : Addr} (xs : List V) (G : Prop) {P : Hp → Nat → V → Prop} (hP : Stays P) (hs : SqL K H1 a xs) (hz : xs.length ≤ 100000) (hw : ∀ x, wipe ((wipe σ vs).set j x) vs = wipe σ vs)
    (he : ∀ (i : Nat) x H', xs[i]? = some x → Same H1 H' → (0 < i → G) → ∀ R : VK, (∀ y H'', G → Same H' H'' → P H'' i y → R y H'') → te ((wipe σ vs).set j (some x)) H' R)
    (q : ∀ D (ys : List V) H2, H1 D = none → Same H1 H2 → H2 D = some (.lst ys) → ys.length = xs.length → (0 < xs.length → G) → (∀ k y, ys[k]? = some y → P H2 k y) → R D H2) :
    ∃ b, V.ref a = .ref b ∧ (∃ xs, SqL K H1 b xs) ∧ ∀ D, H1 D = none → ∃ W : Nat → Nat → Hp → Prop, (∃ m, W 0 m (upd H1 D (.lst []))) ∧ ∀ i m H, W i m H →
      ((Itl K b).stop i H ∧ R D H) ∨ ((Itl K b).go i H ∧ ∃ Nx : Hp → Prop, (∀ H', Nx H' → ∃ m', m' < m ∧ W (i + 1) m' H') ∧ ∀ x H', (Itl K b).yld i H x H' → gName j x (wipe σ vs) H' fun σ2 H2 => wipe σ2 vs = wipe σ vs ∧ tYes σ2 H2 fun b H3 =>
        if b = true then te σ2 H3 fun y H4 => ∃ acc, H4 D = some (.lst acc) ∧ acc.length < sizeLine ∧ Nx (upd H4 D (.lst (acc ++ [y]))) else Nx H3) := by
  refine ⟨a, rfl, ⟨xs, hs⟩, fun D hD => ?_⟩
  refine lc_list (xs := xs) (fun i H' => (0 < i → G) ∧ Same H1 H' ∧ ∃ ys : List V, H' D = some (.lst ys) ∧ ys.length = i ∧ ∀ k y, ys[k]? = some y → P H' k y) ⟨fun h => absurd h (Nat.lt_irrefl 0), same_new hD, [], upd_same, rfl, fun k y h => by simp at h⟩ (fun i H _ p => same_sqL p.2.1 hs) (fun i x H hx p => ?_) fun H p => ?_
  · obtain ⟨g, s, ys, e, hl, hp⟩ := p
    refine ⟨hw _, ?_⟩
    refine go_yes ?_
    refine iteT ?_
    refine he i x H hx s g _ fun y H4 g4 s4 hy => ?_
    have hi := (List.getElem?_eq_some_iff.mp hx).1
    have e4 := s4 _ _ e
    refine ⟨ys, e4, szlt (by omega), fun _ => g4, same_mut (s.trans s4) hD, ys ++ [y], upd_same, by simp [hl], fun k z hz => ?_⟩
    refine hP.lst _ _ ys _ _ _ e4 ?_
    rcases Nat.lt_or_ge k ys.length with h | h
    · rw [List.getElem?_append_left h] at hz
      exact hP.same _ _ _ _ s4 (hp k z hz)
    · rw [List.getElem?_append_right h] at hz
      rcases Nat.eq_or_lt_of_le h with e2 | e2
      · rw [← e2, Nat.sub_self] at hz
        cases hz
        rw [← e2, hl]
        exact hy
      · rw [List.getElem?_eq_none (by simp; omega)] at hz
        cases hz
  · obtain ⟨g, s, ys, e, hl, hp⟩ := p
    exact q D ys H hD s e hl g hp
end
theorem at_get0 {xs : List V} {x : V} (h : xs[0]? = some x) : atI xs 0 = some x := atI_nat (j := 0) h
end Gx

local macro_rules | `(tactic| walk_at "side") => `(tactic| first | decide | omega | assumption | exact Or.inl ⟨by decide, by decide⟩ | exact Or.inr ⟨by decide, by decide⟩ | exact Or.inl ⟨by omega, by omega⟩ | exact Or.inr ⟨by omega, by omega⟩ | (refine ⟨?_, ?_⟩ <;> first | decide | omega | assumption))
local macro_rules | `(tactic| walk_at "go1") => `(tactic| first
  | with_reducible refine Gx.go_seq ?_
  | with_reducible refine Gx.go_asg ?_
  | with_reducible refine Gx.go_name ?_
  | with_reducible refine Gx.go_var rfl ?_
  | with_reducible refine Gx.go_c ?_
  | with_reducible refine Gx.go_op ?_
  | with_reducible refine Gx.go_rI0 ?_
  | ((with_reducible refine Gx.go_rI ?k1 ?k2); (case k1 => walk_at "side"))
  | with_reducible refine Gx.go_test ?_
  | with_reducible refine Gx.go_if ?_
  | with_reducible refine Gx.go_cons ?_
  | with_reducible refine Gx.go_nil ?_
  | with_reducible refine Gx.go_CB ?_
  | with_reducible refine Gx.go_call ?_
  | with_reducible refine Gx.go_eqI ?_
  | with_reducible refine Gx.go_neI ?_
  | with_reducible refine Gx.go_eqS ?_
  | with_reducible refine Gx.go_neS ?_
  | with_reducible refine Gx.go_eqB ?_
  | with_reducible refine Gx.go_neB ?_
  | with_reducible refine Gx.go_eqN ?_
  | with_reducible refine Gx.ite_dt ?_
  | with_reducible refine Gx.go_ret ?_
  | with_reducible refine Gx.go_retN ?_
  | with_reducible refine Gx.go_next ?_
  | with_reducible refine Gx.go_drop ?_
  | with_reducible refine Gx.go_un ?_
  | with_reducible refine Gx.go_rU ?_
  | with_reducible refine Gx.go_and ?_
  | with_reducible refine Gx.go_or ?_
  | with_reducible refine Gx.go_not ?_
  | with_reducible refine Gx.go_andV ?_
  | with_reducible refine Gx.go_orV ?_
  | with_reducible refine Gx.go_notV ?_
  | with_reducible refine Gx.go_blA ?_
  | with_reducible refine L2.iteT ?_
  | with_reducible refine L2.iteF ?_
  | with_reducible refine Gx.ite_nt ?_
  | with_reducible refine Gx.ite_nf ?_
  | with_reducible refine Gx.go_ifE ?_
  | with_reducible refine Gx.go_chain ?_
  | with_reducible refine Gx.go_B ?_
  | with_reducible refine Gx.go_int1 ?_
  | with_reducible refine Gx.go_intB ?_
  | with_reducible refine Gx.go_lst ?_
  | with_reducible refine Gx.go_tup ?_
  | with_reducible refine Gx.go_sl ?_
  | with_reducible refine Gx.go_noPart ?_
  | with_reducible refine Gx.go_part ?_
  | with_reducible refine Gx.go_partI ?_
  | with_reducible refine Gx.isi_int_int ?_
  | with_reducible refine Gx.isi_int_bool ?_
  | with_reducible refine Gx.isi_int_str ?_
  | with_reducible refine Gx.isi_int_list ?_
  | with_reducible refine Gx.isi_int_tuple ?_
  | with_reducible refine Gx.isi_bool_int ?_
  | with_reducible refine Gx.isi_bool_bool ?_
  | with_reducible refine Gx.isi_bool_str ?_
  | with_reducible refine Gx.isi_bool_list ?_
  | with_reducible refine Gx.isi_bool_tuple ?_
  | with_reducible refine Gx.isi_str_int ?_
  | with_reducible refine Gx.isi_str_bool ?_
  | with_reducible refine Gx.isi_str_str ?_
  | with_reducible refine Gx.isi_str_list ?_
  | with_reducible refine Gx.isi_str_tuple ?_
  | with_reducible refine Gx.isi_NoneType_int ?_
  | with_reducible refine Gx.isi_NoneType_bool ?_
  | with_reducible refine Gx.isi_NoneType_str ?_
  | with_reducible refine Gx.isi_NoneType_list ?_
  | with_reducible refine Gx.isi_NoneType_tuple ?_
  | with_reducible refine Gx.go_bool1 ?_
  | with_reducible refine Gx.go_boolB ?_
  | with_reducible refine Gx.go_abs ?_
  | with_reducible refine Gx.go_max2 ?_
  | with_reducible refine Gx.go_min2 ?_
  | with_reducible refine Gx.go_ord ?_
  | with_reducible refine Gx.go_isN0 ?_
  | with_reducible refine Gx.go_isNI ?_
  | with_reducible refine Gx.go_isNS ?_
  | with_reducible refine Gx.go_isNB ?_
  | with_reducible refine Gx.go_isNR ?_
  | with_reducible refine Gx.go_notN0 ?_
  | with_reducible refine Gx.go_notNI ?_
  | with_reducible refine Gx.go_notNS ?_
  | with_reducible refine Gx.go_notNB ?_
  | with_reducible refine Gx.go_notNR ?_
  | with_reducible refine Gx.go_ltS ?_
  | with_reducible refine Gx.go_leS ?_
  | with_reducible refine Gx.go_BM ?_
  | with_reducible refine Gx.go_BM0 ?_
  | with_reducible refine Gx.go_not_t ?_
  | with_reducible refine Gx.go_not_f ?_
  | with_reducible refine Gx.go_iList ?_
  | with_reducible refine Gx.go_iRng1 ?_
  | with_reducible refine Gx.go_iRng2 ?_
  | with_reducible refine Gx.go_lc ?_
  | with_reducible refine Gx.go_for ?_
  | with_reducible refine Gx.go_sub ?_
  | with_reducible refine Gx.go_setL2 (by with_unfolding_all rfl) ?_
  | with_reducible refine Gx.go_ixL2 (by with_unfolding_all rfl) ?_
  | with_reducible refine Gx.go_setL (by assumption) (by with_unfolding_all rfl) ?_
  | with_reducible refine Gx.go_ixL1 (by assumption) (by with_unfolding_all rfl) ?_
  | with_reducible refine Gx.go_ixT1 (by assumption) (by with_unfolding_all rfl) ?_
  | with_reducible refine Gx.go_M1 ?_
  | with_reducible refine Gx.go_M0 ?_
  | with_reducible refine Gx.go_isS ?_
  | with_reducible refine Gx.go_iStr ?_
  | with_reducible refine Gx.sq_list_int (by assumption) ?_
  | with_reducible refine Gx.sq_list_bool (by assumption) ?_
  | with_reducible refine Gx.sq_list_str (by assumption) ?_
  | with_reducible refine Gx.sq_list_list (by assumption) ?_
  | with_reducible refine Gx.sq_list_tuple (by assumption) ?_
  | with_reducible refine Gx.sq_tuple_int (by assumption) ?_
  | with_reducible refine Gx.sq_tuple_bool (by assumption) ?_
  | with_reducible refine Gx.sq_tuple_str (by assumption) ?_
  | with_reducible refine Gx.sq_tuple_list (by assumption) ?_
  | with_reducible refine Gx.sq_tuple_tuple (by assumption) ?_
  | with_reducible refine Gx.go_fld ?_
  | with_reducible refine Gx.go_rnum (by assumption) (by assumption) (by assumption) ?_
  | with_reducible refine Gx.go_rden (by assumption) (by assumption) (by assumption) ?_
  | with_reducible refine Gx.go_make ?_
  | with_reducible refine Gx.go_meth ?_
  | with_reducible refine Gx.go_sfld ?_
  | with_reducible refine Gx.go_own (by assumption) (by assumption) ?_
  | with_reducible refine Gx.go_uOwn (by assumption) ?_
  | with_reducible refine Gx.go_gcons ?_
  | with_reducible refine Gx.go_gnil ?_
  | with_reducible refine Gx.go_brk ?_
  | with_reducible refine Gx.go_cont ?_)
local macro_rules | `(tactic| walk_at "go") => `(tactic| repeat walk_at "go1")
local macro_rules | `(tactic| walk_at "br") => `(tactic| first
  | with_reducible refine Gx.ite_d ?_ ?_
  | with_reducible refine Gx.ite_nd ?_ ?_
  | with_reducible refine Gx.ite_b ?_ ?_)
local macro_rules | `(tactic| walk_at "go1") => `(tactic| first
  | with_reducible refine Gx.go_raise ?_
  | with_reducible refine Gx.go_callSD ?_
  | with_reducible refine Gx.go_methSD ?_
  | with_reducible refine Gx.go_makeSD ?_
  | with_reducible refine Gx.go_xf ?_)
namespace K05
open PySem PySem.Spec PyProof.Rows L2 Gx
def top (i : Nat) : Stmt := PySem.Challenge.pw_sureplay_k05_lists_of_ratios.main.body.getD i (.Pass ⟨0, 0, 0, 0⟩)
abbrev s_Ratio___init__ : Stmt := inClass (top 6) 0
abbrev s_Ratio___add__ : Stmt := inClass (top 6) 2
abbrev s_Ratio_over : Stmt := inClass (top 6) 9
abbrev s_Ratio_below : Stmt := inClass (top 6) 10
abbrev s_total : Stmt := top 7
abbrev s_least : Stmt := top 8
abbrev s_greatest : Stmt := top 9
abbrev s_shares : Stmt := top 10
abbrev s__law_is_integer : Stmt := top 13
abbrev s__law_gcd : Stmt := top 14
abbrev s__law_is_ratio : Stmt := top 15
abbrev s__law_same : Stmt := top 18
abbrev s__law_shares : Stmt := top 19
abbrev s_law : Stmt := top 20
/-- where the defs and classes stand -/
structure Ad where
  f_Ratio___init__ : Addr
  d_Ratio___init__ : FuncData
  f_Ratio___add__ : Addr
  d_Ratio___add__ : FuncData
  f_Ratio_over : Addr
  d_Ratio_over : FuncData
  f_Ratio_below : Addr
  d_Ratio_below : FuncData
  f_total : Addr
  d_total : FuncData
  f_least : Addr
  d_least : FuncData
  f_greatest : Addr
  d_greatest : FuncData
  f_shares : Addr
  d_shares : FuncData
  f__law_is_integer : Addr
  d__law_is_integer : FuncData
  f__law_gcd : Addr
  d__law_gcd : FuncData
  f__law_is_ratio : Addr
  d__law_is_ratio : FuncData
  f__law_same : Addr
  d__law_same : FuncData
  f__law_shares : Addr
  d__law_shares : FuncData
  f_law : Addr
  d_law : FuncData
  c_Ratio : Addr
  c_BadRatio : Addr
  i_BadRatio : Addr
/-- what the top has left -/
structure Txt (P : Program) (K : PySem.W.Frag) (mg : Str → Option Value) (A : Ad) : Prop where
  F_Ratio___init__ : FunD K "__init__" "Ratio.__init__" (defArgs s_Ratio___init__) (defBody s_Ratio___init__) (defScope s_Ratio___init__) [V.int 1] [] A.f_Ratio___init__ A.d_Ratio___init__
  b_Ratio___init___0 : ∃ ds, Vals [] ds ∧ Binds K A.d_Ratio___init__ ["self", "num", "den"] ds
  b_Ratio___init___1 : ∃ ds, Vals [V.int 1] ds ∧ Binds K A.d_Ratio___init__ ["self", "num", "den"] ds
  mk_Ratio : Mk K A.c_Ratio A.f_Ratio___init__
  F_Ratio___add__ : Fun K "__add__" "Ratio.__add__" s_Ratio___add__ A.f_Ratio___add__ A.d_Ratio___add__
  b_Ratio___add__ : Binds K A.d_Ratio___add__ ["self", "other"] []
  me_Ratio___add__ : Meth K A.c_Ratio "__add__" A.f_Ratio___add__
  F_Ratio_over : Fun K "over" "Ratio.over" s_Ratio_over A.f_Ratio_over A.d_Ratio_over
  b_Ratio_over : Binds K A.d_Ratio_over ["self", "other"] []
  me_Ratio_over : Meth K A.c_Ratio "over" A.f_Ratio_over
  F_Ratio_below : Fun K "below" "Ratio.below" s_Ratio_below A.f_Ratio_below A.d_Ratio_below
  b_Ratio_below : Binds K A.d_Ratio_below ["self", "other"] []
  me_Ratio_below : Meth K A.c_Ratio "below" A.f_Ratio_below
  F_total : Fun K "total" "total" s_total A.f_total A.d_total
  b_total : Binds K A.d_total ["ratios"] []
  m_total : mg "total" = some (.ref A.f_total)
  F_least : Fun K "least" "least" s_least A.f_least A.d_least
  b_least : Binds K A.d_least ["ratios"] []
  m_least : mg "least" = some (.ref A.f_least)
  F_greatest : Fun K "greatest" "greatest" s_greatest A.f_greatest A.d_greatest
  b_greatest : Binds K A.d_greatest ["ratios"] []
  m_greatest : mg "greatest" = some (.ref A.f_greatest)
  F_shares : Fun K "shares" "shares" s_shares A.f_shares A.d_shares
  b_shares : Binds K A.d_shares ["ratios"] []
  m_shares : mg "shares" = some (.ref A.f_shares)
  F__law_is_integer : Fun K "_law_is_integer" "_law_is_integer" s__law_is_integer A.f__law_is_integer A.d__law_is_integer
  b__law_is_integer : Binds K A.d__law_is_integer ["_law_actual"] []
  m__law_is_integer : mg "_law_is_integer" = some (.ref A.f__law_is_integer)
  F__law_gcd : Fun K "_law_gcd" "_law_gcd" s__law_gcd A.f__law_gcd A.d__law_gcd
  b__law_gcd : Binds K A.d__law_gcd ["_law_a", "_law_b"] []
  m__law_gcd : mg "_law_gcd" = some (.ref A.f__law_gcd)
  F__law_is_ratio : Fun K "_law_is_ratio" "_law_is_ratio" s__law_is_ratio A.f__law_is_ratio A.d__law_is_ratio
  b__law_is_ratio : Binds K A.d__law_is_ratio ["_law_actual", "_law_num", "_law_den"] []
  m__law_is_ratio : mg "_law_is_ratio" = some (.ref A.f__law_is_ratio)
  F__law_same : Fun K "_law_same" "_law_same" s__law_same A.f__law_same A.d__law_same
  b__law_same : Binds K A.d__law_same ["_law_left", "_law_right"] []
  m__law_same : mg "_law_same" = some (.ref A.f__law_same)
  F__law_shares : Fun K "_law_shares" "_law_shares" s__law_shares A.f__law_shares A.d__law_shares
  b__law_shares : Binds K A.d__law_shares ["_law_ratios", "_law_nums"] []
  m__law_shares : mg "_law_shares" = some (.ref A.f__law_shares)
  F_law : Fun K "law" "law" s_law A.f_law A.d_law
  b_law : Binds K A.d_law ["_law_script"] []
  m_law : mg "law" = some (.ref A.f_law)
  m_Ratio : mg "Ratio" = some (.ref A.c_Ratio)
  cl_Ratio : Cls K A.c_Ratio
  na_Ratio_num : NoAttr K A.c_Ratio "num"
  na_Ratio_den : NoAttr K A.c_Ratio "den"
  ic_Ratio : C8.InsC K A.c_Ratio
  so_Ratio : PySem.W.selfFirst K A.c_Ratio = true
  nf_Ratio : PySem.W.notFirst K A.c_Ratio (.ref A.c_Ratio) = true
  m_BadRatio : mg "BadRatio" = some (.ref A.c_BadRatio)
  er_BadRatio : ErX.ErrT P K mg A.c_BadRatio A.i_BadRatio "value" "value"
  xf_BadRatio : XfC K A.c_BadRatio
  te_BadRatio : PySem.W.exmOne K (.ref A.c_BadRatio) (.ref A.c_BadRatio) = some true
  g_gcd : mg "gcd" = some (.builtin "math.gcd")
  n_isinstance : mg "isinstance" = none
  n_str : mg "str" = none
  n_len : mg "len" = none
  n_int : mg "int" = none
  n_bool : mg "bool" = none
  n_abs : mg "abs" = none
  n_range : mg "range" = none
  n_sum : mg "sum" = none
  n_list : mg "list" = none
  n_min : mg "min" = none
  n_max : mg "max" = none
theorem sc_Ratio___init__ : FnScope ["self", "num", "den", "part"] ["self", "num", "den"] (defScope s_Ratio___init__) := ⟨rfl, rfl, rfl, by decide +kernel, rfl, by decide +kernel, by decide +kernel⟩
theorem sc_Ratio___add__ : FnScope ["self", "other"] ["self", "other"] (defScope s_Ratio___add__) := ⟨rfl, rfl, rfl, by decide +kernel, rfl, by decide +kernel, by decide +kernel⟩
theorem sc_Ratio_over : FnScope ["self", "other"] ["self", "other"] (defScope s_Ratio_over) := ⟨rfl, rfl, rfl, by decide +kernel, rfl, by decide +kernel, by decide +kernel⟩
theorem sc_Ratio_below : FnScope ["self", "other"] ["self", "other"] (defScope s_Ratio_below) := ⟨rfl, rfl, rfl, by decide +kernel, rfl, by decide +kernel, by decide +kernel⟩
theorem sc_total : FnScope ["ratios", "result", "ratio"] ["ratios"] (defScope s_total) := ⟨rfl, rfl, rfl, by decide +kernel, rfl, by decide +kernel, by decide +kernel⟩
theorem sc_least : FnScope ["ratios", "result", "ratio"] ["ratios"] (defScope s_least) := ⟨rfl, rfl, rfl, by decide +kernel, rfl, by decide +kernel, by decide +kernel⟩
theorem sc_greatest : FnScope ["ratios", "result", "ratio"] ["ratios"] (defScope s_greatest) := ⟨rfl, rfl, rfl, by decide +kernel, rfl, by decide +kernel, by decide +kernel⟩
theorem sc_shares : FnScope ["ratios", "whole", "ratio"] ["ratios"] (defScope s_shares) := ⟨rfl, rfl, rfl, by decide +kernel, rfl, by decide +kernel, by decide +kernel⟩
theorem sc__law_is_integer : FnScope ["_law_actual"] ["_law_actual"] (defScope s__law_is_integer) := ⟨rfl, rfl, rfl, by decide +kernel, rfl, by decide +kernel, by decide +kernel⟩
theorem sc__law_gcd : FnScope ["_law_a", "_law_b", "_law_k", "_law_c"] ["_law_a", "_law_b"] (defScope s__law_gcd) := ⟨rfl, rfl, rfl, by decide +kernel, rfl, by decide +kernel, by decide +kernel⟩
theorem sc__law_is_ratio : FnScope ["_law_actual", "_law_num", "_law_den", "_law_part"] ["_law_actual", "_law_num", "_law_den"] (defScope s__law_is_ratio) := ⟨rfl, rfl, rfl, by decide +kernel, rfl, by decide +kernel, by decide +kernel⟩
theorem sc__law_same : FnScope ["_law_left", "_law_right", "_law_k"] ["_law_left", "_law_right"] (defScope s__law_same) := ⟨rfl, rfl, rfl, by decide +kernel, rfl, by decide +kernel, by decide +kernel⟩
theorem sc__law_shares : FnScope ["_law_ratios", "_law_nums", "_law_whole", "_law_actual", "e", "_law_k"] ["_law_ratios", "_law_nums"] (defScope s__law_shares) := ⟨rfl, rfl, rfl, by decide +kernel, rfl, by decide +kernel, by decide +kernel⟩
theorem sc_law : FnScope ["_law_script", "_law_nums", "_law_ratios", "_law_cell_here", "_law_num", "_law_den", "_law_kept", "_law_low", "_law_high", "_law_ratio"] ["_law_script"] (defScope s_law) := ⟨rfl, rfl, rfl, by decide +kernel, rfl, by decide +kernel, by decide +kernel⟩

theorem lt_scale {x y u : Int} (h : 0 < u) : x * u < y * u ↔ x < y := ⟨fun z => Int.lt_of_mul_lt_mul_right z (Int.le_of_lt h), fun z => Int.mul_lt_mul_of_pos_right z h⟩
theorem le_scale {x y u : Int} (h : 0 < u) : x * u ≤ y * u ↔ x ≤ y := ⟨fun z => Int.le_of_mul_le_mul_right z h, fun z => Int.mul_le_mul_of_nonneg_right z (Int.le_of_lt h)⟩
theorem r_cross2 {a b c d : Int} (hb : 0 < b) (hd : 0 < d) : rN a b * rD c d * (b * d) = a * d * (rD a b * rD c d) ∧ rN c d * rD a b * (b * d) = c * b * (rD a b * rD c d) ∧ 0 < b * d ∧ 0 < rD a b * rD c d := by
  have c1 := r_cross (a := a) (b := b) (by omega)
  have c2 := r_cross (a := c) (b := d) (by omega)
  have p1 := rD_pos (a := a) (b := b) (by omega)
  have p2 := rD_pos (a := c) (b := d) (by omega)
  refine ⟨?_, ?_, Int.mul_pos hb hd, Int.mul_pos p1 p2⟩
  · calc rN a b * rD c d * (b * d) = (rN a b * b) * (rD c d * d) := by ac_rfl
      _ = (a * rD a b) * (rD c d * d) := by rw [c1]
      _ = a * d * (rD a b * rD c d) := by ac_rfl
  · calc rN c d * rD a b * (b * d) = (rN c d * d) * (rD a b * b) := by ac_rfl
      _ = (c * rD c d) * (rD a b * b) := by rw [c2]
      _ = c * b * (rD a b * rD c d) := by ac_rfl
theorem r_lt {a b c d : Int} (hb : 0 < b) (hd : 0 < d) : rN a b * rD c d < rN c d * rD a b ↔ a * d < c * b := by
  obtain ⟨e1, e2, p1, p2⟩ := r_cross2 (a := a) (c := c) hb hd
  rw [← lt_scale p1, e1, e2, lt_scale p2]
theorem r_le {a b c d : Int} (hb : 0 < b) (hd : 0 < d) : rN a b * rD c d ≤ rN c d * rD a b ↔ a * d ≤ c * b := by
  obtain ⟨e1, e2, p1, p2⟩ := r_cross2 (a := a) (c := c) hb hd
  rw [← le_scale p1, e1, e2, le_scale p2]
theorem r_eq {a b c d : Int} (hb : 0 < b) (hd : 0 < d) : (rN a b = rN c d ∧ rD a b = rD c d) ↔ a * d = c * b := by
  constructor
  · rintro ⟨e1, e2⟩
    obtain ⟨x1, x2, p1, p2⟩ := r_cross2 (a := a) (c := c) hb hd
    have h : a * d * (rD a b * rD c d) = c * b * (rD a b * rD c d) := by rw [← x1, ← x2, e1, e2]
    exact Int.eq_of_mul_eq_mul_right (by omega) h
  · intro h
    exact r_congr (by omega) (by omega) h

/-- n over 27720, in lowest terms -/
def rz (n : Int) : Int × Int := (rN n 27720, rD n 27720)
theorem rz_at {ns : List Int} {i : Nat} {r : Int × Int} (h : (ns.map rz)[i]? = some r) : ∃ n, ns[i]? = some n ∧ r = rz n := by
  rw [List.getElem?_map] at h
  cases e : ns[i]? with
  | none => rw [e] at h; cases h
  | some n => rw [e] at h; cases h; exact ⟨n, rfl, rfl⟩
theorem rz_pos (n : Int) : 0 < rD n 27720 := rD_pos (by decide)
theorem rz_wide {n : Int} (h : n.natAbs < 2 ^ 100) : (rN n 27720).natAbs < 2 ^ 4000 ∧ (rD n 27720).natAbs < 2 ^ 4000 :=
  ⟨p_mono (Nat.lt_of_le_of_lt (rN_le n 27720 (by decide)) h) (by decide), p_mono (Nat.lt_of_le_of_lt (rD_le n 27720 (by decide)) (show (27720 : Int).natAbs < 2 ^ 100 by decide)) (by decide)⟩
theorem rz_zero : rN 0 27720 = 0 ∧ rD 0 27720 = 1 := by decide +kernel
theorem rz_ne {n : Int} : rN n 27720 = 0 ↔ n = 0 := by
  have c := r_cross (a := n) (b := 27720) (by decide)
  have p := rz_pos n
  constructor
  · intro h
    rw [h, Int.zero_mul] at c
    rcases Int.mul_eq_zero.mp c.symm with z | z
    · exact z
    · omega
  · rintro rfl
    exact rz_zero.1
theorem rz_add (s n : Int) : rN (rN s 27720 * rD n 27720 + rN n 27720 * rD s 27720) (rD s 27720 * rD n 27720) = rN (s + n) 27720 ∧ rD (rN s 27720 * rD n 27720 + rN n 27720 * rD s 27720) (rD s 27720 * rD n 27720) = rD (s + n) 27720 := by
  have h := r_add (a := s) (b := 27720) (c := n) (d := 27720) (by decide) (by decide)
  have k := r_congr (a := s * 27720 + n * 27720) (b := 27720 * 27720) (a' := s + n) (b' := 27720) (by decide) (by decide) (by omega)
  exact ⟨h.1.trans k.1, h.2.trans k.2⟩
theorem rz_over {s n : Int} (h : s ≠ 0) : rN (rN n 27720 * rD s 27720) (rD n 27720 * rN s 27720) = rN n s ∧ rD (rN n 27720 * rD s 27720) (rD n 27720 * rN s 27720) = rD n s := by
  have p1 := rz_pos n
  have c1 := r_cross (a := n) (b := 27720) (by decide)
  have c2 := r_cross (a := s) (b := 27720) (by decide)
  have n2 : rN s 27720 ≠ 0 := fun z => h (rz_ne.mp z)
  refine r_congr (Int.mul_ne_zero (by omega) n2) h ?_
  generalize rN n 27720 = a at *
  generalize rD n 27720 = b at *
  generalize rN s 27720 = c at *
  generalize rD s 27720 = d at *
  have e : a * d * s * 27720 = n * (b * c) * 27720 := by
    calc a * d * s * 27720 = (a * 27720) * (s * d) := by ac_rfl
      _ = (n * b) * (c * 27720) := by rw [c1, ← c2]
      _ = n * (b * c) * 27720 := by ac_rfl
  exact Int.eq_of_mul_eq_mul_right (by decide) e
theorem rz_lt (n m : Int) : rN n 27720 * rD m 27720 < rN m 27720 * rD n 27720 ↔ n < m := by
  rw [r_lt (a := n) (c := m) (by decide) (by decide)]
  omega
theorem rz_of {a b : Int} (h1 : 1 ≤ b) (h2 : b ≤ 12) : rN a b = rN (a * (27720 / b)) 27720 ∧ rD a b = rD (a * (27720 / b)) 27720 := by
  refine r_congr (by omega) (by decide) ?_
  have e : 27720 / b * b = 27720 := by
    obtain rfl | rfl | rfl | rfl | rfl | rfl | rfl | rfl | rfl | rfl | rfl | rfl : b = 1 ∨ b = 2 ∨ b = 3 ∨ b = 4 ∨ b = 5 ∨ b = 6 ∨ b = 7 ∨ b = 8 ∨ b = 9 ∨ b = 10 ∨ b = 11 ∨ b = 12 := by omega
    all_goals rfl
  rw [Int.mul_assoc, e]
theorem ite_ndtI {a : Int} {A B : Prop} (k : B) : if (!decide (a = a)) = true then A else B := by rw [decide_eq_true rfl]; exact k
theorem ite_ndtZ {a b : Int} {A B : Prop} (h : a = b) (k : B) : if (!decide (a = b)) = true then A else B := by rw [decide_eq_true h]; exact k
theorem _root_.Gx.RatsAt.lst2 {C : Addr} {H : Hp} {xs : List V} {rs : List (Int × Int)} {D : Addr} {zs zs' : List V} (h : RatsAt C H xs rs) (eD : H D = some (.lst zs)) : RatsAt C (upd H D (.lst zs')) xs rs :=
  ⟨h.1, fun i x r a b => let ⟨p, dx, e, k⟩ := h.2 i x r a b; ⟨p, dx, e, by rw [upd_ne (ne_of k eD (by intro z; cases z))]; exact k⟩⟩
theorem first_int : ∀ (ns : List Int) (m : Int), m ∈ ns → ∃ j : Nat, ns[j]? = some m ∧ ∀ k : Nat, k < j → ns[k]? ≠ some m
  | [], _, h => nomatch h
  | n :: r, m, h => by
    by_cases e : n = m
    · exact ⟨0, by rw [e]; rfl, fun k hk => nomatch hk⟩
    · have hm : m ∈ r := by
        rcases List.mem_cons.mp h with z | z
        · exact absurd z.symm e
        · exact z
      obtain ⟨j, h1, h2⟩ := first_int r m hm
      refine ⟨j + 1, h1, fun k hk => ?_⟩
      cases k with
      | zero => exact fun z => e (Option.some.inj z)
      | succ k => exact h2 k (by omega)
theorem go_indexI {K : PySem.W.Frag} {H : Hp} {Q : VK} {a : Addr} {ns : List Int} {m : Int} (hs : SqL K H a (ns.map V.int)) (hm : m ∈ ns) (q : ∀ j : Nat, ns[j]? = some m → Q (.int (j : Nat)) H) : rIndex K (.ref a) [.int m] H Q := by
  obtain ⟨j, h1, h2⟩ := first_int ns m hm
  refine ⟨a, ns.map V.int, .int m, j, .int m, rfl, rfl, hs, rfl, ?_, by rw [List.getElem?_map, h1]; rfl, ?_, fun k z' hk hz => ?_, q j h1⟩
  · rw [List.all_map]
    exact List.all_eq_true.mpr fun _ _ => rfl
  · simp [eqV]
  · rw [List.getElem?_map] at hz
    cases e : ns[k]? with
    | none => rw [e] at hz; cases hz
    | some n =>
      rw [e] at hz
      cases hz
      have : n ≠ m := fun z => h2 k hk (by rw [e, z])
      simp [eqV, this]
theorem stays_pair {ns : List Int} : Stays fun H k y => ∃ n t, ns[k]? = some n ∧ y = .ref t ∧ H t = some (.tup [.int (rN n 27720), .int (rD n 27720)]) :=
  ⟨fun H H' k y s ⟨n, t, a, b, c⟩ => ⟨n, t, a, b, s _ _ c⟩, fun H D zs zs' k y e ⟨n, t, a, b, c⟩ => ⟨n, t, a, b, by rw [upd_ne (ne_of c e (by intro z; cases z))]; exact c⟩⟩
theorem sum_small {ns : List Int} (h : ∀ n ∈ ns, n.natAbs < 2 ^ 20) : ns.sum.natAbs ≤ ns.length * 2 ^ 20 := by
  induction ns with
  | nil => decide
  | cons n r ih =>
    have h1 := h n List.mem_cons_self
    have h2 := ih fun x hx => h x (List.mem_cons_of_mem _ hx)
    rw [List.sum_cons, List.length_cons]
    omega
theorem sum_small2 {ns : List Int} (h : ∀ n ∈ ns, n.natAbs < 2 ^ 20) (hl : ns.length ≤ 70) : ns.sum.natAbs < 2 ^ 100 := by
  have := sum_small h
  have e : (2 : Nat) ^ 20 * 71 < 2 ^ 100 := by decide
  omega
theorem take_sum {ns : List Int} {i : Nat} {n : Int} (h : ns[i]? = some n) : (ns.take (i + 1)).sum = (ns.take i).sum + n := by
  rw [List.take_add_one, h]
  simp
theorem take_small {ns : List Int} (h : ∀ n ∈ ns, n.natAbs < 2 ^ 20) (i : Nat) : ∀ n ∈ ns.take i, n.natAbs < 2 ^ 20 := fun n hn => h n (List.mem_of_mem_take hn)
theorem take_len {ns : List Int} (hl : ns.length ≤ 70) (i : Nat) : (ns.take i).length ≤ 70 := by rw [List.length_take]; omega

end K05
namespace K05
open PySem PySem.Spec PyProof.Rows L2 Gx
section
variable {P : Program} {w : World} {K : PySem.W.Frag} {mg : Str → Option Value} {base : Heap} {A : Ad}
def sp_Ratio_below (C : Addr) : Sp := fun vs H Q _ => ∃ (x y dx dy : Addr) (a b c d : Int), vs = [.ref x, .ref y] ∧ H x = some (.ins C dx (rf a b)) ∧ H y = some (.ins C dy (rf c d)) ∧ a.natAbs < 2 ^ 4000 ∧ b.natAbs < 2 ^ 4000 ∧ c.natAbs < 2 ^ 4000 ∧ d.natAbs < 2 ^ 4000 ∧ Q (.bl (decide (a * d < c * b))) H
theorem G_Ratio_below (T : Txt P K mg A) : FnOk P w K mg base CX0 1 A.f_Ratio_below A.d_Ratio_below ["self", "other"] (sp_Ratio_below A.c_Ratio) := by
  refine (T.F_Ratio_below.ok (k := 0) sc_Ratio_below (fun vs H Q E h => ?_) (fun cdv Ar outer s H vs Q E hr h => ?_))
  · obtain ⟨x, y, dx, dy, a, b, c, d, rfl, _⟩ := h
    rfl
  · obtain ⟨x, y, dx, dy, a, b, c, d, rfl, hx, hy, za, zb, zc, zd, q⟩ := h
    have cl := T.cl_Ratio
    have n1 := T.na_Ratio_num
    have n2 := T.na_Ratio_den
    refine ⟨_, (pss_one (ps_ret (pe_cmpR op_lt (pe_op op_mulW (pe_fld (pv 0) rfl) (pe_fld (pv 1) rfl)) (pe_op op_mulW (pe_fld (pv 1) rfl) (pe_fld (pv 0) rfl)) (nomark _)))), ?_⟩
    try dsimp only [cxOf, Cx.nox, Cx.wish]
    have wm : ∀ {i j : Int}, i.natAbs < 2 ^ 4000 → j.natAbs < 2 ^ 4000 → CMulW i j := fun h1 h2 => wide_mul h1 h2 (by decide) (by decide) (by decide)
    walk_at "go"
    refine go_rI (wm (by assumption) (by assumption)) ?_
    walk_at "go"
    refine go_rI (wm (by assumption) (by assumption)) ?_
    walk_at "go"
    exact q
end
end K05

namespace K05
open PySem PySem.Spec PyProof.Rows L2 Gx
section
variable {P : Program} {w : World} {K : PySem.W.Frag} {mg : Str → Option Value} {base : Heap} {A : Ad}
def sp__law_is_integer (K : PySem.W.Frag) : Sp := fun vs H Q _ => ∃ (k : Int), vs = [.int k] ∧ Q (.bl true) H
theorem G__law_is_integer (T : Txt P K mg A) : FnOk P w K mg base CX0 1 A.f__law_is_integer A.d__law_is_integer ["_law_actual"] (sp__law_is_integer K) := by
  refine (T.F__law_is_integer.ok (k := 0) sc__law_is_integer (fun vs H Q E h => ?_) (fun cdv Ar outer s H vs Q E hr h => ?_))
  · obtain ⟨k, rfl, _⟩ := h
    rfl
  · obtain ⟨k, rfl, q⟩ := h
    refine ⟨_, (pss_one (ps_ret (pe_and (pe_callB call_isi (by rfl) T.n_isinstance (by decide +kernel) (pa_cons (pv 0) (pa_cons (pe_bltn (v := .ty "int") (by rfl) T.n_int (by decide +kernel) rfl) pa_nil))) (pe_one (pe_not (pe_callB call_isi (by rfl) T.n_isinstance (by decide +kernel) (pa_cons (pv 0) (pa_cons (pe_bltn (v := .ty "bool") (by rfl) T.n_bool (by decide +kernel) rfl) pa_nil)))))))), ?_⟩
    try dsimp only [cxOf, Cx.nox, Cx.wish]
    walk_at "go"
    exact q
theorem M__law_is_integer (T : Txt P K mg A) : FnM P w K mg base 1 A.f__law_is_integer A.d__law_is_integer ["_law_actual"] (sp__law_is_integer K) := by
  refine (Gx.Fun.okM T.F__law_is_integer (k := 0) sc__law_is_integer (fun vs H Q E h => ?_) (fun cdv Ar outer s H vs Q hr h => ?_))
  · obtain ⟨k, rfl, _⟩ := h
    rfl
  · obtain ⟨k, rfl, q⟩ := h
    refine ⟨_, (pss_one (ps_ret (pe_and (pe_callB call_isi (by rfl) T.n_isinstance (by decide +kernel) (pa_cons (pv 0) (pa_cons (pe_bltn (v := .ty "int") (by rfl) T.n_int (by decide +kernel) rfl) pa_nil))) (pe_one (pe_not (pe_callB call_isi (by rfl) T.n_isinstance (by decide +kernel) (pa_cons (pv 0) (pa_cons (pe_bltn (v := .ty "bool") (by rfl) T.n_bool (by decide +kernel) rfl) pa_nil)))))))), ?_⟩
    try dsimp only [cxM, cxOf, Cx.nox, Cx.wish]
    walk_at "go"
    exact q
end
end K05

namespace K05
open PySem PySem.Spec PyProof.Rows L2 Gx
section
variable {P : Program} {w : World} {K : PySem.W.Frag} {mg : Str → Option Value} {base : Heap} {A : Ad}
theorem abs_eq (a : Int) : (if a < 0 then -a else a) = (a.natAbs : Int) := by split <;> omega
/-- between two turns of Euclid's loop -/
structure Euc (a b : Int) (i : Nat) (x y : Int) : Prop where
  x0 : 0 ≤ x
  y0 : 0 ≤ y
  g : Int.gcd x y = Int.gcd a b
  m : i = 0 ∨ (0 < i ∧ y < x ∧ x * y * 2 ^ (i - 1) < 2 ^ 3000)
theorem Euc.step {a b : Int} {i : Nat} {x y : Int} (h : Euc a b i x y) (ha : a.natAbs < 2 ^ 1500) (hb : b.natAbs < 2 ^ 1500) (hi : i = 0 → x = (a.natAbs : Int) ∧ y = (b.natAbs : Int)) (hy : y ≠ 0) : Euc a b (i + 1) y (x % y) := by
  have hy1 : 0 < y := by have := h.y0; omega
  have h1 : 0 ≤ x % y := Int.emod_nonneg _ hy
  have h2 : x % y < y := Int.emod_lt_of_pos _ hy1
  refine ⟨h.y0, h1, by rw [gcd_step h.x0 hy1]; exact h.g, .inr ⟨Nat.succ_pos i, h2, ?_⟩⟩
  rw [Nat.add_sub_cancel]
  rcases h.m with e | ⟨k0, k1, k2⟩
  · obtain ⟨rfl, rfl⟩ := hi e
    subst e
    rw [Int.pow_zero, Int.mul_one]
    have hb' : (b.natAbs : Int) < 2 ^ 1500 := by exact_mod_cast hb
    calc (b.natAbs : Int) * ((a.natAbs : Int) % (b.natAbs : Int)) ≤ (b.natAbs : Int) * (b.natAbs : Int) := Int.mul_le_mul_of_nonneg_left (by omega) (by omega)
      _ ≤ 2 ^ 1500 * (b.natAbs : Int) := Int.mul_le_mul_of_nonneg_right (by omega) (by omega)
      _ < 2 ^ 1500 * 2 ^ 1500 := Int.mul_lt_mul_of_pos_left hb' (Int.pow_pos (by decide))
      _ = 2 ^ 3000 := by rw [← Int.pow_add]
  · have d := euclid_drop hy1 k1
    have e : (2 : Int) ^ i = 2 * 2 ^ (i - 1) := by
      obtain ⟨j, rfl⟩ : ∃ j, i = j + 1 := ⟨i - 1, by omega⟩
      rw [Nat.add_sub_cancel, Int.pow_succ, Int.mul_comm]
    have hp : (0 : Int) ≤ 2 ^ (i - 1) := Int.le_of_lt (Int.pow_pos (by decide))
    calc y * (x % y) * 2 ^ i = 2 * (y * (x % y)) * 2 ^ (i - 1) := by rw [e]; ac_rfl
      _ ≤ x * y * 2 ^ (i - 1) := Int.mul_le_mul_of_nonneg_right d hp
      _ < 2 ^ 3000 := k2
theorem Euc.done {a b : Int} {x y : Int} (h : Euc a b 4000 x y) : y = 0 := by
  rcases h.m with e | ⟨k0, k1, k2⟩
  · omega
  · have hy := h.y0
    by_cases q : y = 0
    · exact q
    · exfalso
      have h1 : 1 ≤ x * y := by
        have : 1 * 1 ≤ x * y := Int.mul_le_mul (by omega) (by omega) (by omega) (by omega)
        omega
      have h2 : (2 : Int) ^ 3000 ≤ 2 ^ (4000 - 1) := by
        have := Nat.pow_le_pow_right (n := 2) (by decide) (show 3000 ≤ 4000 - 1 by decide)
        exact_mod_cast this
      have h3 : 1 * (2 : Int) ^ (4000 - 1) ≤ x * y * 2 ^ (4000 - 1) := Int.mul_le_mul_of_nonneg_right h1 (Int.le_of_lt (Int.pow_pos (by decide)))
      omega
def sp__law_gcd (K : PySem.W.Frag) : Sp := fun vs H Q _ => ∃ (a b : Int), vs = [.int a, .int b] ∧ a.natAbs < 2 ^ 1500 ∧ b.natAbs < 2 ^ 1500 ∧ Q (.int (Int.gcd a b : Int)) H
theorem G__law_gcd (T : Txt P K mg A) : FnOk P w K mg base CX0 1 A.f__law_gcd A.d__law_gcd ["_law_a", "_law_b"] (sp__law_gcd K) := by
  refine (T.F__law_gcd.ok (k := 0) sc__law_gcd (fun vs H Q E h => ?_) (fun cdv Ar outer s H vs Q E hr h => ?_))
  · obtain ⟨a, b, rfl, _⟩ := h
    rfl
  · obtain ⟨a, b, rfl, ha, hb, q⟩ := h
    refine ⟨_, (pss_cons (ps_set (i := 0) sc__law_gcd.nd rfl (Or.inl rfl) (pe_callB k_abs (by rfl) T.n_abs (by decide +kernel) (pa_cons (pv 0) pa_nil)))
      (pss_cons (ps_set (i := 1) sc__law_gcd.nd rfl (Or.inl rfl) (pe_callB k_abs (by rfl) T.n_abs (by decide +kernel) (pa_cons (pv 1) pa_nil)))
      (pss_cons (ps_for PassesOwn.never rfl (pi_range1 rfl T.n_range (pa_cons pe_int pa_nil)) (pg_name (i := 2) sc__law_gcd.nd rfl (Or.inl rfl))
        (pss_cons (ps_if (pt_cmpR op_eq (pv 1) pe_int (nomark _))
        (pss_one (ps_ret (pv 0)))
        pss_nil)
      (pss_cons (ps_set (i := 3) sc__law_gcd.nd rfl (Or.inl rfl) (pe_op op_mod (pe_callTy k_int1 (by rfl) T.n_int (by decide +kernel) (pa_cons (pv 0) pa_nil)) (pv 1)))
      (pss_cons (ps_set (i := 0) sc__law_gcd.nd rfl (Or.inl rfl) (pv 1))
      (pss_one (ps_set (i := 1) sc__law_gcd.nd rfl (Or.inl rfl) (pv 3)))))))
      (pss_one (ps_ret (pv 0)))))), ?_⟩
    try dsimp only [cxOf, Cx.nox, Cx.wish]
    walk_at "go"
    rw [abs_eq, abs_eq]
    refine foR1 (fun i σ' H' => ∃ (x y : Int) (u v : Option V), σ' = [some (.int x), some (.int y), u, v] ∧ H' = H ∧ Euc a b i x y ∧ (i = 0 → x = (a.natAbs : Int) ∧ y = (b.natAbs : Int))) (by decide)
      ⟨_, _, _, _, rfl, rfl, ⟨by omega, by omega, by simp [Int.gcd], .inl rfl⟩, fun _ => ⟨rfl, rfl⟩⟩ ?_ ?_
    · rintro i σ' H' hi ⟨x, y, u, v, rfl, rfl, e, e0⟩
      walk_at "go"
      walk_at "br"
      · intro h
        walk_at "go"
        have := e.g
        rw [h, Int.gcd_zero_right] at this
        have hx : x = (Int.gcd a b : Int) := by
          have := e.x0
          omega
        rw [hx]
        exact q
      · intro h
        have hy := e.y0
        walk_at "go"
        exact ⟨_, _, _, _, rfl, rfl, e.step ha hb e0 h, fun h => by omega⟩
    · rintro σ' H' ⟨x, y, u, v, rfl, rfl, e, _⟩
      walk_at "go"
      have hy := Euc.done e
      have := e.g
      rw [hy, Int.gcd_zero_right] at this
      have hx : x = (Int.gcd a b : Int) := by
        have := e.x0
        omega
      rw [hx]
      exact q
end
end K05

namespace K05
open PySem PySem.Spec PyProof.Rows L2 Gx
section
variable {P : Program} {w : World} {K : PySem.W.Frag} {mg : Str → Option Value} {base : Heap} {A : Ad}
def sp__law_same (K : PySem.W.Frag) (C : Addr) : Sp := fun vs H Q _ => ∃ (l l2 : Addr) (ts xs : List V) (ns : List Int), vs = [.ref l, .ref l2] ∧ SqL K H l ts ∧ (ts.length = ns.length ∧ ∀ (k : Nat) y, ts[k]? = some y → ∃ n t, ns[k]? = some n ∧ y = .ref t ∧ H t = some (.tup [.int (rN n 27720), .int (rD n 27720)])) ∧ SqL K H l2 xs ∧ RatsAt C H xs (ns.map rz) ∧ ns.length ≤ 70 ∧ Q (.bl true) H
theorem G__law_same (T : Txt P K mg A) : FnOk P w K mg base CX0 1 A.f__law_same A.d__law_same ["_law_left", "_law_right"] (sp__law_same K A.c_Ratio) := by
  refine (T.F__law_same.ok (k := 0) sc__law_same (fun vs H Q E h => ?_) (fun cdv Ar outer s H vs Q E hr h => ?_))
  · obtain ⟨l, l2, ts, xs, ns, rfl, _⟩ := h
    rfl
  · obtain ⟨l, l2, ts, xs, ns, rfl, hs, ht, h2, hr2, hl, q⟩ := h
    obtain ⟨htl, ht⟩ := ht
    have cl := T.cl_Ratio
    have n1 := T.na_Ratio_num
    have n2 := T.na_Ratio_den
    have hlen : xs.length = ns.length := by rw [hr2.1, List.length_map]
    refine ⟨_, (pss_cons (ps_if (pt_cmpR op_ne (pe_callB k_len (by rfl) T.n_len (by decide +kernel) (pa_cons (pv 0) pa_nil)) (pe_callB k_len (by rfl) T.n_len (by decide +kernel) (pa_cons (pv 1) pa_nil)) (nomark _))
        (pss_one (ps_ret pe_bl))
        pss_nil)
      (pss_cons (ps_for PassesOwn.never rfl (pi_range1 rfl T.n_range (pa_cons (pe_callB k_len (by rfl) T.n_len (by decide +kernel) (pa_cons (pv 0) pa_nil)) pa_nil)) (pg_name (i := 2) sc__law_same.nd rfl (Or.inl rfl))
        (pss_one (ps_if (PW.pt (pw_or (pt_cmpR op_ne (pe_ix ix_tup (pe_ix ix_list (pv 0) (pv 2) (fun _ _ => rfl)) pe_int (fun _ _ => rfl)) (pe_fld (pe_ix ix_list (pv 1) (pv 2) (fun _ _ => rfl)) rfl) (nomark _)) (pw_or1 (pt_cmpR op_ne (pe_ix ix_tup (pe_ix ix_list (pv 0) (pv 2) (fun _ _ => rfl)) pe_int (fun _ _ => rfl)) (pe_fld (pe_ix ix_list (pv 1) (pv 2) (fun _ _ => rfl)) rfl) (nomark _)))))
        (pss_one (ps_ret pe_bl))
        pss_nil)))
      (pss_one (ps_ret pe_bl)))), ?_⟩
    try dsimp only [cxOf, Cx.nox, Cx.wish]
    walk_at "go"
    refine go_lenL hs ?_
    walk_at "go"
    refine go_lenL h2 ?_
    rw [htl, hlen]
    walk_at "go"
    refine ite_ndtI ?_
    walk_at "go"
    refine go_lenL hs ?_
    rw [htl]
    walk_at "go"
    refine foR1 (fun i σ' H' => ∃ (v : Option V), σ' = [some (.ref l), some (.ref l2), v] ∧ H' = H) (by omega) ⟨_, rfl, rfl⟩ ?_ ?_
    · rintro i σ' H' hi ⟨v, rfl, rfl⟩
      have hin : i < ns.length := by omega
      obtain ⟨y, ey⟩ : ∃ y, ts[i]? = some y := ⟨_, List.getElem?_eq_getElem (by omega)⟩
      obtain ⟨n, t, en, rfl, et⟩ := ht i y ey
      obtain ⟨x, ex⟩ : ∃ x, xs[i]? = some x := ⟨_, List.getElem?_eq_getElem (by omega)⟩
      obtain ⟨r, p, dp, er, rfl, ep⟩ := hr2.get ex
      obtain ⟨n', en', rfl⟩ := rz_at er
      rw [en] at en'
      cases en'
      have ep : H' p = some (.ins A.c_Ratio dp (rf (rN n 27720) (rD n 27720))) := ep
      have tt : SqT K H' t [.int (rN n 27720), .int (rD n 27720)] := .of et
      have a1 : atI ts (i : Int) = some (.ref t) := atI_nat ey
      have a2 : atI xs (i : Int) = some (.ref p) := atI_nat ex
      walk_at "go"
      refine go_ixL hs a1 ?_
      walk_at "go"
      refine go_ixL h2 a2 ?_
      walk_at "go"
      refine ite_ndtI ?_
      walk_at "go"
      refine go_ixL hs a1 ?_
      walk_at "go"
      refine go_ixL h2 a2 ?_
      walk_at "go"
      refine ite_ndtI ?_
      walk_at "go"
      exact ⟨_, rfl, rfl⟩
    · rintro σ' H' ⟨v, rfl, rfl⟩
      walk_at "go"
      exact q
end
end K05

namespace K05
open PySem PySem.Spec PyProof.Rows L2 Gx
section
variable {P : Program} {w : World} {K : PySem.W.Frag} {mg : Str → Option Value} {base : Heap} {A : Ad}
def sp_Ratio___init__ (C B : Addr) : Sp := fun vs H Q E => ∃ (p dx : Addr) (a b : Int), vs = [.ref p, .int a, .int b] ∧ H p = some (.ins C dx []) ∧ b.natAbs < 2 ^ 9000 ∧ (b ≠ 0 → ∀ H', (∀ c o, c ≠ p → H c = some o → H' c = some o) → H' p = some (.ins C dx (rf (rN a b) (rD a b))) → Q .non H') ∧ (b = 0 → ∀ d, H d = none → E (.ref B) (some d) (upd H d (.xd [("value", .int a)])))
theorem G_Ratio___init__ (T : Txt P K mg A) : FnOk P w K mg base (L2.CX P w) 2 A.f_Ratio___init__ A.d_Ratio___init__ ["self", "num", "den"] (sp_Ratio___init__ A.c_Ratio A.c_BadRatio) := by
  refine (T.F_Ratio___init__.ok (k := 1) sc_Ratio___init__ (fun vs H Q E h => ?_) (fun cdv Ar outer s H vs Q E hr h => ?_))
  · obtain ⟨p, dx, a, b, rfl, _⟩ := h
    rfl
  · obtain ⟨p, dx, a, b, rfl, hp, hz, q0, q1⟩ := h
    have cl := T.cl_Ratio
    have n1 := T.na_Ratio_num
    have n2 := T.na_Ratio_den
    refine ⟨_, (pss_cons (ps_if (pt_cmpR op_eq (pv 2) pe_int (nomark _))
        (pss_one (ps_raiseErr rfl T.er_BadRatio hr T.m_BadRatio (takes_of rfl rfl rfl rfl) (pa_cons (pv 1) pa_nil)))
        pss_nil)
      (pss_cons (ps_set (i := 3) sc_Ratio___init__.nd rfl (Or.inl rfl) (pe_callBfun cr_gcd rfl T.g_gcd (pa_cons (pv 1) (pa_cons (pv 2) pa_nil))))
      (Evl.pss_cut (ps_if (pt_cmpR op_lt (pv 2) pe_int (nomark _))
        (pss_one (ps_set (i := 3) sc_Ratio___init__.nd rfl (Or.inl rfl) (pe_un un_neg (pv 3))))
        pss_nil)
      (pss_cons (ps_fld (pv 0) (pe_op op_fdivX (pv 1) (pv 3)) rfl)
      (pss_one (ps_fld (pv 0) (pe_op op_fdivX (pv 2) (pv 3)) rfl)))))), ?_⟩
    try dsimp only [cxOf, Cx.nox, Cx.wish]
    walk_at "go"
    walk_at "br"
    · intro hb
      walk_at "go"
      exact ⟨_, rfl, fun d hd => q1 hb d hd⟩
    intro hb
    have q := q0 hb
    walk_at "go"
    refine go_gcd ?_
    walk_at "go"
    have hg : ((Nat.gcd a.natAbs b.natAbs : Nat) : Int) = (Int.gcd a b : Int) := rfl
    rw [hg]
    have hgp := gcd_pos (a := a) hb
    have hgl : (Int.gcd a b : Int).natAbs ≤ b.natAbs := by
      rw [Int.natAbs_natCast]
      exact Nat.le_of_dvd (by omega) (Nat.gcd_dvd_right a.natAbs b.natAbs)
    refine go_cut (fun σ' H' => ∃ g : Int, σ' = [some (.ref p), some (.int a), some (.int b), some (.int g)] ∧ H' = H ∧ g = if b < 0 then -(Int.gcd a b : Int) else (Int.gcd a b : Int)) ?_ ?_
    · walk_at "go"
      walk_at "br"
      · intro h
        walk_at "go"
        exact ⟨_, rfl, rfl, by rw [if_pos h]⟩
      · intro h
        walk_at "go"
        exact ⟨_, rfl, rfl, by rw [if_neg h]⟩
    rintro σ' H' ⟨g, rfl, rfl, eg⟩
    obtain ⟨f1, f2, f3⟩ := rN_fdiv (a := a) hb eg
    have hgz : g.natAbs < 2 ^ 9000 := by
      have : g.natAbs = (Int.gcd a b : Int).natAbs := by rw [eg]; split <;> simp
      rw [this]
      exact Nat.lt_of_le_of_lt hgl hz
    walk_at "go"
    refine go_rI (divX f3 hgz (by decide) (by decide)) ?_
    walk_at "go"
    refine go_sfldV hp cl n1 (by show 0 < 1000; decide) ?_
    walk_at "go"
    refine go_rI (divX f3 hgz (by decide) (by decide)) ?_
    walk_at "go"
    refine go_sfldV (by exact upd_same) cl n2 (by show 1 < 1000; decide) ?_
    rw [f1, f2, rf_put, upd_upd]
    exact q _ (fun c o n e => by rw [upd_ne n]; exact e) upd_same
end
end K05

namespace K05
open PySem PySem.Spec PyProof.Rows L2 Gx
section
variable {P : Program} {w : World} {K : PySem.W.Frag} {mg : Str → Option Value} {base : Heap} {A : Ad}
def sp_least (K : PySem.W.Frag) (C : Addr) : Sp := fun vs H Q _ => ∃ (l : Addr) (xs : List V) (ns : List Int), vs = [.ref l] ∧ SqL K H l xs ∧ RatsAt C H xs (ns.map rz) ∧ ns.length ≤ 70 ∧ (∀ n ∈ ns, n.natAbs < 2 ^ 20) ∧ 0 < ns.length ∧ ∀ z m H', Same H H' → m ∈ ns → (∀ y ∈ ns, m ≤ y) → RatAt C H' z (rN m 27720) (rD m 27720) → Q (.ref z) H'
theorem G_least (T : Txt P K mg A) : FnOk P w K mg base CX0 2 A.f_least A.d_least ["ratios"] (sp_least K A.c_Ratio) := by
  refine (T.F_least.ok (k := 1) sc_least (fun vs H Q E h => ?_) (fun cdv Ar outer s H vs Q E hr h => ?_))
  · obtain ⟨l, xs, ns, rfl, _⟩ := h
    rfl
  · obtain ⟨l, xs, ns, rfl, hs, hr2, hl, hb, h0, q⟩ := h
    have cl := T.cl_Ratio
    have n1 := T.na_Ratio_num
    have n2 := T.na_Ratio_den
    have hlen : xs.length = ns.length := by rw [hr2.1, List.length_map]
    refine ⟨_, (pss_cons (ps_set (i := 1) sc_least.nd rfl (Or.inl rfl) (pe_ix ix_list (pv 0) pe_int (fun _ _ => rfl)))
      (pss_cons (ps_for PassesOwn.never rfl (pi_list (pe_slice sl_list (pv 0) (po_some pe_int) po_none)) (pg_name (i := 2) sc_least.nd rfl (Or.inl rfl))
        (pss_one (ps_if (pt_val (pe_meth (pv 2) T.cl_Ratio T.me_Ratio_below (G_Ratio_below T) (hr.mono (by decide)) T.b_Ratio_below .nil pass0 (pa_cons (pv 1) pa_nil)))
        (pss_one (ps_set (i := 1) sc_least.nd rfl (Or.inl rfl) (pv 2)))
        pss_nil)))
      (pss_one (ps_ret (pv 1))))), ?_⟩
    try dsimp only [cxOf, Cx.nox, Cx.wish]
    obtain ⟨x0, ex0⟩ : ∃ x, xs[0]? = some x := ⟨_, List.getElem?_eq_getElem (by omega)⟩
    obtain ⟨r0, p0, d0, er0, rfl, ep0⟩ := hr2.get ex0
    obtain ⟨n0, en0, rfl⟩ := rz_at er0
    walk_at "go"
    refine go_ixL hs (at_get0 ex0) ?_
    walk_at "go"
    refine go_slL hs fun l2 nl2 => ?_
    rw [show cutV xs (some 1) none = xs.drop 1 from cut_from xs 1]
    have s2 := same_new (o := .lst (xs.drop 1)) nl2
    have e2 : upd H l2 (.lst (xs.drop 1)) l2 = some (.lst (xs.drop 1)) := upd_same
    generalize upd H l2 (.lst (xs.drop 1)) = H2 at *
    refine foL (xs.drop 1) (fun i σ' H' => ∃ (z : Addr) (m : Int) (v : Option V), σ' = [some (.ref l), some (.ref z), v] ∧ Same H2 H' ∧ m ∈ ns ∧ (∀ y ∈ ns.take (i + 1), m ≤ y) ∧ RatAt A.c_Ratio H' z (rN m 27720) (rD m 27720)) ⟨p0, n0, _, rfl, Same.refl _, List.mem_of_getElem? en0, fun y hy => ?_, d0, s2 _ _ ep0⟩ ?_ ?_ ?_
    · rw [List.take_add_one, en0] at hy
      simp at hy
      omega
    · rintro i σ' H' _ ⟨z, m, v, rfl, s, _⟩
      exact .of (s _ _ e2)
    · rintro i x σ' H' hx ⟨z, m, v, rfl, s, hm, hle, dz, ez⟩
      rw [List.getElem?_drop] at hx
      obtain ⟨r, p, dp, er, rfl, ep⟩ := ((hr2.same s2).same s).get hx
      obtain ⟨n, en, rfl⟩ := rz_at er
      have hn := hb n (List.mem_of_getElem? en)
      obtain ⟨w1, w2⟩ := rz_wide (n := m) (p_mono (hb m hm) (by decide))
      obtain ⟨w3, w4⟩ := rz_wide (n := n) (p_mono hn (by decide))
      rw [Nat.add_comm] at en
      have tk : ns.take (i + 1 + 1) = ns.take (i + 1) ++ [n] := by rw [List.take_add_one, en]; rfl
      have ep : H' p = some (.ins A.c_Ratio dp (rf (rN n 27720) (rD n 27720))) := ep
      walk_at "go"
      refine ⟨_, _, _, rfl, ep, rfl, ?_⟩
      walk_at "go"
      refine ⟨p, z, dp, dz, _, _, _, _, rfl, ep, ez, w3, w4, w1, w2, ?_⟩
      rw [show decide (rN n 27720 * rD m 27720 < rN m 27720 * rD n 27720) = decide (n < m) from by simp only [rz_lt]]
      walk_at "go"
      walk_at "br"
      · intro h
        walk_at "go"
        refine ⟨p, n, _, rfl, s, List.mem_of_getElem? en, fun y hy => ?_, dp, ep⟩
        rw [tk] at hy
        rcases List.mem_append.mp hy with hy | hy
        · have := hle y hy
          omega
        · rw [List.mem_singleton.mp hy]
          omega
      · intro h
        walk_at "go"
        refine ⟨z, m, _, rfl, s, hm, fun y hy => ?_, dz, ez⟩
        rw [tk] at hy
        rcases List.mem_append.mp hy with hy | hy
        · exact hle y hy
        · rw [List.mem_singleton.mp hy]
          omega
    · rintro σ' H' ⟨z, m, v, rfl, s, hm, hle, ez⟩
      walk_at "go"
      refine q z m H' (s2.trans s) hm (fun y hy => hle y ?_) ez
      rw [List.length_drop, hlen, List.take_of_length_le (by omega)]
      exact hy
end
end K05

namespace K05
open PySem PySem.Spec PyProof.Rows L2 Gx
section
variable {P : Program} {w : World} {K : PySem.W.Frag} {mg : Str → Option Value} {base : Heap} {A : Ad}
def sp_greatest (K : PySem.W.Frag) (C : Addr) : Sp := fun vs H Q _ => ∃ (l : Addr) (xs : List V) (ns : List Int), vs = [.ref l] ∧ SqL K H l xs ∧ RatsAt C H xs (ns.map rz) ∧ ns.length ≤ 70 ∧ (∀ n ∈ ns, n.natAbs < 2 ^ 20) ∧ 0 < ns.length ∧ ∀ z m H', Same H H' → m ∈ ns → (∀ y ∈ ns, y ≤ m) → RatAt C H' z (rN m 27720) (rD m 27720) → Q (.ref z) H'
theorem G_greatest (T : Txt P K mg A) : FnOk P w K mg base CX0 2 A.f_greatest A.d_greatest ["ratios"] (sp_greatest K A.c_Ratio) := by
  refine (T.F_greatest.ok (k := 1) sc_greatest (fun vs H Q E h => ?_) (fun cdv Ar outer s H vs Q E hr h => ?_))
  · obtain ⟨l, xs, ns, rfl, _⟩ := h
    rfl
  · obtain ⟨l, xs, ns, rfl, hs, hr2, hl, hb, h0, q⟩ := h
    have cl := T.cl_Ratio
    have n1 := T.na_Ratio_num
    have n2 := T.na_Ratio_den
    have hlen : xs.length = ns.length := by rw [hr2.1, List.length_map]
    refine ⟨_, (pss_cons (ps_set (i := 1) sc_greatest.nd rfl (Or.inl rfl) (pe_ix ix_list (pv 0) pe_int (fun _ _ => rfl)))
      (pss_cons (ps_for PassesOwn.never rfl (pi_list (pe_slice sl_list (pv 0) (po_some pe_int) po_none)) (pg_name (i := 2) sc_greatest.nd rfl (Or.inl rfl))
        (pss_one (ps_if (pt_val (pe_meth (pv 1) T.cl_Ratio T.me_Ratio_below (G_Ratio_below T) (hr.mono (by decide)) T.b_Ratio_below .nil pass0 (pa_cons (pv 2) pa_nil)))
        (pss_one (ps_set (i := 1) sc_greatest.nd rfl (Or.inl rfl) (pv 2)))
        pss_nil)))
      (pss_one (ps_ret (pv 1))))), ?_⟩
    try dsimp only [cxOf, Cx.nox, Cx.wish]
    obtain ⟨x0, ex0⟩ : ∃ x, xs[0]? = some x := ⟨_, List.getElem?_eq_getElem (by omega)⟩
    obtain ⟨r0, p0, d0, er0, rfl, ep0⟩ := hr2.get ex0
    obtain ⟨n0, en0, rfl⟩ := rz_at er0
    walk_at "go"
    refine go_ixL hs (at_get0 ex0) ?_
    walk_at "go"
    refine go_slL hs fun l2 nl2 => ?_
    rw [show cutV xs (some 1) none = xs.drop 1 from cut_from xs 1]
    have s2 := same_new (o := .lst (xs.drop 1)) nl2
    have e2 : upd H l2 (.lst (xs.drop 1)) l2 = some (.lst (xs.drop 1)) := upd_same
    generalize upd H l2 (.lst (xs.drop 1)) = H2 at *
    refine foL (xs.drop 1) (fun i σ' H' => ∃ (z : Addr) (m : Int) (v : Option V), σ' = [some (.ref l), some (.ref z), v] ∧ Same H2 H' ∧ m ∈ ns ∧ (∀ y ∈ ns.take (i + 1), y ≤ m) ∧ RatAt A.c_Ratio H' z (rN m 27720) (rD m 27720)) ⟨p0, n0, _, rfl, Same.refl _, List.mem_of_getElem? en0, fun y hy => ?_, d0, s2 _ _ ep0⟩ ?_ ?_ ?_
    · rw [List.take_add_one, en0] at hy
      simp at hy
      omega
    · rintro i σ' H' _ ⟨z, m, v, rfl, s, _⟩
      exact .of (s _ _ e2)
    · rintro i x σ' H' hx ⟨z, m, v, rfl, s, hm, hle, dz, ez⟩
      rw [List.getElem?_drop] at hx
      obtain ⟨r, p, dp, er, rfl, ep⟩ := ((hr2.same s2).same s).get hx
      obtain ⟨n, en, rfl⟩ := rz_at er
      have hn := hb n (List.mem_of_getElem? en)
      obtain ⟨w1, w2⟩ := rz_wide (n := m) (p_mono (hb m hm) (by decide))
      obtain ⟨w3, w4⟩ := rz_wide (n := n) (p_mono hn (by decide))
      rw [Nat.add_comm] at en
      have tk : ns.take (i + 1 + 1) = ns.take (i + 1) ++ [n] := by rw [List.take_add_one, en]; rfl
      have ep : H' p = some (.ins A.c_Ratio dp (rf (rN n 27720) (rD n 27720))) := ep
      walk_at "go"
      refine ⟨_, _, _, rfl, ez, rfl, ?_⟩
      walk_at "go"
      refine ⟨z, p, dz, dp, _, _, _, _, rfl, ez, ep, w1, w2, w3, w4, ?_⟩
      rw [show decide (rN m 27720 * rD n 27720 < rN n 27720 * rD m 27720) = decide (m < n) from by simp only [rz_lt]]
      walk_at "go"
      walk_at "br"
      · intro h
        walk_at "go"
        refine ⟨p, n, _, rfl, s, List.mem_of_getElem? en, fun y hy => ?_, dp, ep⟩
        rw [tk] at hy
        rcases List.mem_append.mp hy with hy | hy
        · have := hle y hy
          omega
        · rw [List.mem_singleton.mp hy]
          omega
      · intro h
        walk_at "go"
        refine ⟨z, m, _, rfl, s, hm, fun y hy => ?_, dz, ez⟩
        rw [tk] at hy
        rcases List.mem_append.mp hy with hy | hy
        · exact hle y hy
        · rw [List.mem_singleton.mp hy]
          omega
    · rintro σ' H' ⟨z, m, v, rfl, s, hm, hle, ez⟩
      walk_at "go"
      refine q z m H' (s2.trans s) hm (fun y hy => hle y ?_) ez
      rw [List.length_drop, hlen, List.take_of_length_le (by omega)]
      exact hy
end
end K05

namespace K05
open PySem PySem.Spec PyProof.Rows L2 Gx
section
variable {P : Program} {w : World} {K : PySem.W.Frag} {mg : Str → Option Value} {base : Heap} {A : Ad}
def sp__law_is_ratio (C : Addr) : Sp := fun vs H Q _ => ∃ (x dx : Addr) (n d a b : Int), vs = [.ref x, .int a, .int b] ∧ H x = some (.ins C dx (rf n d)) ∧ b ≠ 0 ∧ a.natAbs < 2 ^ 1500 ∧ b.natAbs < 2 ^ 1500 ∧ n = rN a b ∧ d = rD a b ∧ Q (.bl true) H
theorem G__law_is_ratio (T : Txt P K mg A) : FnOk P w K mg base CX0 2 A.f__law_is_ratio A.d__law_is_ratio ["_law_actual", "_law_num", "_law_den"] (sp__law_is_ratio A.c_Ratio) := by
  refine (T.F__law_is_ratio.ok (k := 1) sc__law_is_ratio (fun vs H Q E h => ?_) (fun cdv Ar outer s H vs Q E hr h => ?_))
  · obtain ⟨x, dx, n, d, a, b, rfl, _⟩ := h
    rfl
  · obtain ⟨x, dx, n, d, a, b, rfl, hx, hb, za, zb, en, ed, q⟩ := h
    have cl := T.cl_Ratio
    have n1 := T.na_Ratio_num
    have n2 := T.na_Ratio_den
    refine ⟨_, (pss_cons (ps_if (pt_not (pt_val (pe_callB (C8.call_isC T.ic_Ratio) (by rfl) T.n_isinstance (by decide +kernel) (pa_cons (pv 0) (pa_cons (pe_glob (v := .ref A.c_Ratio) rfl T.m_Ratio rfl) pa_nil)))))
        (pss_one (ps_ret pe_bl))
        pss_nil)
      (pss_cons (ps_if (PW.pt (pw_or (pt_not (pt_val (pe_call (G__law_is_integer T) (hr.mono (by decide)) rfl T.m__law_is_integer T.F__law_is_integer.kp T.b__law_is_integer .nil pass0 (pa_cons (pe_fld (pv 0) rfl) pa_nil)))) (pw_or1 (pt_not (pt_val (pe_call (G__law_is_integer T) (hr.mono (by decide)) rfl T.m__law_is_integer T.F__law_is_integer.kp T.b__law_is_integer .nil pass0 (pa_cons (pe_fld (pv 0) rfl) pa_nil)))))))
        (pss_one (ps_ret pe_bl))
        pss_nil)
      (pss_cons (ps_set (i := 3) sc__law_is_ratio.nd rfl (Or.inl rfl) (pe_call (G__law_gcd T) (hr.mono (by decide)) rfl T.m__law_gcd T.F__law_gcd.kp T.b__law_gcd .nil pass0 (pa_cons (pv 1) (pa_cons (pv 2) pa_nil))))
      (Evl.pss_cut (ps_if (pt_cmpR op_lt (pv 2) pe_int (nomark _))
        (pss_one (ps_set (i := 3) sc__law_is_ratio.nd rfl (Or.inl rfl) (pe_un un_neg (pv 3))))
        pss_nil)
      (pss_one (ps_ret (pe_and (pe_cmpR op_eq (pe_fld (pv 0) rfl) (pe_op op_fdivX (pv 1) (pv 3)) (nomark _)) (pe_one (pe_cmpR op_eq (pe_fld (pv 0) rfl) (pe_op op_fdivX (pv 2) (pv 3)) (nomark _)))))))))), ?_⟩
    try dsimp only [cxOf, Cx.nox, Cx.wish]
    walk_at "go"
    refine ⟨x, dx, _, rfl, hx, ?_⟩
    walk_at "go"
    refine ⟨_, rfl, ?_⟩
    walk_at "go"
    refine ⟨_, rfl, ?_⟩
    walk_at "go"
    refine ⟨a, b, rfl, za, zb, ?_⟩
    walk_at "go"
    have hgp := gcd_pos (a := a) hb
    have hgl : (Int.gcd a b : Int).natAbs ≤ b.natAbs := by
      rw [Int.natAbs_natCast]
      exact Nat.le_of_dvd (by omega) (Nat.gcd_dvd_right a.natAbs b.natAbs)
    refine go_cut (fun σ' H' => ∃ g : Int, σ' = [some (.ref x), some (.int a), some (.int b), some (.int g)] ∧ H' = H ∧ g = if b < 0 then -(Int.gcd a b : Int) else (Int.gcd a b : Int)) ?_ ?_
    · walk_at "go"
      walk_at "br"
      · intro h
        walk_at "go"
        exact ⟨_, rfl, rfl, by rw [if_pos h]⟩
      · intro h
        walk_at "go"
        exact ⟨_, rfl, rfl, by rw [if_neg h]⟩
    rintro σ' H' ⟨g, rfl, rfl, eg⟩
    obtain ⟨f1, f2, f3⟩ := rN_fdiv (a := a) hb eg
    have hgz : g.natAbs < 2 ^ 9000 := by
      have : g.natAbs = (Int.gcd a b : Int).natAbs := by rw [eg]; split <;> simp
      rw [this]
      exact Nat.lt_of_le_of_lt hgl (Nat.lt_of_lt_of_le zb (Nat.pow_le_pow_right (by decide) (by decide)))
    walk_at "go"
    refine go_rI (divX f3 hgz (by decide) (by decide)) ?_
    walk_at "go"
    rw [f1, decide_eq_true en]
    walk_at "go"
    refine go_rI (divX f3 hgz (by decide) (by decide)) ?_
    walk_at "go"
    rw [f2, decide_eq_true ed]
    exact q
end
end K05

namespace K05
open PySem PySem.Spec PyProof.Rows L2 Gx
section
variable {P : Program} {w : World} {K : PySem.W.Frag} {mg : Str → Option Value} {base : Heap} {A : Ad}
def sp_Ratio___add__ (C : Addr) : Sp := fun vs H Q _ => ∃ (x y dx dy : Addr) (a b c d : Int), vs = [.ref x, .ref y] ∧ H x = some (.ins C dx (rf a b)) ∧ H y = some (.ins C dy (rf c d)) ∧ 0 < b ∧ 0 < d ∧ a.natAbs < 2 ^ 4000 ∧ b.natAbs < 2 ^ 4000 ∧ c.natAbs < 2 ^ 4000 ∧ d.natAbs < 2 ^ 4000 ∧ ∀ z H', Same H H' → H z = none → RatAt C H' z (rN (a * d + c * b) (b * d)) (rD (a * d + c * b) (b * d)) → Q (.ref z) H'
theorem G_Ratio___add__ (T : Txt P K mg A) : FnOk P w K mg base CX0 4 A.f_Ratio___add__ A.d_Ratio___add__ ["self", "other"] (sp_Ratio___add__ A.c_Ratio) := by
  refine (T.F_Ratio___add__.ok (k := 3) sc_Ratio___add__ (fun vs H Q E h => ?_) (fun cdv Ar outer s H vs Q E hr h => ?_))
  · obtain ⟨x, y, dx, dy, a, b, c, d, rfl, _⟩ := h
    rfl
  · obtain ⟨x, y, dx, dy, a, b, c, d, rfl, hx, hy, hb, hd, za, zb, zc, zd, q⟩ := h
    have cl := T.cl_Ratio
    have n1 := T.na_Ratio_num
    have n2 := T.na_Ratio_den
    refine ⟨_, (pss_one (ps_ret (pe_make T.mk_Ratio (G_Ratio___init__ T) (hr.mono (by decide)) rfl T.m_Ratio T.b_Ratio___init___0.choose_spec.2 T.b_Ratio___init___0.choose_spec.1 passL (pa_cons (pe_op op_add (pe_op op_mulW (pe_fld (pv 0) rfl) (pe_fld (pv 1) rfl)) (pe_op op_mulW (pe_fld (pv 1) rfl) (pe_fld (pv 0) rfl))) (pa_cons (pe_op op_mulW (pe_fld (pv 0) rfl) (pe_fld (pv 1) rfl)) pa_nil))))), ?_⟩
    try dsimp only [cxOf, Cx.nox, Cx.wish]
    have wm : ∀ {i j : Int}, i.natAbs < 2 ^ 4000 → j.natAbs < 2 ^ 4000 → CMulW i j := fun h1 h2 => wide_mul h1 h2 (by decide) (by decide) (by decide)
    walk_at "go"
    refine go_rI (wm (by assumption) (by assumption)) ?_
    walk_at "go"
    refine go_rI (wm (by assumption) (by assumption)) ?_
    walk_at "go"
    refine go_rI (wm (by assumption) (by assumption)) ?_
    walk_at "go"
    intro z dz hz hdz hne
    have hne2 : b * d ≠ 0 := Int.ne_of_gt (Int.mul_pos hb hd)
    have hbz : (b * d).natAbs < 2 ^ 9000 := Nat.lt_of_lt_of_le (wide_lt zb zd) (Nat.pow_le_pow_right (by decide) (by decide))
    refine ⟨z, dz, _, _, rfl, upd_same, hbz, fun _ H' s e => ⟨rfl, q z H' (fun t o ht => ?_) hz ⟨dz, e⟩⟩, fun h => absurd h hne2⟩
    refine s t o (ne_of_none ht hz) ?_
    rw [upd_ne (ne_of_none ht hz), upd_ne (ne_of_none ht hdz)]
    exact ht
end
end K05

namespace K05
open PySem PySem.Spec PyProof.Rows L2 Gx
section
variable {P : Program} {w : World} {K : PySem.W.Frag} {mg : Str → Option Value} {base : Heap} {A : Ad}
def sp_Ratio_over (C B : Addr) : Sp := fun vs H Q E => ∃ (x y dx dy : Addr) (a b c d : Int), vs = [.ref x, .ref y] ∧ H x = some (.ins C dx (rf a b)) ∧ H y = some (.ins C dy (rf c d)) ∧ 0 < b ∧ 0 < d ∧ a.natAbs < 2 ^ 4000 ∧ b.natAbs < 2 ^ 4000 ∧ c.natAbs < 2 ^ 4000 ∧ d.natAbs < 2 ^ 4000 ∧ (c ≠ 0 → ∀ z H', Same H H' → H z = none → RatAt C H' z (rN (a * d) (b * c)) (rD (a * d) (b * c)) → Q (.ref z) H') ∧ (c = 0 → ∀ e H', Same H H' → H' e = some (.xd [("value", .int (a * d))]) → E (.ref B) (some e) H')
theorem G_Ratio_over (T : Txt P K mg A) : FnOk P w K mg base (L2.CX P w) 4 A.f_Ratio_over A.d_Ratio_over ["self", "other"] (sp_Ratio_over A.c_Ratio A.c_BadRatio) := by
  refine (T.F_Ratio_over.okX (k := 3) sc_Ratio_over (fun vs H Q E h => ?_) (fun cdv Ar outer s H vs Q E hr h => ?_))
  · obtain ⟨x, y, dx, dy, a, b, c, d, rfl, _⟩ := h
    rfl
  · obtain ⟨x, y, dx, dy, a, b, c, d, rfl, hx, hy, hb, hd, za, zb, zc, zd, q0, q1⟩ := h
    have cl := T.cl_Ratio
    have n1 := T.na_Ratio_num
    have n2 := T.na_Ratio_den
    refine ⟨_, (pss_one (ps_ret (pe_makeSD T.mk_Ratio (G_Ratio___init__ T) (hr.mono (by decide)) rfl T.m_Ratio T.b_Ratio___init___0.choose_spec.2 T.b_Ratio___init___0.choose_spec.1 (fun σ => passAt (takes_of rfl rfl rfl rfl) σ) (pa_cons (pe_op op_mulW (pe_fld (pv 0) rfl) (pe_fld (pv 1) rfl)) (pa_cons (pe_op op_mulW (pe_fld (pv 0) rfl) (pe_fld (pv 1) rfl)) pa_nil))))), ?_⟩
    try dsimp only [cxOf, Cx.nox, Cx.wish]
    have wm : ∀ {i j : Int}, i.natAbs < 2 ^ 4000 → j.natAbs < 2 ^ 4000 → CMulW i j := fun h1 h2 => wide_mul h1 h2 (by decide) (by decide) (by decide)
    walk_at "go"
    refine go_rI (wm (by assumption) (by assumption)) ?_
    walk_at "go"
    refine go_rI (wm (by assumption) (by assumption)) ?_
    walk_at "go"
    intro z dz hz hdz hne
    have hbz : (b * c).natAbs < 2 ^ 9000 := Nat.lt_of_lt_of_le (wide_lt zb zc) (Nat.pow_le_pow_right (by decide) (by decide))
    have keep : ∀ t o, H t = some o → upd (upd H dz (.own z)) z (.ins A.c_Ratio dz []) t = some o := fun t o ht => by
      rw [upd_ne (ne_of_none ht hz), upd_ne (ne_of_none ht hdz)]
      exact ht
    refine ⟨z, dz, _, _, rfl, upd_same, hbz, fun hn H' s e => ⟨rfl, q0 (fun h => hn (by rw [h, Int.mul_zero])) z H' (fun t o ht => s t o (ne_of_none ht hz) (keep t o ht)) hz ⟨dz, e⟩⟩, fun h0 e he => ?_⟩
    have hc : c = 0 := by
      rcases Int.mul_eq_zero.mp h0 with h | h
      · omega
      · exact h
    refine q1 hc e _ (fun t o ht => ?_) upd_same
    have ht2 := keep t o ht
    rw [upd_ne (ne_of_none ht2 he)]
    exact ht2
end
end K05

namespace K05
open PySem PySem.Spec PyProof.Rows L2 Gx
section
variable {P : Program} {w : World} {K : PySem.W.Frag} {mg : Str → Option Value} {base : Heap} {A : Ad}
def sp_total (K : PySem.W.Frag) (C : Addr) : Sp := fun vs H Q _ => ∃ (l : Addr) (xs : List V) (ns : List Int), vs = [.ref l] ∧ SqL K H l xs ∧ RatsAt C H xs (ns.map rz) ∧ ns.length ≤ 70 ∧ (∀ n ∈ ns, n.natAbs < 2 ^ 20) ∧ ∀ z H', Same H H' → RatAt C H' z (rN ns.sum 27720) (rD ns.sum 27720) → Q (.ref z) H'
theorem G_total (T : Txt P K mg A) : FnOk P w K mg base CX0 6 A.f_total A.d_total ["ratios"] (sp_total K A.c_Ratio) := by
  refine (T.F_total.ok (k := 5) sc_total (fun vs H Q E h => ?_) (fun cdv Ar outer s H vs Q E hr h => ?_))
  · obtain ⟨l, xs, ns, rfl, _⟩ := h
    rfl
  · obtain ⟨l, xs, ns, rfl, hs, hr2, hl, hb, q⟩ := h
    have cl := T.cl_Ratio
    have n1 := T.na_Ratio_num
    have n2 := T.na_Ratio_den
    have hlen : xs.length = ns.length := by rw [hr2.1, List.length_map]
    refine ⟨_, (pss_cons (ps_set (i := 1) sc_total.nd rfl (Or.inl rfl) (pe_make T.mk_Ratio (G_Ratio___init__ T) (hr.mono (by decide)) rfl T.m_Ratio T.b_Ratio___init___1.choose_spec.2 T.b_Ratio___init___1.choose_spec.1 passL (pa_cons pe_int pa_nil)))
      (pss_cons (ps_for PassesOwn.never rfl (pi_list (pv 0)) (pg_name (i := 2) sc_total.nd rfl (Or.inl rfl))
        (pss_one (ps_set (i := 1) sc_total.nd rfl (Or.inl rfl) (pe_op (op_own (op := .Add) T.so_Ratio T.me_Ratio___add__.at_ T.me_Ratio___add__.fn (G_Ratio___add__ T) (hr.mono (by decide)) T.b_Ratio___add__ pass0) (pv 1) (pv 2)))))
      (pss_one (ps_ret (pv 1))))), ?_⟩
    try dsimp only [cxOf, Cx.nox, Cx.wish]
    walk_at "go"
    intro z dz hz hdz hne
    refine ⟨z, dz, 0, 1, rfl, upd_same, by decide, fun _ H1 s e => ⟨rfl, ?_⟩, fun h => absurd h (by decide)⟩
    have t1 := same_made hz hdz s
    have e0 : H1 z = some (.ins A.c_Ratio dz (rf (rN 0 27720) (rD 0 27720))) := e
    walk_at "go"
    refine foL xs (fun i σ' H' => ∃ (z : Addr) (v : Option V), σ' = [some (.ref l), some (.ref z), v] ∧ Same H H' ∧ RatAt A.c_Ratio H' z (rN (ns.take i).sum 27720) (rD (ns.take i).sum 27720)) ⟨z, _, rfl, t1, dz, e0⟩ ?_ ?_ ?_
    · rintro i σ' H' _ ⟨z, v, rfl, s, _⟩
      exact s.seq hs
    · rintro i x σ' H' hx ⟨z, v, rfl, s, dz, ez⟩
      obtain ⟨r, p, dp, er, rfl, ep⟩ := (hr2.same s).get hx
      obtain ⟨n, en, rfl⟩ := rz_at er
      have hn := hb n (List.mem_of_getElem? en)
      obtain ⟨w1, w2⟩ := rz_wide (sum_small2 (take_small hb i) (take_len hl i))
      obtain ⟨w3, w4⟩ := rz_wide (n := n) (p_mono hn (by decide))
      walk_at "go"
      refine ⟨z, p, dz, dp, _, _, _, _, rfl, ez, ep, rz_pos _, rz_pos _, w1, w2, w3, w4, fun u H4 s4 n4 e4 => ?_⟩
      have ad := rz_add (ns.take i).sum n
      walk_at "go"
      refine ⟨u, _, rfl, s.trans s4, ?_⟩
      rw [take_sum en, ← ad.1, ← ad.2]
      exact e4
    · rintro σ' H' ⟨z, v, rfl, s, ez⟩
      rw [hlen, List.take_length] at ez
      walk_at "go"
      exact q z H' s ez
end
end K05

namespace K05
open PySem PySem.Spec PyProof.Rows L2 Gx
section
variable {P : Program} {w : World} {K : PySem.W.Frag} {mg : Str → Option Value} {base : Heap} {A : Ad}
def sp_shares (K : PySem.W.Frag) (C B : Addr) : Sp := fun vs H Q E => ∃ (l : Addr) (xs : List V) (ns : List Int), vs = [.ref l] ∧ SqL K H l xs ∧ RatsAt C H xs (ns.map rz) ∧ ns.length ≤ 70 ∧ (∀ n ∈ ns, n.natAbs < 2 ^ 20) ∧ (ns.sum ≠ 0 ∨ ns = [] → ∀ D ys H', Same H H' → H' D = some (.lst ys) → RatsAt C H' ys (ns.map fun n => (rN n ns.sum, rD n ns.sum)) → Q (.ref D) H') ∧ (∀ n0, ns.sum = 0 → ns[0]? = some n0 → ∀ e H', Same H H' → H' e = some (.xd [("value", .int (rN n0 27720))]) → E (.ref B) (some e) H')
theorem G_shares (T : Txt P K mg A) : FnOk P w K mg base (L2.CX P w) 7 A.f_shares A.d_shares ["ratios"] (sp_shares K A.c_Ratio A.c_BadRatio) := by
  refine (T.F_shares.okX (k := 6) sc_shares (fun vs H Q E h => ?_) (fun cdv Ar outer s H vs Q E hr h => ?_))
  · obtain ⟨l, xs, ns, rfl, _⟩ := h
    rfl
  · obtain ⟨l, xs, ns, rfl, hs, hr2, hl, hb, q0, q1⟩ := h
    have cl := T.cl_Ratio
    have n1 := T.na_Ratio_num
    have n2 := T.na_Ratio_den
    have hlen : xs.length = ns.length := by rw [hr2.1, List.length_map]
    refine ⟨_, (pss_cons (ps_set (i := 1) sc_shares.nd rfl (Or.inr rfl) (pe_call (G_total T) (hr.mono (by decide)) rfl T.m_total T.F_total.kp T.b_total .nil pass0 (pa_cons (pv 0) pa_nil)))
      (pss_one (ps_ret (pe_lcE (E := E) (own := [("ratio", 2)]) (g := gName 2) (tt := tYes) rfl sc_shares.nd (pi_list (pv 0)) (blkOk_by (N := ["ratios", "whole", "ratio"]) (sc := defScope s_shares) (by decide +kernel)) rfl rfl (takes_of rfl rfl rfl rfl) (fun _ _ _ _ _ => (pg_name (i := 2) sc_shares.nd rfl (Or.inl rfl))) (fun _ _ _ _ _ => by exact pts_nil) (fun _ _ _ _ _ hp => by exact (pe_methSD (pv 2) T.cl_Ratio T.me_Ratio_over (G_Ratio_over T) (hr.mono (by decide)) T.b_Ratio_over .nil hp (pa_cons (pv 1) pa_nil))))))), ?_⟩
    try dsimp only [cxOf, Cx.nox, Cx.wish]
    walk_at "go"
    refine ⟨l, xs, ns, rfl, hs, hr2, hl, hb, fun z H1 s1 ez => ?_⟩
    obtain ⟨dz, ez⟩ := ez
    obtain ⟨w1, w2⟩ := rz_wide (sum_small2 hb hl)
    walk_at "go"
    refine lcGo xs (ns.sum ≠ 0) (P := fun H k y => ∃ r p dx, (ns.map fun n => (rN n ns.sum, rD n ns.sum))[k]? = some r ∧ y = .ref p ∧ H p = some (.ins A.c_Ratio dx (rf r.1 r.2))) stays_rat (s1.seq hs) (by omega) (fun _ => rfl) ?_ ?_
    · intro i x H' hx sH hg R hR
      obtain ⟨r, p, dp, er, rfl, ep⟩ := ((hr2.same s1).same sH).get hx
      obtain ⟨n, en, rfl⟩ := rz_at er
      have hn := hb n (List.mem_of_getElem? en)
      obtain ⟨w3, w4⟩ := rz_wide (n := n) (p_mono hn (by decide))
      have ep : H' p = some (.ins A.c_Ratio dp (rf (rN n 27720) (rD n 27720))) := ep
      walk_at "go"
      refine ⟨_, _, _, rfl, ep, rfl, ?_⟩
      walk_at "go"
      refine ⟨p, z, dp, dz, _, _, _, _, rfl, ep, sH _ _ ez, rz_pos _, rz_pos _, w3, w4, w1, w2, fun hc u H4 s4 n4 e4 => ?_, fun hc e H4 s4 he => ?_⟩
      · have g : ns.sum ≠ 0 := fun k => hc (rz_ne.mpr k)
        obtain ⟨du, e4⟩ := e4
        rw [(rz_over g).1, (rz_over g).2] at e4
        exact hR _ _ g s4 ⟨(rN n ns.sum, rD n ns.sum), u, du, by rw [List.getElem?_map, en]; rfl, rfl, e4⟩
      · have g : ns.sum = 0 := rz_ne.mp hc
        have i0 : i = 0 := by
          rcases Nat.eq_zero_or_pos i with h | h
          · exact h
          · exact absurd g (hg h)
        subst i0
        refine q1 n g en e H4 ((s1.trans sH).trans s4) ?_
        rw [g, rz_zero.2, Int.mul_one] at he
        exact he
    · intro D ys H3 hD s3 eD hyl hG hP
      refine q0 ?_ D ys H3 (s1.trans s3) eD (rats_of (by rw [hyl, hlen, List.length_map]) hP)
      cases ns with
      | nil => exact .inr rfl
      | cons n r => exact .inl (hG (by rw [hlen]; exact Nat.succ_pos _))
end
end K05

namespace K05
open PySem PySem.Spec PyProof.Rows L2 Gx
section
variable {P : Program} {w : World} {K : PySem.W.Frag} {mg : Str → Option Value} {base : Heap} {A : Ad}
def sp__law_shares (K : PySem.W.Frag) (C : Addr) : Sp := fun vs H Q _ => ∃ (l l2 : Addr) (xs : List V) (ns : List Int), vs = [.ref l, .ref l2] ∧ SqL K H l xs ∧ RatsAt C H xs (ns.map rz) ∧ ns.length ≤ 70 ∧ (∀ n ∈ ns, n.natAbs < 2 ^ 20) ∧ SqL K H l2 (ns.map V.int) ∧ ∀ H', Same H H' → Q (.bl true) H'
theorem G__law_shares (T : Txt P K mg A) : FnOk P w K mg base CX0 8 A.f__law_shares A.d__law_shares ["_law_ratios", "_law_nums"] (sp__law_shares K A.c_Ratio) := by
  refine (T.F__law_shares.ok (k := 7) sc__law_shares (fun vs H Q E h => ?_) (fun cdv Ar outer s H vs Q E hr h => ?_))
  · obtain ⟨l, l2, xs, ns, rfl, _⟩ := h
    rfl
  · obtain ⟨l, l2, xs, ns, rfl, hs, hr2, hl, hb, h2, q⟩ := h
    have cl := T.cl_Ratio
    have n1 := T.na_Ratio_num
    have n2 := T.na_Ratio_den
    have hlen : xs.length = ns.length := by rw [hr2.1, List.length_map]
    refine ⟨_, (pss_cons (ps_set (i := 2) sc__law_shares.nd rfl (Or.inl rfl) (pe_callB (cr_sum rfl) (by rfl) T.n_sum (by decide +kernel) (pa_cons (pv 1) pa_nil)))
      (pss_cons (ps_try_as (i := 4) rfl rfl sc__law_shares.nd rfl rfl ⟨rfl, by decide, Or.inl T.m_BadRatio⟩ takes0
        (fun W pn xe tk ps => by exact (pss_one (ps_set (i := 3) sc__law_shares.nd rfl (Or.inl rfl) (pe_callSD (G_shares T) (hr.mono (by decide)) rfl T.m_shares T.F_shares.kp T.b_shares .nil (fun σ => passAt tk σ) (pa_cons (pv 0) pa_nil)))))
        (fun a oe cls d pn hz hf => by exact (pss_cons (ps_if (PW.pt (pw_or (pt_cmpR op_ne (pv 2) pe_int (nomark _)) (pw_or1 (pt_cmpR op_eq (pe_callB (k_lenK (K := K) rfl) (by rfl) T.n_len (by decide +kernel) (pa_cons (pv 1) pa_nil)) pe_int (nomark _)))))
        (pss_one (ps_ret pe_bl))
        pss_nil)
      (pss_one (ps_ret (pe_and (pe_callM (M__law_is_integer T) (roomM_mark (hr.mono (by decide)) _) rfl T.m__law_is_integer T.F__law_is_integer.kp T.b__law_is_integer (pa_cons (pe_xf T.xf_BadRatio T.er_BadRatio.noN hz hf (pv 4)) pa_nil)) (pe_one (pe_cmpR op_eq (pe_xf T.xf_BadRatio T.er_BadRatio.noN hz hf (pv 4)) (pe_fldK (K := K) rfl (pe_ix (ix_listK (K := K) rfl) (pv 0) pe_int (fun _ _ => rfl)) rfl) (nomark _)))))))))
      (Evl.pss_cut (ps_if (PW.pt (pw_or (pt_not (pt_val (pe_callB call_isi (by rfl) T.n_isinstance (by decide +kernel) (pa_cons (pv 3) (pa_cons (pe_bltn (v := .ty "list") (by rfl) T.n_list (by decide +kernel) rfl) pa_nil))))) (pw_or (pt_cmpR op_ne (pe_callB k_len (by rfl) T.n_len (by decide +kernel) (pa_cons (pv 3) pa_nil)) (pe_callB k_len (by rfl) T.n_len (by decide +kernel) (pa_cons (pv 1) pa_nil)) (nomark _)) (pw_or1 (PW.pt (pw_and (pt_cmpR op_eq (pv 2) pe_int (nomark _)) (pw_and1 (pt_cmpR op_gt (pe_callB k_len (by rfl) T.n_len (by decide +kernel) (pa_cons (pv 1) pa_nil)) pe_int (nomark _)))))))))
        (pss_one (ps_ret pe_bl))
        pss_nil)
      (pss_cons (ps_for PassesOwn.never rfl (pi_range1 rfl T.n_range (pa_cons (pe_callB k_len (by rfl) T.n_len (by decide +kernel) (pa_cons (pv 1) pa_nil)) pa_nil)) (pg_name (i := 5) sc__law_shares.nd rfl (Or.inl rfl))
        (pss_one (ps_if (pt_not (pt_val (pe_call (G__law_is_ratio T) (hr.mono (by decide)) rfl T.m__law_is_ratio T.F__law_is_ratio.kp T.b__law_is_ratio .nil pass0 (pa_cons (pe_ix ix_list (pv 3) (pv 5) (fun _ _ => rfl)) (pa_cons (pe_ix ix_list (pv 1) (pv 5) (fun _ _ => rfl)) (pa_cons (pv 2) pa_nil))))))
        (pss_one (ps_ret pe_bl))
        pss_nil)))
      (pss_one (ps_ret pe_bl)))))), ?_⟩
    try dsimp only [cxOf, Cx.nox, Cx.wish]
    walk_at "go"
    refine go_sum h2 ?_
    walk_at "go"
    refine ⟨l, xs, ns, rfl, hs, hr2, hl, hb, fun hc D ys H1 s1 eD hy => ?_, fun n0 hz en0 e H1 s1 he => ?_⟩
    · have hyl : ys.length = ns.length := by rw [hy.1, List.length_map]
      have l21 := s1.seq h2
      have eDl : SqL K H1 D ys := .of eD
      walk_at "go"
      refine go_cut (fun σ' H' => σ' = [some (.ref l), some (.ref l2), some (.int ns.sum), some (.ref D), none, none] ∧ H' = H1) ?_ ?_
      · walk_at "go"
        refine go_lenL eDl ?_
        walk_at "go"
        refine go_lenL l21 ?_
        rw [hyl, List.length_map]
        walk_at "go"
        refine ite_ndtI ?_
        walk_at "go"
        by_cases hz : ns.sum = 0
        · rw [decide_eq_true hz]
          have h0 : ns.length = 0 := by
            rcases hc with h | h
            · exact absurd hz h
            · rw [h]; rfl
          walk_at "go"
          refine go_lenL l21 ?_
          rw [List.length_map, h0]
          walk_at "go"
          exact ⟨rfl, rfl⟩
        · rw [decide_eq_false hz]
          walk_at "go"
          exact ⟨rfl, rfl⟩
      rintro σ' H' ⟨rfl, rfl⟩
      walk_at "go"
      refine go_lenL l21 ?_
      rw [List.length_map]
      walk_at "go"
      refine foR1 (fun i σ' H'' => ∃ (v : Option V), σ' = [some (.ref l), some (.ref l2), some (.int ns.sum), some (.ref D), none, v] ∧ H'' = H') (by omega) ⟨_, rfl, rfl⟩ ?_ ?_
      · rintro i σ' H'' hi ⟨v, rfl, rfl⟩
        have hne : ns.sum ≠ 0 := by
          rcases hc with h | h
          · exact h
          · rw [h] at hi
            exact absurd hi (by simp)
        obtain ⟨n, en⟩ : ∃ n, ns[i]? = some n := ⟨_, List.getElem?_eq_getElem (by omega)⟩
        obtain ⟨x, ex⟩ : ∃ x, ys[i]? = some x := ⟨_, List.getElem?_eq_getElem (by omega)⟩
        obtain ⟨r, p, dp, er, rfl, ep⟩ := hy.get ex
        rw [List.getElem?_map, en] at er
        cases er
        have ep : H'' p = some (.ins A.c_Ratio dp (rf (rN n ns.sum) (rD n ns.sum))) := ep
        have hn := hb n (List.mem_of_getElem? en)
        have a1 : atI ys (i : Int) = some (.ref p) := atI_nat ex
        have a2 : atI (ns.map V.int) (i : Int) = some (.int n) := atI_nat (by rw [List.getElem?_map, en]; rfl)
        walk_at "go"
        refine go_ixL eDl a1 ?_
        walk_at "go"
        refine go_ixL l21 a2 ?_
        walk_at "go"
        refine ⟨p, dp, _, _, n, ns.sum, rfl, ep, hne, p_mono hn (by decide), p_mono (sum_small2 hb hl) (by decide), rfl, rfl, ?_⟩
        walk_at "go"
        exact ⟨_, rfl, rfl⟩
      · rintro σ' H'' ⟨v, rfl, rfl⟩
        walk_at "go"
        exact q _ s1
    · refine we_as T.te_BadRatio fun y hy => ?_
      walk_at "go"
      refine ite_ndtZ hz ?_
      have s0 := s1.seq hs
      have h20 := s1.seq h2
      obtain ⟨x0, ex0⟩ : ∃ x, xs[0]? = some x := ⟨_, List.getElem?_eq_getElem (by have := (List.getElem?_eq_some_iff.mp en0).1; omega)⟩
      obtain ⟨r0, p0, d0, er0, rfl, ep0⟩ := (hr2.same s1).get ex0
      obtain ⟨m0, em0, rfl⟩ := rz_at er0
      rw [en0] at em0
      cases em0
      have ep0 : H1 p0 = some (.ins A.c_Ratio d0 (rf (rN n0 27720) (rD n0 27720))) := ep0
      have l0 : ¬ ((ns.length : Int) = 0) := by have := (List.getElem?_eq_some_iff.mp en0).1; omega
      walk_at "go"
      refine go_lenL h20 ?_
      rw [List.length_map]
      walk_at "go"
      rw [decide_eq_false l0]
      walk_at "go"
      refine ⟨rfl, rfl, _, _, _, rfl, he, rfl, ?_⟩
      walk_at "go"
      refine ⟨_, rfl, ?_⟩
      walk_at "go"
      refine ⟨rfl, rfl, _, _, _, rfl, he, rfl, ?_⟩
      walk_at "go"
      refine go_ixL s0 (at_get0 ex0) ?_
      walk_at "go"
      rw [decide_eq_true rfl]
      exact q _ s1
end
end K05

namespace K05
open PySem PySem.Spec PyProof.Rows L2 Gx
section
variable {P : Program} {w : World} {K : PySem.W.Frag} {mg : Str → Option Value} {base : Heap} {A : Ad}
def sp_law (K : PySem.W.Frag) : Sp := fun vs H Q _ => ∃ (a : Addr) (ns : List Int), vs = [.ref a] ∧ SqL K H a (ns.map V.int) ∧ ns.length ≤ 63 ∧ ∀ H', Q (.bl true) H'
theorem G_law (T : Txt P K mg A) : FnOk P w K mg base CX0 9 A.f_law A.d_law ["_law_script"] (sp_law K) := by
  refine (T.F_law.ok (k := 8) sc_law (fun vs H Q E h => ?_) (fun cdv Ar outer s H vs Q E hr h => ?_))
  · obtain ⟨a, ns, rfl, _⟩ := h
    rfl
  · obtain ⟨a, cs, rfl, hs, hl, q⟩ := h
    have cl := T.cl_Ratio
    have n1 := T.na_Ratio_num
    have n2 := T.na_Ratio_den
    refine ⟨_, (pss_cons (ps_set (i := 1) sc_law.nd rfl (Or.inl rfl) (pe_lst pa_nil))
      (pss_cons (ps_set (i := 2) sc_law.nd rfl (Or.inl rfl) (pe_lst pa_nil))
      (pss_cons (ps_for PassesOwn.never rfl (pi_list (pv 0)) (pg_name (i := 3) sc_law.nd rfl (Or.inl rfl))
        (pss_cons (ps_set (i := 4) sc_law.nd rfl (Or.inl rfl) (pe_op op_sub (pe_op op_mod (pe_op op_fdiv (pv 3) pe_int) pe_int) pe_int))
      (pss_cons (ps_set (i := 5) sc_law.nd rfl (Or.inl rfl) (pe_op op_add pe_int (pe_op op_mod (pe_callTy k_int1 (by rfl) T.n_int (by decide +kernel) (pa_cons (pv 3) pa_nil)) pe_int)))
      (pss_cons (ps_expr (pe_bm PySem.F.plainAttrs_list PySem.F.slot_list_append PySem.F.type_list_append mt_append (pv 1) (pa_cons (pe_op op_mul (pv 4) (pe_op op_fdiv pe_int (pv 5))) pa_nil)))
      (pss_one (ps_expr (pe_bm PySem.F.plainAttrs_list PySem.F.slot_list_append PySem.F.type_list_append mt_append (pv 2) (pa_cons (pe_make T.mk_Ratio (G_Ratio___init__ T) (hr.mono (by decide)) rfl T.m_Ratio T.b_Ratio___init___0.choose_spec.2 T.b_Ratio___init___0.choose_spec.1 passL (pa_cons (pv 4) (pa_cons (pv 5) pa_nil))) pa_nil))))))))
      (pss_cons (ps_setLc (i := 6) (own := [("_law_ratio", 9)]) (g := gName 9) (tt := tYes) rfl sc_law.nd rfl rfl (sw_true rfl rfl rfl (by decide +kernel)) (pi_list (pv 2)) (blkOk_by (N := ["_law_script", "_law_nums", "_law_ratios", "_law_cell_here", "_law_num", "_law_den", "_law_kept", "_law_low", "_law_high", "_law_ratio"]) (sc := defScope s_law) (by decide +kernel)) (fun _ _ _ _ _ => (pg_name (i := 9) sc_law.nd rfl (Or.inl rfl))) (fun _ _ _ _ _ => by exact pts_nil) (fun _ _ _ _ _ => by exact (pe_tup (pa_cons (pe_fldK (K := K) rfl (pv 9) rfl) (pa_cons (pe_fldK (K := K) rfl (pv 9) rfl) pa_nil)))))
      (pss_cons (ps_if (pt_not (pt_val (pe_call (G__law_is_ratio T) (hr.mono (by decide)) rfl T.m__law_is_ratio T.F__law_is_ratio.kp T.b__law_is_ratio .nil pass0 (pa_cons (pe_call (G_total T) (hr.mono (by decide)) rfl T.m_total T.F_total.kp T.b_total .nil pass0 (pa_cons (pv 2) pa_nil)) (pa_cons (pe_callB (cr_sum rfl) (by rfl) T.n_sum (by decide +kernel) (pa_cons (pv 1) pa_nil)) (pa_cons pe_int pa_nil))))))
        (pss_one (ps_ret pe_bl))
        pss_nil)
      (pss_cons (ps_if (pt_not (pt_val (pe_call (G__law_shares T) (hr.mono (by decide)) rfl T.m__law_shares T.F__law_shares.kp T.b__law_shares .nil pass0 (pa_cons (pv 2) (pa_cons (pv 1) pa_nil)))))
        (pss_one (ps_ret pe_bl))
        pss_nil)
      (Evl.pss_cut (ps_if (pt_cmpR op_gt (pe_callB k_len (by rfl) T.n_len (by decide +kernel) (pa_cons (pv 1) pa_nil)) pe_int (nomark _))
        (pss_cons (ps_set (i := 7) sc_law.nd rfl (Or.inl rfl) (pe_bm PySem.F.plainAttrs_list PySem.F.slot_list_index PySem.F.type_list_index mt_index (pv 1) (pa_cons (pe_callB (cr_min rfl) (by rfl) T.n_min (by decide +kernel) (pa_cons (pv 1) pa_nil)) pa_nil)))
      (pss_cons (ps_set (i := 8) sc_law.nd rfl (Or.inl rfl) (pe_bm PySem.F.plainAttrs_list PySem.F.slot_list_index PySem.F.type_list_index mt_index (pv 1) (pa_cons (pe_callB (cr_max rfl) (by rfl) T.n_max (by decide +kernel) (pa_cons (pv 1) pa_nil)) pa_nil)))
      (pss_cons (ps_if (pt_not (pt_val (pe_call (G__law_is_ratio T) (hr.mono (by decide)) rfl T.m__law_is_ratio T.F__law_is_ratio.kp T.b__law_is_ratio .nil pass0 (pa_cons (pe_call (G_least T) (hr.mono (by decide)) rfl T.m_least T.F_least.kp T.b_least .nil pass0 (pa_cons (pv 2) pa_nil)) (pa_cons (pe_ix ix_list (pv 1) (pv 7) (fun _ _ => rfl)) (pa_cons pe_int pa_nil))))))
        (pss_one (ps_ret pe_bl))
        pss_nil)
      (pss_one (ps_if (pt_not (pt_val (pe_call (G__law_is_ratio T) (hr.mono (by decide)) rfl T.m__law_is_ratio T.F__law_is_ratio.kp T.b__law_is_ratio .nil pass0 (pa_cons (pe_call (G_greatest T) (hr.mono (by decide)) rfl T.m_greatest T.F_greatest.kp T.b_greatest .nil pass0 (pa_cons (pv 2) pa_nil)) (pa_cons (pe_ix ix_list (pv 1) (pv 8) (fun _ _ => rfl)) (pa_cons pe_int pa_nil))))))
        (pss_one (ps_ret pe_bl))
        pss_nil)))))
        pss_nil)
      (pss_one (ps_ret (pe_call (G__law_same T) (hr.mono (by decide)) rfl T.m__law_same T.F__law_same.kp T.b__law_same .nil pass0 (pa_cons (pv 6) (pa_cons (pv 2) pa_nil)))))))))))), ?_⟩
    try dsimp only [cxOf, Cx.nox, Cx.wish]
    walk_at "go"
    refine ⟨by show 0 ≤ sizeLine; decide, fun ln nn => ?_⟩
    walk_at "go"
    refine ⟨by show 0 ≤ sizeLine; decide, fun lr nr => ?_⟩
    walk_at "go"
    have s0 := (same_new (o := .lst []) nn).trans (same_new (o := .lst []) nr)
    have e0 : upd (upd H ln (.lst [])) lr (.lst []) ln = some (.lst []) := by rw [upd_ne (ne_of_none upd_same nr), upd_same]
    have lnr : ln ≠ lr := ne_of_none upd_same nr
    have nr0 : H lr = none := by
      rw [upd_ne (Ne.symm lnr)] at nr
      exact nr
    refine foL (cs.map V.int) (fun i σ' H' => ∃ (u1 u2 u3 : Option V) (ns : List Int) (xs : List V), σ' = [some (.ref a), some (.ref ln), some (.ref lr), u1, u2, u3, none, none, none, none] ∧ Same H H' ∧ H' ln = some (.lst (ns.map V.int)) ∧ H' lr = some (.lst xs) ∧ RatsAt A.c_Ratio H' xs (ns.map rz) ∧ ns.length = i ∧ ∀ n ∈ ns, n.natAbs < 2 ^ 20) ⟨_, _, _, [], [], rfl, s0, e0, upd_same, .nil, rfl, fun _ h => nomatch h⟩ ?_ ?_ ?_
    · rintro i σ' H' _ ⟨u1, u2, u3, ns, xs, rfl, s, _⟩
      exact s.seq hs
    · rintro i x σ' H1 hx ⟨u1, u2, u3, ns, xs, rfl, s, en, er, hra, hnl, hb⟩
      obtain ⟨c, rfl⟩ : ∃ c : Int, x = .int c := by
        rw [List.getElem?_map] at hx
        cases e : cs[i]? with
        | none => rw [e] at hx; cases hx
        | some c => rw [e] at hx; cases hx; exact ⟨c, rfl⟩
      have hi := (List.getElem?_eq_some_iff.mp hx).1
      rw [List.length_map] at hi
      have d1 := Int.emod_nonneg c (b := 12) (by decide)
      have d2 := Int.emod_lt_of_pos c (b := 12) (by decide)
      have m1 := Int.emod_nonneg (c / 12) (b := 21) (by decide)
      have m2 := Int.emod_lt_of_pos (c / 12) (b := 21) (by decide)
      walk_at "go"
      generalize hd : 1 + c % 12 = d at *
      generalize hm : c / 12 % 21 - 10 = m at *
      have e1 : (0 : Int) ≤ 27720 / d := Int.ediv_nonneg (by decide) (by omega)
      have e2 : (27720 : Int) / d ≤ 27720 := Int.ediv_le_self _ (by decide)
      refine ⟨.inl ⟨rfl, _, .inl (.inl en)⟩, ?_⟩
      walk_at "go"
      refine go_append en (szlt (by rw [List.length_map]; omega)) ?_
      walk_at "go"
      have er1 : upd H1 ln (.lst (ns.map V.int ++ [.int (m * (27720 / d))])) lr = some (.lst xs) := by rw [upd_ne (Ne.symm lnr)]; exact er
      have hra1 : RatsAt A.c_Ratio (upd H1 ln (.lst (ns.map V.int ++ [.int (m * (27720 / d))]))) xs (ns.map rz) := hra.lst2 en
      have en1 : upd H1 ln (.lst (ns.map V.int ++ [.int (m * (27720 / d))])) ln = some (.lst (ns.map V.int ++ [.int (m * (27720 / d))])) := upd_same
      have s1 : Same H (upd H1 ln (.lst (ns.map V.int ++ [.int (m * (27720 / d))]))) := same_mut s nn
      generalize upd H1 ln (.lst (ns.map V.int ++ [.int (m * (27720 / d))])) = H2 at *
      refine ⟨.inl ⟨rfl, _, .inl (.inl er1)⟩, ?_⟩
      walk_at "go"
      intro z dz hz hdz hne
      refine ⟨z, dz, m, d, rfl, upd_same, Nat.lt_of_le_of_lt (m := 12) (by omega) (by decide), fun _ H4 s4 e4 => ⟨rfl, ?_⟩, fun h => absurd h (by omega)⟩
      have t4 := same_made hz hdz s4
      have xlen : xs.length = i := by rw [hra.1, List.length_map]; exact hnl
      walk_at "go"
      refine go_append (t4 _ _ er1) (szlt (by omega)) ?_
      walk_at "go"
      have rzm := rz_of (a := m) (b := d) (by omega) (by omega)
      refine ⟨_, _, _, ns ++ [m * (27720 / d)], xs ++ [.ref z], rfl, same_mut (s1.trans t4) nr0, ?_, upd_same, ?_, by rw [List.length_append, List.length_singleton]; omega, fun n hn => ?_⟩
      · rw [upd_ne lnr, List.map_append]
        exact t4 _ _ en1
      · rw [rzm.1, rzm.2] at e4
        rw [List.map_append]
        exact ((hra1.same t4).snoc e4).lst2 (t4 _ _ er1)
      · rcases List.mem_append.mp hn with hn | hn
        · exact hb n hn
        · rw [List.mem_singleton.mp hn, Int.natAbs_mul]
          exact Nat.lt_of_le_of_lt (Nat.mul_le_mul (show m.natAbs ≤ 10 by omega) (show (27720 / d).natAbs ≤ 27720 by omega)) (by decide)
    rintro σ' H1 ⟨u1, u2, u3, ns, xs, rfl, s, en, er, hra, hnl, hb⟩
    rw [List.length_map] at hnl
    have hlen : xs.length = ns.length := by rw [hra.1, List.length_map]
    have hl2 : ns.length ≤ 70 := by omega
    walk_at "go"
    refine lcLh xs (P := fun H k y => ∃ n t, ns[k]? = some n ∧ y = .ref t ∧ H t = some (.tup [.int (rN n 27720), .int (rD n 27720)])) stays_pair (.of er) (by omega) (fun _ => rfl) ?_ ?_
    · intro i x H' hx sH R hR
      obtain ⟨r, p, dp, er, rfl, ep⟩ := (hra.same sH).get hx
      obtain ⟨n, en, rfl⟩ := rz_at er
      have ep : H' p = some (.ins A.c_Ratio dp (rf (rN n 27720) (rD n 27720))) := ep
      walk_at "go"
      refine ⟨by show 2 ≤ sizeLine; decide, fun t nt => ?_⟩
      exact hR _ _ (same_new nt) ⟨n, t, en, rfl, upd_same⟩
    intro D ts H2 hD s2 eD htl hP
    have htl2 : ts.length = ns.length := htl.trans hlen
    have en2 := s2 _ _ en
    have er2 := s2 _ _ er
    have hra2 := hra.same s2
    have hP2 := hP
    clear en er hra s hD
    walk_at "go"
    refine ⟨lr, xs, ns, rfl, .of er2, hra2, hl2, hb, fun z H3 s3 ez => ?_⟩
    obtain ⟨dz, ez⟩ := ez
    walk_at "go"
    refine go_sum (.of (s3 _ _ en2)) ?_
    walk_at "go"
    refine ⟨z, dz, _, _, ns.sum, 27720, rfl, ez, by decide, p_mono (sum_small2 hb hl2) (by decide), by decide, rfl, rfl, ?_⟩
    walk_at "go"
    refine ⟨lr, ln, xs, ns, rfl, .of (s3 _ _ er2), hra2.same s3, hl2, hb, .of (s3 _ _ en2), fun H4 s4 => ?_⟩
    have s34 := s3.trans s4
    have en4 := s34 _ _ en2
    have er4 := s34 _ _ er2
    have hra4 := hra2.same s34
    walk_at "go"
    refine go_cut (fun σ' H' => ∃ (v7 v8 : Option V), σ' = [some (.ref a), some (.ref ln), some (.ref lr), u1, u2, u3, some (.ref D), v7, v8, none] ∧ Same H4 H') ?_ ?_
    · walk_at "go"
      refine go_lenL (.of en4) ?_
      rw [List.length_map]
      walk_at "go"
      walk_at "br"
      · intro h0
        have h0' : 0 < ns.length := by omega
        walk_at "go"
        refine ⟨.inl ⟨rfl, _, .inl (.inl en4)⟩, ?_⟩
        walk_at "go"
        refine ⟨ln, ns, rfl, .of en4, h0', fun m1 hm1 hle1 => ?_⟩
        walk_at "go"
        refine go_indexI (.of en4) hm1 fun j1 ej1 => ?_
        walk_at "go"
        refine ⟨.inl ⟨rfl, _, .inl (.inl en4)⟩, ?_⟩
        walk_at "go"
        refine ⟨ln, ns, rfl, .of en4, h0', fun m2 hm2 hle2 => ?_⟩
        walk_at "go"
        refine go_indexI (.of en4) hm2 fun j2 ej2 => ?_
        walk_at "go"
        refine ⟨lr, xs, ns, rfl, .of er4, hra4, hl2, hb, h0', fun z1 k1 H5 s5 hk1 hl1 ez1 => ?_⟩
        obtain ⟨dz1, ez1⟩ := ez1
        have ek1 : k1 = m1 := by
          have := hl1 m1 hm1
          have := hle1 k1 hk1
          omega
        subst ek1
        have a1 : atI (ns.map V.int) (j1 : Int) = some (.int k1) := atI_nat (by rw [List.getElem?_map, ej1]; rfl)
        have a2 : atI (ns.map V.int) (j2 : Int) = some (.int m2) := atI_nat (by rw [List.getElem?_map, ej2]; rfl)
        walk_at "go"
        refine go_ixL (.of (s5 _ _ en4)) a1 ?_
        walk_at "go"
        refine ⟨z1, dz1, _, _, k1, 27720, rfl, ez1, by decide, p_mono (hb k1 hk1) (by decide), by decide, rfl, rfl, ?_⟩
        walk_at "go"
        refine ⟨lr, xs, ns, rfl, .of (s5 _ _ er4), hra4.same s5, hl2, hb, h0', fun z2 k2 H6 s6 hk2 hg2 ez2 => ?_⟩
        obtain ⟨dz2, ez2⟩ := ez2
        have ek2 : k2 = m2 := by
          have := hg2 m2 hm2
          have := hle2 k2 hk2
          omega
        subst ek2
        have s56 := s5.trans s6
        walk_at "go"
        refine go_ixL (.of (s56 _ _ en4)) a2 ?_
        walk_at "go"
        refine ⟨z2, dz2, _, _, k2, 27720, rfl, ez2, by decide, p_mono (hb k2 hk2) (by decide), by decide, rfl, rfl, ?_⟩
        walk_at "go"
        exact ⟨_, _, rfl, s56⟩
      · intro _
        walk_at "go"
        exact ⟨_, _, rfl, Same.refl _⟩
    rintro σ' H7 ⟨v7, v8, rfl, s7⟩
    have s27 := s34.trans s7
    walk_at "go"
    refine ⟨D, lr, ts, xs, ns, rfl, .of (s27 _ _ eD), ⟨htl2, fun k y hk => ?_⟩, .of (s27 _ _ er2), hra2.same s27, hl2, q _⟩
    obtain ⟨n, t, e1, e2, e3⟩ := hP2 k y hk
    exact ⟨n, t, e1, e2, s27 _ _ e3⟩
end
end K05

set_option pp.maxSteps 60
namespace K05
open PySem L2 Gx
theorem all_mk {P : Program} {w : World} {K : PySem.W.Frag} {h : Heap} {mg : Str → Option Value} {f_Ratio___init__ f_Ratio___add__ f_Ratio_over f_Ratio_below f_total f_least f_greatest f_shares f__law_is_integer f__law_gcd f__law_is_ratio f__law_same f__law_shares f_law c_Ratio c_BadRatio i_BadRatio : Addr} (X : K.In h) (G : h.Ns mainGlobals mg) {fa : Addr} (hfa : mg "law" = some (.ref fa))
    {oc_Ratio___init__ kV_Ratio___init__ dc_Ratio___init__ pm_Ratio___init__ cd_Ratio___init__ ct_Ratio___init__ : Value} {od_Ratio___init__ an_Ratio___init__ : Option Addr} {sl_Ratio___init__ : Array (Option Value)} {t_Ratio___init__ : Addr} {tc_Ratio___init__ : Value} {td_Ratio___init__ : Option Addr} {tn_Ratio___init__ : Nat} {ts_Ratio___init__ : Array (Option Value)} {tk_one : Tok}
    {oc_Ratio___add__ kV_Ratio___add__ dc_Ratio___add__ pm_Ratio___add__ cd_Ratio___add__ ct_Ratio___add__ : Value} {od_Ratio___add__ an_Ratio___add__ : Option Addr} {sl_Ratio___add__ : Array (Option Value)}
    {oc_Ratio_over kV_Ratio_over dc_Ratio_over pm_Ratio_over cd_Ratio_over ct_Ratio_over : Value} {od_Ratio_over an_Ratio_over : Option Addr} {sl_Ratio_over : Array (Option Value)}
    {oc_Ratio_below kV_Ratio_below dc_Ratio_below pm_Ratio_below cd_Ratio_below ct_Ratio_below : Value} {od_Ratio_below an_Ratio_below : Option Addr} {sl_Ratio_below : Array (Option Value)}
    {oc_total kV_total dc_total pm_total cd_total ct_total : Value} {od_total an_total : Option Addr} {sl_total : Array (Option Value)}
    {oc_least kV_least dc_least pm_least cd_least ct_least : Value} {od_least an_least : Option Addr} {sl_least : Array (Option Value)}
    {oc_greatest kV_greatest dc_greatest pm_greatest cd_greatest ct_greatest : Value} {od_greatest an_greatest : Option Addr} {sl_greatest : Array (Option Value)}
    {oc_shares kV_shares dc_shares pm_shares cd_shares ct_shares : Value} {od_shares an_shares : Option Addr} {sl_shares : Array (Option Value)}
    {oc__law_is_integer kV__law_is_integer dc__law_is_integer pm__law_is_integer cd__law_is_integer ct__law_is_integer : Value} {od__law_is_integer an__law_is_integer : Option Addr} {sl__law_is_integer : Array (Option Value)}
    {oc__law_gcd kV__law_gcd dc__law_gcd pm__law_gcd cd__law_gcd ct__law_gcd : Value} {od__law_gcd an__law_gcd : Option Addr} {sl__law_gcd : Array (Option Value)}
    {oc__law_is_ratio kV__law_is_ratio dc__law_is_ratio pm__law_is_ratio cd__law_is_ratio ct__law_is_ratio : Value} {od__law_is_ratio an__law_is_ratio : Option Addr} {sl__law_is_ratio : Array (Option Value)}
    {oc__law_same kV__law_same dc__law_same pm__law_same cd__law_same ct__law_same : Value} {od__law_same an__law_same : Option Addr} {sl__law_same : Array (Option Value)}
    {oc__law_shares kV__law_shares dc__law_shares pm__law_shares cd__law_shares ct__law_shares : Value} {od__law_shares an__law_shares : Option Addr} {sl__law_shares : Array (Option Value)}
    {oc_law kV_law dc_law pm_law cd_law ct_law : Value} {od_law an_law : Option Addr} {sl_law : Array (Option Value)}
    {en_BadRatio eq_BadRatio : Str} {eN_BadRatio eG_BadRatio : Addr} {ebs_BadRatio : List Value} {esn_BadRatio : List Str} {esub_BadRatio : List Value} {eab_BadRatio : Bool} {ecol_BadRatio : Option Bool} {edd_BadRatio : Option Addr} {e0_BadRatio e1_BadRatio e2_BadRatio e3_BadRatio e5_BadRatio : Option Value}
    {xoc_BadRatio xdc_BadRatio xpm_BadRatio xct_BadRatio xcl_BadRatio xccl_BadRatio : Value} {xod_BadRatio xan_BadRatio xcld_BadRatio xcdd_BadRatio : Option Addr} {xda_BadRatio xcc_BadRatio : Addr} {xos_BadRatio xcs_BadRatio xccs_BadRatio : Array (Option Value)} {xvs_BadRatio : Array Value} {xfi_BadRatio : Str} {xtf_BadRatio : Tok}
    (C_Ratio : PySem.W.nsIn K mainGlobals "Ratio" = some (some (.ref c_Ratio)))
    (g_Ratio___init__ : PySem.W.findIn K (.ref c_Ratio) "__init__" = some (some (.ref f_Ratio___init__)))
    (i_Ratio___init__ : PySem.W.isFn K (.ref f_Ratio___init__) = true)
    (l_Ratio___init__ : K.lookup f_Ratio___init__ = some ⟨oc_Ratio___init__, od_Ratio___init__, .func (PySem.W.fnOf "__init__" "Ratio.__init__" (defArgs s_Ratio___init__) (defBody s_Ratio___init__) (defScope s_Ratio___init__) (.ref t_Ratio___init__) kV_Ratio___init__ dc_Ratio___init__ pm_Ratio___init__ an_Ratio___init__ cd_Ratio___init__ ct_Ratio___init__), sl_Ratio___init__⟩)
    (t_Ratio___init___ : K.lookup t_Ratio___init__ = some ⟨tc_Ratio___init__, td_Ratio___init__, .seq #[.int 1 tk_one] tn_Ratio___init__, ts_Ratio___init__⟩)
    (c_Ratio___init___ : PySem.W.codeIn K cd_Ratio___init__ "Ratio.__init__" = true)
    (k_Ratio___init__ : PySem.W.keepIn K (.ref f_Ratio___init__) = true)
    (g_Ratio___add__ : PySem.W.findIn K (.ref c_Ratio) "__add__" = some (some (.ref f_Ratio___add__)))
    (i_Ratio___add__ : PySem.W.isFn K (.ref f_Ratio___add__) = true)
    (l_Ratio___add__ : K.lookup f_Ratio___add__ = some ⟨oc_Ratio___add__, od_Ratio___add__, .func (PySem.W.fnOf "__add__" "Ratio.__add__" (defArgs s_Ratio___add__) (defBody s_Ratio___add__) (defScope s_Ratio___add__) .none kV_Ratio___add__ dc_Ratio___add__ pm_Ratio___add__ an_Ratio___add__ cd_Ratio___add__ ct_Ratio___add__), sl_Ratio___add__⟩)
    (c_Ratio___add___ : PySem.W.codeIn K cd_Ratio___add__ "Ratio.__add__" = true)
    (k_Ratio___add__ : PySem.W.keepIn K (.ref f_Ratio___add__) = true)
    (g_Ratio_over : PySem.W.findIn K (.ref c_Ratio) "over" = some (some (.ref f_Ratio_over)))
    (i_Ratio_over : PySem.W.isFn K (.ref f_Ratio_over) = true)
    (l_Ratio_over : K.lookup f_Ratio_over = some ⟨oc_Ratio_over, od_Ratio_over, .func (PySem.W.fnOf "over" "Ratio.over" (defArgs s_Ratio_over) (defBody s_Ratio_over) (defScope s_Ratio_over) .none kV_Ratio_over dc_Ratio_over pm_Ratio_over an_Ratio_over cd_Ratio_over ct_Ratio_over), sl_Ratio_over⟩)
    (c_Ratio_over_ : PySem.W.codeIn K cd_Ratio_over "Ratio.over" = true)
    (k_Ratio_over : PySem.W.keepIn K (.ref f_Ratio_over) = true)
    (g_Ratio_below : PySem.W.findIn K (.ref c_Ratio) "below" = some (some (.ref f_Ratio_below)))
    (i_Ratio_below : PySem.W.isFn K (.ref f_Ratio_below) = true)
    (l_Ratio_below : K.lookup f_Ratio_below = some ⟨oc_Ratio_below, od_Ratio_below, .func (PySem.W.fnOf "below" "Ratio.below" (defArgs s_Ratio_below) (defBody s_Ratio_below) (defScope s_Ratio_below) .none kV_Ratio_below dc_Ratio_below pm_Ratio_below an_Ratio_below cd_Ratio_below ct_Ratio_below), sl_Ratio_below⟩)
    (c_Ratio_below_ : PySem.W.codeIn K cd_Ratio_below "Ratio.below" = true)
    (k_Ratio_below : PySem.W.keepIn K (.ref f_Ratio_below) = true)
    (g_total : PySem.W.nsIn K mainGlobals "total" = some (some (.ref f_total)))
    (i_total : PySem.W.isFn K (.ref f_total) = true)
    (l_total : K.lookup f_total = some ⟨oc_total, od_total, .func (PySem.W.fnOf "total" "total" (defArgs s_total) (defBody s_total) (defScope s_total) .none kV_total dc_total pm_total an_total cd_total ct_total), sl_total⟩)
    (c_total_ : PySem.W.codeIn K cd_total "total" = true)
    (k_total : PySem.W.keepIn K (.ref f_total) = true)
    (g_least : PySem.W.nsIn K mainGlobals "least" = some (some (.ref f_least)))
    (i_least : PySem.W.isFn K (.ref f_least) = true)
    (l_least : K.lookup f_least = some ⟨oc_least, od_least, .func (PySem.W.fnOf "least" "least" (defArgs s_least) (defBody s_least) (defScope s_least) .none kV_least dc_least pm_least an_least cd_least ct_least), sl_least⟩)
    (c_least_ : PySem.W.codeIn K cd_least "least" = true)
    (k_least : PySem.W.keepIn K (.ref f_least) = true)
    (g_greatest : PySem.W.nsIn K mainGlobals "greatest" = some (some (.ref f_greatest)))
    (i_greatest : PySem.W.isFn K (.ref f_greatest) = true)
    (l_greatest : K.lookup f_greatest = some ⟨oc_greatest, od_greatest, .func (PySem.W.fnOf "greatest" "greatest" (defArgs s_greatest) (defBody s_greatest) (defScope s_greatest) .none kV_greatest dc_greatest pm_greatest an_greatest cd_greatest ct_greatest), sl_greatest⟩)
    (c_greatest_ : PySem.W.codeIn K cd_greatest "greatest" = true)
    (k_greatest : PySem.W.keepIn K (.ref f_greatest) = true)
    (g_shares : PySem.W.nsIn K mainGlobals "shares" = some (some (.ref f_shares)))
    (i_shares : PySem.W.isFn K (.ref f_shares) = true)
    (l_shares : K.lookup f_shares = some ⟨oc_shares, od_shares, .func (PySem.W.fnOf "shares" "shares" (defArgs s_shares) (defBody s_shares) (defScope s_shares) .none kV_shares dc_shares pm_shares an_shares cd_shares ct_shares), sl_shares⟩)
    (c_shares_ : PySem.W.codeIn K cd_shares "shares" = true)
    (k_shares : PySem.W.keepIn K (.ref f_shares) = true)
    (g__law_is_integer : PySem.W.nsIn K mainGlobals "_law_is_integer" = some (some (.ref f__law_is_integer)))
    (i__law_is_integer : PySem.W.isFn K (.ref f__law_is_integer) = true)
    (l__law_is_integer : K.lookup f__law_is_integer = some ⟨oc__law_is_integer, od__law_is_integer, .func (PySem.W.fnOf "_law_is_integer" "_law_is_integer" (defArgs s__law_is_integer) (defBody s__law_is_integer) (defScope s__law_is_integer) .none kV__law_is_integer dc__law_is_integer pm__law_is_integer an__law_is_integer cd__law_is_integer ct__law_is_integer), sl__law_is_integer⟩)
    (c__law_is_integer_ : PySem.W.codeIn K cd__law_is_integer "_law_is_integer" = true)
    (k__law_is_integer : PySem.W.keepIn K (.ref f__law_is_integer) = true)
    (g__law_gcd : PySem.W.nsIn K mainGlobals "_law_gcd" = some (some (.ref f__law_gcd)))
    (i__law_gcd : PySem.W.isFn K (.ref f__law_gcd) = true)
    (l__law_gcd : K.lookup f__law_gcd = some ⟨oc__law_gcd, od__law_gcd, .func (PySem.W.fnOf "_law_gcd" "_law_gcd" (defArgs s__law_gcd) (defBody s__law_gcd) (defScope s__law_gcd) .none kV__law_gcd dc__law_gcd pm__law_gcd an__law_gcd cd__law_gcd ct__law_gcd), sl__law_gcd⟩)
    (c__law_gcd_ : PySem.W.codeIn K cd__law_gcd "_law_gcd" = true)
    (k__law_gcd : PySem.W.keepIn K (.ref f__law_gcd) = true)
    (g__law_is_ratio : PySem.W.nsIn K mainGlobals "_law_is_ratio" = some (some (.ref f__law_is_ratio)))
    (i__law_is_ratio : PySem.W.isFn K (.ref f__law_is_ratio) = true)
    (l__law_is_ratio : K.lookup f__law_is_ratio = some ⟨oc__law_is_ratio, od__law_is_ratio, .func (PySem.W.fnOf "_law_is_ratio" "_law_is_ratio" (defArgs s__law_is_ratio) (defBody s__law_is_ratio) (defScope s__law_is_ratio) .none kV__law_is_ratio dc__law_is_ratio pm__law_is_ratio an__law_is_ratio cd__law_is_ratio ct__law_is_ratio), sl__law_is_ratio⟩)
    (c__law_is_ratio_ : PySem.W.codeIn K cd__law_is_ratio "_law_is_ratio" = true)
    (k__law_is_ratio : PySem.W.keepIn K (.ref f__law_is_ratio) = true)
    (g__law_same : PySem.W.nsIn K mainGlobals "_law_same" = some (some (.ref f__law_same)))
    (i__law_same : PySem.W.isFn K (.ref f__law_same) = true)
    (l__law_same : K.lookup f__law_same = some ⟨oc__law_same, od__law_same, .func (PySem.W.fnOf "_law_same" "_law_same" (defArgs s__law_same) (defBody s__law_same) (defScope s__law_same) .none kV__law_same dc__law_same pm__law_same an__law_same cd__law_same ct__law_same), sl__law_same⟩)
    (c__law_same_ : PySem.W.codeIn K cd__law_same "_law_same" = true)
    (k__law_same : PySem.W.keepIn K (.ref f__law_same) = true)
    (g__law_shares : PySem.W.nsIn K mainGlobals "_law_shares" = some (some (.ref f__law_shares)))
    (i__law_shares : PySem.W.isFn K (.ref f__law_shares) = true)
    (l__law_shares : K.lookup f__law_shares = some ⟨oc__law_shares, od__law_shares, .func (PySem.W.fnOf "_law_shares" "_law_shares" (defArgs s__law_shares) (defBody s__law_shares) (defScope s__law_shares) .none kV__law_shares dc__law_shares pm__law_shares an__law_shares cd__law_shares ct__law_shares), sl__law_shares⟩)
    (c__law_shares_ : PySem.W.codeIn K cd__law_shares "_law_shares" = true)
    (k__law_shares : PySem.W.keepIn K (.ref f__law_shares) = true)
    (g_law : PySem.W.nsIn K mainGlobals "law" = some (some (.ref f_law)))
    (i_law : PySem.W.isFn K (.ref f_law) = true)
    (l_law : K.lookup f_law = some ⟨oc_law, od_law, .func (PySem.W.fnOf "law" "law" (defArgs s_law) (defBody s_law) (defScope s_law) .none kV_law dc_law pm_law an_law cd_law ct_law), sl_law⟩)
    (c_law_ : PySem.W.codeIn K cd_law "law" = true)
    (k_law : PySem.W.keepIn K (.ref f_law) = true)
    (pg_Ratio : PySem.W.plainGet K c_Ratio Str.empty = true)
    (hd_Ratio : PySem.W.hasDictIn K c_Ratio = true)
    (po_Ratio : PySem.W.plainOver K c_Ratio = true)
    (sa_Ratio : PySem.W.findIn K (.ref c_Ratio) "__setattr__" = some (some (.builtin "object.__setattr__")))
    (mk_Ratio : PySem.W.makesIn K c_Ratio = true)
    (kc_Ratio : PySem.W.keepIn K (.ref c_Ratio) = true)
    (na_Ratio_num : PySem.W.findIn K (.ref c_Ratio) "num" = some none)
    (na_Ratio_den : PySem.W.findIn K (.ref c_Ratio) "den" = some none)
    (ha_Ratio : PySem.W.findIn K (.ref c_Ratio) "__class__" = some (some (.builtin "object.__class__")))
    (hn_Ratio : PySem.W.specialIn K (.builtin "object.__class__") "__get__" = some (some (.builtin "getset_descriptor.__get__")))
    (ht_Ratio : PySem.W.takesIn K (.builtin "object.__class__") = some true)
    (hm_Ratio : PySem.W.mroIn K c_Ratio (.type "object") = some true)
    (so_Ratio : PySem.W.selfFirst K c_Ratio = true)
    (nf_Ratio : PySem.W.notFirst K c_Ratio (.ref c_Ratio) = true)
    (Cx_BadRatio : PySem.W.nsIn K mainGlobals "BadRatio" = some (some (.ref c_BadRatio)))
    (xL_BadRatio : K.lookup c_BadRatio = some (excClassObj en_BadRatio eq_BadRatio c_BadRatio eN_BadRatio ebs_BadRatio [.ref eG_BadRatio, .type "ValueError", .type "Exception", .type "BaseException", .type "object"] true esn_BadRatio esub_BadRatio eab_BadRatio ecol_BadRatio edd_BadRatio e0_BadRatio e1_BadRatio e2_BadRatio e3_BadRatio e5_BadRatio "ValueError.__new__"))
    (xsa_BadRatio : PySem.W.findIn K (.ref c_BadRatio) "__setattr__" = some (some (.builtin "object.__setattr__")))
    (xga_BadRatio : PySem.W.findIn K (.ref c_BadRatio) "__getattribute__" = some (some (.builtin "BaseException.__getattribute__")))
    (xgg_BadRatio : PySem.W.findIn K (.ref c_BadRatio) "__getattr__" = some none)
    (xhd_BadRatio : PySem.W.hasDictIn K c_BadRatio = true)
    (xno_BadRatio : PySem.W.findIn K (.ref c_BadRatio) "value" = some none)
    (xiC_BadRatio : PySem.W.findIn K (.ref c_BadRatio) "__init__" = some (some (.ref i_BadRatio)))
    (xtC_BadRatio : PySem.W.typeIn K (.ref i_BadRatio) = some (.type "function"))
    (xkC_BadRatio : PySem.W.keepIn K (.ref c_BadRatio) = true)
    (xex_BadRatio : PySem.W.subIn K (.ref c_BadRatio) (.type "BaseException") = some true)
    (xty_BadRatio : PySem.W.typeIn K (.ref c_BadRatio) = some (.type "type"))
    (xop_BadRatio : PySem.W.nsIn K cStatics "thirdparty.any" = some none)
    (ksx_BadRatio : PySem.W.ks_superIn K c_BadRatio c_BadRatio "__init__" = some (some (.builtin "ValueError.__init__")))
    (xve_BadRatio : PySem.W.subIn K (.ref c_BadRatio) (.type "ValueError") = some true)
    (xmc_BadRatio : PySem.W.mroIn K c_BadRatio (.ref c_BadRatio) = some true)
    (xsub_BadRatio : PySem.W.subIn K (.ref c_BadRatio) (.ref c_BadRatio) = some true)
    (xsu_BadRatio : PySem.W.nsIn K mainGlobals "super" = some none)
    (rflt_BadRatio : (P.main.scope.names.lookup ("super" : Str)).isSome = false)
    (xl_BadRatio : K.lookup i_BadRatio = some ⟨xoc_BadRatio, xod_BadRatio, .func (PySem.W.ksFn "__init__" "BadRatio.__init__" (defArgs (inClass (top 4) 0)) (defBody (inClass (top 4) 0)) (defScope (inClass (top 4) 0)) .none .none xdc_BadRatio xpm_BadRatio xan_BadRatio (.ref xda_BadRatio) xct_BadRatio xcc_BadRatio), xos_BadRatio⟩)
    (xc_BadRatio : PySem.W.codeIn K (.ref xda_BadRatio) "BadRatio.__init__" = true)
    (xda__BadRatio : K.lookup xda_BadRatio = some ⟨xccl_BadRatio, xcdd_BadRatio, .fields xvs_BadRatio, xccs_BadRatio⟩)
    (rflv_BadRatio : xvs_BadRatio[2]? = some (.str xfi_BadRatio xtf_BadRatio))
    (rflf_BadRatio : ((P.main.file : Str) == xfi_BadRatio) = true)
    (xcc__BadRatio : K.lookup xcc_BadRatio = some ⟨xcl_BadRatio, xcld_BadRatio, .cell (some (.ref c_BadRatio)), xcs_BadRatio⟩)
    (gf_gcd : PySem.W.nsIn K mainGlobals "gcd" = some (some (.builtin "math.gcd")))
    (n_isinstance : PySem.W.nsIn K mainGlobals "isinstance" = some none)
    (n_str : PySem.W.nsIn K mainGlobals "str" = some none)
    (n_len : PySem.W.nsIn K mainGlobals "len" = some none)
    (n_int : PySem.W.nsIn K mainGlobals "int" = some none)
    (n_bool : PySem.W.nsIn K mainGlobals "bool" = some none)
    (n_abs : PySem.W.nsIn K mainGlobals "abs" = some none)
    (n_range : PySem.W.nsIn K mainGlobals "range" = some none)
    (n_sum : PySem.W.nsIn K mainGlobals "sum" = some none)
    (n_list : PySem.W.nsIn K mainGlobals "list" = some none)
    (n_min : PySem.W.nsIn K mainGlobals "min" = some none)
    (n_max : PySem.W.nsIn K mainGlobals "max" = some none) :
    ∃ fd : FuncData, (∀ (s : Shared) (v : Value), BindsTo s fd ⟨[v], []⟩ [("_law_script", v)]) ∧ ∀ base : Heap, K.In base → base.Ns mainGlobals mg → FnOk P w K mg base CX0 9 fa fd ["_law_script"] (sp_law K) := by
  have e := hfa.symm.trans (PySem.W.mg_of X G g_law)
  cases e
  have F_Ratio___init__ : FunD K "__init__" "Ratio.__init__" (defArgs s_Ratio___init__) (defBody s_Ratio___init__) (defScope s_Ratio___init__) [V.int 1] [] f_Ratio___init__ _ := ⟨⟨_, _, _, _, _, _, _, _, _, _, rfl, l_Ratio___init__, c_Ratio___init___, .inr ⟨by simp, t_Ratio___init__, _, [.int 1 tk_one], _, rfl, t_Ratio___init___, rfl, (.cons ⟨_, rfl⟩ .nil)⟩, .inl rfl⟩, k_Ratio___init__⟩
  have F_Ratio___add__ := fun_mk (st := s_Ratio___add__) l_Ratio___add__ c_Ratio___add___ k_Ratio___add__
  have F_Ratio_over := fun_mk (st := s_Ratio_over) l_Ratio_over c_Ratio_over_ k_Ratio_over
  have F_Ratio_below := fun_mk (st := s_Ratio_below) l_Ratio_below c_Ratio_below_ k_Ratio_below
  have F_total := fun_mk (st := s_total) l_total c_total_ k_total
  have F_least := fun_mk (st := s_least) l_least c_least_ k_least
  have F_greatest := fun_mk (st := s_greatest) l_greatest c_greatest_ k_greatest
  have F_shares := fun_mk (st := s_shares) l_shares c_shares_ k_shares
  have F__law_is_integer := fun_mk (st := s__law_is_integer) l__law_is_integer c__law_is_integer_ k__law_is_integer
  have F__law_gcd := fun_mk (st := s__law_gcd) l__law_gcd c__law_gcd_ k__law_gcd
  have F__law_is_ratio := fun_mk (st := s__law_is_ratio) l__law_is_ratio c__law_is_ratio_ k__law_is_ratio
  have F__law_same := fun_mk (st := s__law_same) l__law_same c__law_same_ k__law_same
  have F__law_shares := fun_mk (st := s__law_shares) l__law_shares c__law_shares_ k__law_shares
  have F_law := fun_mk (st := s_law) l_law c_law_ k_law
  have T : Txt P K mg ⟨f_Ratio___init__, _, f_Ratio___add__, _, f_Ratio_over, _, f_Ratio_below, _, f_total, _, f_least, _, f_greatest, _, f_shares, _, f__law_is_integer, _, f__law_gcd, _, f__law_is_ratio, _, f__law_same, _, f__law_shares, _, f_law, _, c_Ratio, c_BadRatio, i_BadRatio⟩ := ⟨F_Ratio___init__,
    (F_Ratio___init__.binds1 (ps := ["self", "num", "den"]) 3 1 (by simp) rfl fun _ _ _ _ _ _ _ us its hu hi => match us, hu, its, hi with | [_, _, _], _, [_], _ => ⟨_, rfl, rfl⟩),
    (F_Ratio___init__.binds1 (ps := ["self", "num", "den"]) 2 0 (by simp) rfl fun _ _ _ _ _ _ _ us its hu hi => match us, hu, its, hi with | [_, _], _, [_], _ => ⟨_, rfl, rfl⟩),
    ⟨mk_Ratio, g_Ratio___init__, i_Ratio___init__, kc_Ratio⟩,
    F_Ratio___add__,
    (F_Ratio___add__.binds (ps := ["self", "other"]) fun _ _ _ _ _ _ us hl => match us, hl with | [_, _], _ => rfl),
    ⟨g_Ratio___add__, i_Ratio___add__, k_Ratio___add__⟩,
    F_Ratio_over,
    (F_Ratio_over.binds (ps := ["self", "other"]) fun _ _ _ _ _ _ us hl => match us, hl with | [_, _], _ => rfl),
    ⟨g_Ratio_over, i_Ratio_over, k_Ratio_over⟩,
    F_Ratio_below,
    (F_Ratio_below.binds (ps := ["self", "other"]) fun _ _ _ _ _ _ us hl => match us, hl with | [_, _], _ => rfl),
    ⟨g_Ratio_below, i_Ratio_below, k_Ratio_below⟩,
    F_total,
    (F_total.binds (ps := ["ratios"]) fun _ _ _ _ _ _ us hl => match us, hl with | [_], _ => rfl),
    (PySem.W.mg_of X G g_total),
    F_least,
    (F_least.binds (ps := ["ratios"]) fun _ _ _ _ _ _ us hl => match us, hl with | [_], _ => rfl),
    (PySem.W.mg_of X G g_least),
    F_greatest,
    (F_greatest.binds (ps := ["ratios"]) fun _ _ _ _ _ _ us hl => match us, hl with | [_], _ => rfl),
    (PySem.W.mg_of X G g_greatest),
    F_shares,
    (F_shares.binds (ps := ["ratios"]) fun _ _ _ _ _ _ us hl => match us, hl with | [_], _ => rfl),
    (PySem.W.mg_of X G g_shares),
    F__law_is_integer,
    (F__law_is_integer.binds (ps := ["_law_actual"]) fun _ _ _ _ _ _ us hl => match us, hl with | [_], _ => rfl),
    (PySem.W.mg_of X G g__law_is_integer),
    F__law_gcd,
    (F__law_gcd.binds (ps := ["_law_a", "_law_b"]) fun _ _ _ _ _ _ us hl => match us, hl with | [_, _], _ => rfl),
    (PySem.W.mg_of X G g__law_gcd),
    F__law_is_ratio,
    (F__law_is_ratio.binds (ps := ["_law_actual", "_law_num", "_law_den"]) fun _ _ _ _ _ _ us hl => match us, hl with | [_, _, _], _ => rfl),
    (PySem.W.mg_of X G g__law_is_ratio),
    F__law_same,
    (F__law_same.binds (ps := ["_law_left", "_law_right"]) fun _ _ _ _ _ _ us hl => match us, hl with | [_, _], _ => rfl),
    (PySem.W.mg_of X G g__law_same),
    F__law_shares,
    (F__law_shares.binds (ps := ["_law_ratios", "_law_nums"]) fun _ _ _ _ _ _ us hl => match us, hl with | [_, _], _ => rfl),
    (PySem.W.mg_of X G g__law_shares),
    F_law,
    (F_law.binds (ps := ["_law_script"]) fun _ _ _ _ _ _ us hl => match us, hl with | [_], _ => rfl),
    (PySem.W.mg_of X G g_law),
    (PySem.W.mg_of X G C_Ratio),
    ⟨pg_Ratio, hd_Ratio, po_Ratio, sa_Ratio⟩,
    na_Ratio_num,
    na_Ratio_den,
    ⟨⟨pg_Ratio, hd_Ratio, po_Ratio, sa_Ratio⟩, ha_Ratio, hn_Ratio, ht_Ratio, hm_Ratio, by unfold PySem.W.kitOne; simp⟩,
    so_Ratio,
    nf_Ratio,
    (PySem.W.mg_of X G Cx_BadRatio),
    ⟨⟨_, _, _, _, _, _, _, _, _, _, _, _, _, _, _, xL_BadRatio, by rfl⟩, xsa_BadRatio, xno_BadRatio, xiC_BadRatio, xtC_BadRatio, xkC_BadRatio, xex_BadRatio, xty_BadRatio, xop_BadRatio, ksx_BadRatio, xve_BadRatio, xmc_BadRatio, (PySem.W.mg_none_of X G xsu_BadRatio), rflt_BadRatio, ⟨by decide, by decide, by decide, by decide, fun _ _ _ _ _ _ _ _ _ _ _ _ => rfl⟩, ⟨_, _, _, _, _, _, _, _, _, _, _, _, _, _, _, _, _, _, _, _, _, _, _, _, _, _, _, _, _, _, _, _, _, xl_BadRatio, xc_BadRatio, xda__BadRatio, rflv_BadRatio, rflf_BadRatio, xcc__BadRatio, _, fun _ => rfl⟩⟩,
    ⟨xga_BadRatio, xgg_BadRatio, xex_BadRatio, xhd_BadRatio⟩,
    (PySem.W.exm_ref xex_BadRatio xhd_BadRatio xty_BadRatio xsub_BadRatio),
    (PySem.W.mg_of X G gf_gcd),
    (PySem.W.mg_none_of X G n_isinstance),
    (PySem.W.mg_none_of X G n_str),
    (PySem.W.mg_none_of X G n_len),
    (PySem.W.mg_none_of X G n_int),
    (PySem.W.mg_none_of X G n_bool),
    (PySem.W.mg_none_of X G n_abs),
    (PySem.W.mg_none_of X G n_range),
    (PySem.W.mg_none_of X G n_sum),
    (PySem.W.mg_none_of X G n_list),
    (PySem.W.mg_none_of X G n_min),
    (PySem.W.mg_none_of X G n_max)⟩
  exact ⟨PySem.W.fnOf "law" "law" (defArgs s_law) (defBody s_law) (defScope s_law) .none kV_law dc_law pm_law an_law cd_law ct_law, fun s v => .of_eq rfl, fun base _ _ => G_law (P := P) (w := w) (base := base) T⟩
theorem walk {l : PySem.W.OpenLaw} {q : Program} {loose : List Str} {XP : (Str → Option Value) → Heap → Prop} {YP : World → Heap → Prop} {d : DefRec} {K : Params → PySem.W.Frag} (hn : l.most = some 63) (hdf : d.params.defaults = [])
    (hY : ∀ (w : World) (h : Heap), YP w h → (K w.params).In h)
    (F : ∀ (w : World) (mg : Str → Option Value) (fa : Addr) (h : Heap), (K w.params).In h → h.Ns mainGlobals mg → mg d.name = some (.ref fa) →
      ∃ fd : FuncData, (∀ (s : Shared) (u : Value), BindsTo s fd ⟨[u], []⟩ [("_law_script", u)]) ∧ ∀ base : Heap, (K w.params).In base → base.Ns mainGlobals mg → FnOk l.prog w (K w.params) mg base CX0 9 fa fd ["_law_script"] (sp_law (K w.params))) :
    PySem.W.WalkO q loose XP YP l.row.toRowW d [] (fun f vs => PySem.call f vs) :=
  L2.walk_of (n := 63) (k := 9) (x := "_law_script") (CX := fun _ => CX0) (sp := fun w => sp_law (K w.params)) hn (by decide) hdf ⟨rfl, by decide, by decide⟩ hY F (fun _ _ a ns hl _ hS => ⟨a, ns, rfl, hS, hl, fun _ => rfl⟩) fun _ _ _ _ _ z => z
end K05
open PySem PySem.W PyProof.Rows
set_option maxRecDepth 100000 in
set_option maxHeartbeats 0 in
theorem PySem.Challenge.cw_sureplay_k05_lists_of_ratios_holds : PySem.Challenge.rw_sureplay_k05_lists_of_ratios.Holds := by
  w_on; o_law; k_head; (case hw => w_witness2)
  k_fill
  refine K05.walk (l := PySem.Challenge.rw_sureplay_k05_lists_of_ratios) rfl rfl (fun w h Y => PySem.W.kIn_of Y) ?F
  case F =>
    intro w mg fa h KX G hmg
    refine' K05.all_mk KX G hmg ?C_Ratio ?g_Ratio___init__ ?i_Ratio___init__ ?l_Ratio___init__ ?t_Ratio___init___ ?c_Ratio___init___ ?k_Ratio___init__ ?g_Ratio___add__ ?i_Ratio___add__ ?l_Ratio___add__ ?c_Ratio___add___ ?k_Ratio___add__ ?g_Ratio_over ?i_Ratio_over ?l_Ratio_over ?c_Ratio_over_ ?k_Ratio_over ?g_Ratio_below ?i_Ratio_below ?l_Ratio_below ?c_Ratio_below_ ?k_Ratio_below ?g_total ?i_total ?l_total ?c_total_ ?k_total ?g_least ?i_least ?l_least ?c_least_ ?k_least ?g_greatest ?i_greatest ?l_greatest ?c_greatest_ ?k_greatest ?g_shares ?i_shares ?l_shares ?c_shares_ ?k_shares ?g__law_is_integer ?i__law_is_integer ?l__law_is_integer ?c__law_is_integer_ ?k__law_is_integer ?g__law_gcd ?i__law_gcd ?l__law_gcd ?c__law_gcd_ ?k__law_gcd ?g__law_is_ratio ?i__law_is_ratio ?l__law_is_ratio ?c__law_is_ratio_ ?k__law_is_ratio ?g__law_same ?i__law_same ?l__law_same ?c__law_same_ ?k__law_same ?g__law_shares ?i__law_shares ?l__law_shares ?c__law_shares_ ?k__law_shares ?g_law ?i_law ?l_law ?c_law_ ?k_law ?pg_Ratio ?hd_Ratio ?po_Ratio ?sa_Ratio ?mk_Ratio ?kc_Ratio ?na_Ratio_num ?na_Ratio_den ?ha_Ratio ?hn_Ratio ?ht_Ratio ?hm_Ratio ?so_Ratio ?nf_Ratio ?Cx_BadRatio ?xL_BadRatio ?xsa_BadRatio ?xga_BadRatio ?xgg_BadRatio ?xhd_BadRatio ?xno_BadRatio ?xiC_BadRatio ?xtC_BadRatio ?xkC_BadRatio ?xex_BadRatio ?xty_BadRatio ?xop_BadRatio ?ksx_BadRatio ?xve_BadRatio ?xmc_BadRatio ?xsub_BadRatio ?xsu_BadRatio ?rflt_BadRatio ?xl_BadRatio ?xc_BadRatio ?xda__BadRatio ?rflv_BadRatio ?rflf_BadRatio ?xcc__BadRatio ?gf_gcd ?n_isinstance ?n_str ?n_len ?n_int ?n_bool ?n_abs ?n_range ?n_sum ?n_list ?n_min ?n_max
    (case C_Ratio => k_is)
    (case g_Ratio___init__ => k_is)
    (case i_Ratio___init__ => k_is)
    (case l_Ratio___init__ => k_is)
    (case t_Ratio___init___ => k_is)
    (case c_Ratio___init___ => k_is)
    (case k_Ratio___init__ => k_is)
    (case g_Ratio___add__ => k_is)
    (case i_Ratio___add__ => k_is)
    (case l_Ratio___add__ => k_is)
    (case c_Ratio___add___ => k_is)
    (case k_Ratio___add__ => k_is)
    (case g_Ratio_over => k_is)
    (case i_Ratio_over => k_is)
    (case l_Ratio_over => k_is)
    (case c_Ratio_over_ => k_is)
    (case k_Ratio_over => k_is)
    (case g_Ratio_below => k_is)
    (case i_Ratio_below => k_is)
    (case l_Ratio_below => k_is)
    (case c_Ratio_below_ => k_is)
    (case k_Ratio_below => k_is)
    (case g_total => k_is)
    (case i_total => k_is)
    (case l_total => k_is)
    (case c_total_ => k_is)
    (case k_total => k_is)
    (case g_least => k_is)
    (case i_least => k_is)
    (case l_least => k_is)
    (case c_least_ => k_is)
    (case k_least => k_is)
    (case g_greatest => k_is)
    (case i_greatest => k_is)
    (case l_greatest => k_is)
    (case c_greatest_ => k_is)
    (case k_greatest => k_is)
    (case g_shares => k_is)
    (case i_shares => k_is)
    (case l_shares => k_is)
    (case c_shares_ => k_is)
    (case k_shares => k_is)
    (case g__law_is_integer => k_is)
    (case i__law_is_integer => k_is)
    (case l__law_is_integer => k_is)
    (case c__law_is_integer_ => k_is)
    (case k__law_is_integer => k_is)
    (case g__law_gcd => k_is)
    (case i__law_gcd => k_is)
    (case l__law_gcd => k_is)
    (case c__law_gcd_ => k_is)
    (case k__law_gcd => k_is)
    (case g__law_is_ratio => k_is)
    (case i__law_is_ratio => k_is)
    (case l__law_is_ratio => k_is)
    (case c__law_is_ratio_ => k_is)
    (case k__law_is_ratio => k_is)
    (case g__law_same => k_is)
    (case i__law_same => k_is)
    (case l__law_same => k_is)
    (case c__law_same_ => k_is)
    (case k__law_same => k_is)
    (case g__law_shares => k_is)
    (case i__law_shares => k_is)
    (case l__law_shares => k_is)
    (case c__law_shares_ => k_is)
    (case k__law_shares => k_is)
    (case g_law => k_is)
    (case i_law => k_is)
    (case l_law => k_is)
    (case c_law_ => k_is)
    (case k_law => k_is)
    (case pg_Ratio => k_is)
    (case hd_Ratio => k_is)
    (case po_Ratio => k_is)
    (case sa_Ratio => k_is)
    (case mk_Ratio => k_is)
    (case kc_Ratio => k_is)
    (case na_Ratio_num => k_is)
    (case na_Ratio_den => k_is)
    (case ha_Ratio => k_is)
    (case hn_Ratio => k_is)
    (case ht_Ratio => k_is)
    (case hm_Ratio => k_is)
    (case so_Ratio => k_is)
    (case nf_Ratio => k_is)
    (case Cx_BadRatio => k_is)
    (case xL_BadRatio => k_is)
    (case xsa_BadRatio => k_is)
    (case xga_BadRatio => k_is)
    (case xgg_BadRatio => k_is)
    (case xhd_BadRatio => k_is)
    (case xno_BadRatio => k_is)
    (case xiC_BadRatio => k_is)
    (case xtC_BadRatio => k_is)
    (case xkC_BadRatio => k_is)
    (case xex_BadRatio => k_is)
    (case xty_BadRatio => k_is)
    (case xop_BadRatio => k_is)
    (case ksx_BadRatio => ks_is)
    (case xve_BadRatio => k_is)
    (case xmc_BadRatio => k_is)
    (case xsub_BadRatio => k_is)
    (case xsu_BadRatio => k_is)
    (case rflt_BadRatio => first | rfl | decide +kernel | kernel_rfl)
    (case xl_BadRatio => k_is)
    (case xc_BadRatio => k_is)
    (case xda__BadRatio => k_is)
    (case rflv_BadRatio => first | rfl | decide +kernel | kernel_rfl)
    (case rflf_BadRatio => first | rfl | decide +kernel | kernel_rfl)
    (case xcc__BadRatio => k_is)
    (case gf_gcd => k_is)
    (case n_isinstance => k_is)
    (case n_str => k_is)
    (case n_len => k_is)
    (case n_int => k_is)
    (case n_bool => k_is)
    (case n_abs => k_is)
    (case n_range => k_is)
    (case n_sum => k_is)
    (case n_list => k_is)
    (case n_min => k_is)
    (case n_max => k_is)
#print axioms PySem.Challenge.cw_sureplay_k05_lists_of_ratios_holds
