import PyProof.Rows.All
import Wide.All
import OpenK.AllK
import Wide.FinOn
import HandS.Iter
import HandS.Style
import HandS.Dict
import HandS.Deep
import HandS.DeepEq
import HandS.Iter
import HandS.Zip
import HandS.Comp
import KE.KDictKeyed
import KE.KeyNested
import KE.KDictWalk
import HandS.OwnEq
import PyProof.NeKinds
import HandS.ForMost
import HandS.Wide
import HandS.IsInst
import HandS.TupAny
import HandS.Evl
import HandS.Codes
import HandS.Gcd
import HandS.OwnEq
import HandS.Defaults
import PySem.Challenge.RW_sureplay_k35_trees_that_do_not_remember
set_option Elab.async false
set_option linter.all false
set_option maxRecDepth 100000
set_option maxHeartbeats 4000000
set_option Elab.async false
set_option linter.all false
set_option maxRecDepth 100000
/-! Own lemmas: stepping through readings (go_), tests, heaps. No program in sight. -/
namespace Gx
open PySem PySem.Spec PyProof.Rows L2

/-! ### statements -/
section
variable {D : Ends} {σ : L2.St} {H : Hp} {t u c : TS} {te ta tb tc tl th : TE} {i : Nat} {Q : VK} {QB : Bool → Hp → Prop}
theorem go_seq (h : t { D with nx := u D } σ H) : tSeq t u D σ H := h
theorem go_cut (M : L2.St → Hp → Prop) (h : t { D with nx := M } σ H) (k : ∀ σ' H', M σ' H' → u D σ' H') : Evl.tCut t u D σ H := ⟨M, h, k⟩
theorem go_asg {g : TG} (h : te σ H fun x H1 => g x σ H1 D.nx) : tAsg te g D σ H := h
theorem go_name {v : V} {R : L2.St → Hp → Prop} (h : R (σ.set i (some v)) H) : gName i v σ H R := h
theorem go_drop (h : te σ H fun _ H1 => D.nx σ H1) : tDrop te D σ H := h
theorem go_ret (h : te σ H D.rt) : tRet te D σ H := h
theorem go_retN (h : D.rt .non H) : tRetN D σ H := h
theorem go_next (h : D.nx σ H) : tNext D σ H := h
theorem go_brk (h : D.bk σ H) : tBreak D σ H := h
theorem go_cont (h : D.ct σ H) : tCont D σ H := h
theorem go_if {tt : TT} (h : tt σ H fun b H1 => if b = true then t D σ H1 else u D σ H1) : tIfS tt t u D σ H := h
/-! ### expressions -/
theorem go_var {v : V} (e : σ[i]? = some (some v)) (h : Q v H) : tVar i σ H Q := ⟨v, e, h⟩
theorem go_c {v : V} (h : Q v H) : tC v σ H Q := h
theorem go_op {r : R2} (h : ta σ H fun x H1 => tb σ H1 fun y H2 => r x y H2 Q) : tOp r ta tb σ H Q := h
theorem go_un {r : V → Hp → VK → Prop} (h : ta σ H fun x H1 => r x H1 Q) : tUn r ta σ H Q := h
theorem go_rI0 {g : Int → Int → V} {a b : Int} (h : Q (g a b) H) : rI0 g (.int a) (.int b) H Q := ⟨a, b, rfl, rfl, h⟩
theorem go_rI {C : Int → Int → Prop} {g : Int → Int → V} {a b : Int} (hc : C a b) (h : Q (g a b) H) : rI C g (.int a) (.int b) H Q := ⟨a, b, rfl, rfl, hc, h⟩
theorem go_rU {g : Int → V} {a : Int} (h : Q (g a) H) : rU g (.int a) H Q := ⟨a, rfl, h⟩
theorem go_eqI {a b : Int} (h : Q (.bl (decide (a = b))) H) : rEq (.int a) (.int b) H Q := ⟨rfl, by simpa using h⟩
theorem go_neI {a b : Int} (h : Q (.bl (!decide (a = b))) H) : rNe (.int a) (.int b) H Q := ⟨rfl, by simpa using h⟩
theorem go_eqS {a b : Str} (h : Q (.bl (decide (a = b))) H) : rEq (.str a) (.str b) H Q := ⟨rfl, by simpa using h⟩
theorem go_neS {a b : Str} (h : Q (.bl (!decide (a = b))) H) : rNe (.str a) (.str b) H Q := ⟨rfl, by simpa using h⟩
theorem go_eqB {a b : Bool} (h : Q (.bl (decide (a = b))) H) : rEq (.bl a) (.bl b) H Q := ⟨rfl, by simpa using h⟩
theorem go_neB {a b : Bool} (h : Q (.bl (!decide (a = b))) H) : rNe (.bl a) (.bl b) H Q := ⟨rfl, by simpa using h⟩
theorem go_eqN (h : Q (.bl true) H) : rEq .non .non H Q := ⟨rfl, by simpa using h⟩
theorem ite_dt {α : Type} [DecidableEq α] {a : α} {A B : Prop} (h : A) : if decide (a = a) = true then A else B := by rw [decide_eq_true rfl]; exact h
theorem go_test (h : te σ H fun x H1 => ∃ k, x = .bl k ∧ QB k H1) : tTest te σ H QB := h
theorem go_B (h : te σ H fun x H1 => ∃ k, x = .bl k ∧ QB k H1) : tB te σ H QB := h
theorem go_bl {b : Bool} (h : QB b H) : ∃ k, V.bl b = .bl k ∧ QB k H := ⟨b, rfl, h⟩
theorem go_and {t u : TT} (h : t σ H fun b H1 => if b = true then u σ H1 QB else QB false H1) : tAnd t u σ H QB := h
theorem go_or {t u : TT} (h : t σ H fun b H1 => if b = true then QB true H1 else u σ H1 QB) : tOr t u σ H QB := h
theorem go_not {t : TT} (h : t σ H fun b H1 => QB (!b) H1) : tNot t σ H QB := h
theorem go_andV (h : ta σ H fun x H1 => ∃ c, x = .bl c ∧ if c = true then tb σ H1 Q else Q (.bl false) H1) : tAndV ta tb σ H Q := h
theorem go_orV (h : ta σ H fun x H1 => ∃ c, x = .bl c ∧ if c = true then Q (.bl true) H1 else tb σ H1 Q) : tOrV ta tb σ H Q := h
theorem go_notV (h : ta σ H fun x H1 => ∃ c, x = .bl c ∧ Q (.bl (!c)) H1) : tNotV ta σ H Q := h
theorem go_ifE {t : TT} (h : t σ H fun c H1 => if c = true then ta σ H1 Q else tb σ H1 Q) : tIf t ta tb σ H Q := h
theorem go_blA {b : Bool} {R : Bool → Prop} (h : R b) : ∃ k, V.bl b = .bl k ∧ R k := ⟨b, rfl, h⟩
theorem go_not_t {QB : Bool → Hp → Prop} (h : QB false H) : QB (!true) H := h
theorem go_not_f {QB : Bool → Hp → Prop} (h : QB true H) : QB (!false) H := h
theorem go_chain {r r' : R2} (h : ta σ H fun x H1 => tb σ H1 fun y H2 => r x y H2 fun z H3 => ∃ k, z = .bl k ∧ (if k = true then tc σ H3 fun w' H4 => r' y w' H4 Q else Q (.bl false) H3)) : tChain r r' ta tb tc σ H Q := h
/-! ### calls -/
theorem go_CB {r : List V → Hp → VK → Prop} {t : TA} (h : t σ H fun vs H1 => r vs H1 Q) : tCB r t σ H Q := h
theorem go_cons {t : TA} {R : List V → Hp → Prop} (h : ta σ H fun x H1 => t σ H1 fun xs H2 => R (x :: xs) H2) : tCons ta t σ H R := h
theorem go_nil {R : List V → Hp → Prop} (h : R [] H) : tNil σ H R := h
theorem go_call {sp : Sp} {dvs : List V} {E : XK} {t : TA} (h : t σ H fun vs H1 => sp (vs ++ dvs) H1 Q E) : tCall sp dvs E t σ H Q := h
theorem go_isi {K : PySem.W.Frag} {x c : V} {t u : Value} {b : Bool} (k : ClsV c u) (ty : TyX K H x t) (e : PySem.W.kitOne K t u = some b) (h : Q (.bl b) H) : rIsi K [x, c] H Q := ⟨x, c, t, u, b, rfl, k, ty, e, h⟩
theorem go_isiB {K : PySem.W.Frag} {x : V} {a c : String} {b : Bool} (ty : TyX K H x (.type a)) (e : kitB a c = some b) (h : Q (.bl b) H) : rIsi K [x, .ty c] H Q := ⟨x, .ty c, .type a, .type c, b, rfl, .ty c, ty, kit_ty e, h⟩
theorem go_lst {t : TA} (h : t σ H fun vs H1 => vs.length ≤ sizeLine ∧ ∀ l, H1 l = none → Q (.ref l) (upd H1 l (.lst vs))) : tLst t σ H Q := h
theorem go_tup {t : TA} (h : t σ H fun vs H1 => vs.length ≤ sizeLine ∧ ∀ l, H1 l = none → Q (.ref l) (upd H1 l (.tup vs))) : tTup t σ H Q := h
theorem go_sl {r : V → Option Int → Option Int → Hp → VK → Prop} {tlo tho : TO} (h : te σ H fun x H1 => tlo σ H1 fun lo H2 => tho σ H2 fun hi H3 => r x lo hi H3 Q) : tSl r te tlo tho σ H Q := h
theorem go_noPart {R : Option Int → Hp → Prop} (h : R none H) : tNoPart σ H R := h
theorem go_part {R : Option Int → Hp → Prop} (h : te σ H fun x H1 => ∃ i, x = .int i ∧ R (some i) H1) : tPart te σ H R := h
theorem go_partI {a : Int} {R : Int → Prop} (h : R a) : ∃ i, V.int a = .int i ∧ R i := ⟨a, rfl, h⟩
theorem go_slL {K : PySem.W.Frag} {a : Addr} {xs : List V} {lo hi : Option Int} (hs : SqL K H a xs) (h : ∀ p, H p = none → Q (.ref p) (upd H p (.lst (cutV xs lo hi)))) : rSlL K (.ref a) lo hi H Q := ⟨a, xs, rfl, hs, h⟩
theorem go_ixL {K : PySem.W.Frag} {a : Addr} {xs : List V} {k : Int} {v : V} (hs : SqL K H a xs) (e : atI xs k = some v) (h : Q v H) : rIxL K (.ref a) (.int k) H Q := ⟨a, xs, k, v, rfl, rfl, hs, e, h⟩
theorem go_ixT {K : PySem.W.Frag} {a : Addr} {xs : List V} {k : Int} {v : V} (hs : SqT K H a xs) (e : atI xs k = some v) (h : Q v H) : rIxT K (.ref a) (.int k) H Q := ⟨a, xs, k, v, rfl, rfl, hs, e, h⟩
end
/-! ### isinstance of scalars -/
theorem isi_int_int {K : PySem.W.Frag} {H : Hp} {Q : VK} {k : Int} (h : Q (.bl true) H) : rIsi K [(V.int k), .ty "int"] H Q := go_isiB (.base (.int _)) (by decide +kernel) h
theorem isi_int_bool {K : PySem.W.Frag} {H : Hp} {Q : VK} {k : Int} (h : Q (.bl false) H) : rIsi K [(V.int k), .ty "bool"] H Q := go_isiB (.base (.int _)) (by decide +kernel) h
theorem isi_int_str {K : PySem.W.Frag} {H : Hp} {Q : VK} {k : Int} (h : Q (.bl false) H) : rIsi K [(V.int k), .ty "str"] H Q := go_isiB (.base (.int _)) (by decide +kernel) h
theorem isi_int_list {K : PySem.W.Frag} {H : Hp} {Q : VK} {k : Int} (h : Q (.bl false) H) : rIsi K [(V.int k), .ty "list"] H Q := go_isiB (.base (.int _)) (by decide +kernel) h
theorem isi_int_tuple {K : PySem.W.Frag} {H : Hp} {Q : VK} {k : Int} (h : Q (.bl false) H) : rIsi K [(V.int k), .ty "tuple"] H Q := go_isiB (.base (.int _)) (by decide +kernel) h
theorem isi_bool_int {K : PySem.W.Frag} {H : Hp} {Q : VK} {k : Bool} (h : Q (.bl true) H) : rIsi K [(V.bl k), .ty "int"] H Q := go_isiB (.base (.bl _)) (by decide +kernel) h
theorem isi_bool_bool {K : PySem.W.Frag} {H : Hp} {Q : VK} {k : Bool} (h : Q (.bl true) H) : rIsi K [(V.bl k), .ty "bool"] H Q := go_isiB (.base (.bl _)) (by decide +kernel) h
theorem isi_bool_str {K : PySem.W.Frag} {H : Hp} {Q : VK} {k : Bool} (h : Q (.bl false) H) : rIsi K [(V.bl k), .ty "str"] H Q := go_isiB (.base (.bl _)) (by decide +kernel) h
theorem isi_bool_list {K : PySem.W.Frag} {H : Hp} {Q : VK} {k : Bool} (h : Q (.bl false) H) : rIsi K [(V.bl k), .ty "list"] H Q := go_isiB (.base (.bl _)) (by decide +kernel) h
theorem isi_bool_tuple {K : PySem.W.Frag} {H : Hp} {Q : VK} {k : Bool} (h : Q (.bl false) H) : rIsi K [(V.bl k), .ty "tuple"] H Q := go_isiB (.base (.bl _)) (by decide +kernel) h
theorem isi_str_int {K : PySem.W.Frag} {H : Hp} {Q : VK} {k : Str} (h : Q (.bl false) H) : rIsi K [(V.str k), .ty "int"] H Q := go_isiB (.base (.str _)) (by decide +kernel) h
theorem isi_str_bool {K : PySem.W.Frag} {H : Hp} {Q : VK} {k : Str} (h : Q (.bl false) H) : rIsi K [(V.str k), .ty "bool"] H Q := go_isiB (.base (.str _)) (by decide +kernel) h
theorem isi_str_str {K : PySem.W.Frag} {H : Hp} {Q : VK} {k : Str} (h : Q (.bl true) H) : rIsi K [(V.str k), .ty "str"] H Q := go_isiB (.base (.str _)) (by decide +kernel) h
theorem isi_str_list {K : PySem.W.Frag} {H : Hp} {Q : VK} {k : Str} (h : Q (.bl false) H) : rIsi K [(V.str k), .ty "list"] H Q := go_isiB (.base (.str _)) (by decide +kernel) h
theorem isi_str_tuple {K : PySem.W.Frag} {H : Hp} {Q : VK} {k : Str} (h : Q (.bl false) H) : rIsi K [(V.str k), .ty "tuple"] H Q := go_isiB (.base (.str _)) (by decide +kernel) h
theorem isi_NoneType_int {K : PySem.W.Frag} {H : Hp} {Q : VK} (h : Q (.bl false) H) : rIsi K [V.non, .ty "int"] H Q := go_isiB (.base .non) (by decide +kernel) h
theorem isi_NoneType_bool {K : PySem.W.Frag} {H : Hp} {Q : VK} (h : Q (.bl false) H) : rIsi K [V.non, .ty "bool"] H Q := go_isiB (.base .non) (by decide +kernel) h
theorem isi_NoneType_str {K : PySem.W.Frag} {H : Hp} {Q : VK} (h : Q (.bl false) H) : rIsi K [V.non, .ty "str"] H Q := go_isiB (.base .non) (by decide +kernel) h
theorem isi_NoneType_list {K : PySem.W.Frag} {H : Hp} {Q : VK} (h : Q (.bl false) H) : rIsi K [V.non, .ty "list"] H Q := go_isiB (.base .non) (by decide +kernel) h
theorem isi_NoneType_tuple {K : PySem.W.Frag} {H : Hp} {Q : VK} (h : Q (.bl false) H) : rIsi K [V.non, .ty "tuple"] H Q := go_isiB (.base .non) (by decide +kernel) h
theorem isi_list_int {K : PySem.W.Frag} {H : Hp} {Q : VK} {p : Addr} {xs : List V} (e : H p = some (.lst xs)) (h : Q (.bl false) H) : rIsi K [.ref p, .ty "int"] H Q := go_isiB (.base (.lst e)) (by decide +kernel) h
theorem isi_list_bool {K : PySem.W.Frag} {H : Hp} {Q : VK} {p : Addr} {xs : List V} (e : H p = some (.lst xs)) (h : Q (.bl false) H) : rIsi K [.ref p, .ty "bool"] H Q := go_isiB (.base (.lst e)) (by decide +kernel) h
theorem isi_list_str {K : PySem.W.Frag} {H : Hp} {Q : VK} {p : Addr} {xs : List V} (e : H p = some (.lst xs)) (h : Q (.bl false) H) : rIsi K [.ref p, .ty "str"] H Q := go_isiB (.base (.lst e)) (by decide +kernel) h
theorem isi_list_list {K : PySem.W.Frag} {H : Hp} {Q : VK} {p : Addr} {xs : List V} (e : H p = some (.lst xs)) (h : Q (.bl true) H) : rIsi K [.ref p, .ty "list"] H Q := go_isiB (.base (.lst e)) (by decide +kernel) h
theorem isi_list_tuple {K : PySem.W.Frag} {H : Hp} {Q : VK} {p : Addr} {xs : List V} (e : H p = some (.lst xs)) (h : Q (.bl false) H) : rIsi K [.ref p, .ty "tuple"] H Q := go_isiB (.base (.lst e)) (by decide +kernel) h
theorem isi_tuple_int {K : PySem.W.Frag} {H : Hp} {Q : VK} {p : Addr} {xs : List V} (e : H p = some (.tup xs)) (h : Q (.bl false) H) : rIsi K [.ref p, .ty "int"] H Q := go_isiB (.base (.tup e)) (by decide +kernel) h
theorem isi_tuple_bool {K : PySem.W.Frag} {H : Hp} {Q : VK} {p : Addr} {xs : List V} (e : H p = some (.tup xs)) (h : Q (.bl false) H) : rIsi K [.ref p, .ty "bool"] H Q := go_isiB (.base (.tup e)) (by decide +kernel) h
theorem isi_tuple_str {K : PySem.W.Frag} {H : Hp} {Q : VK} {p : Addr} {xs : List V} (e : H p = some (.tup xs)) (h : Q (.bl false) H) : rIsi K [.ref p, .ty "str"] H Q := go_isiB (.base (.tup e)) (by decide +kernel) h
theorem isi_tuple_list {K : PySem.W.Frag} {H : Hp} {Q : VK} {p : Addr} {xs : List V} (e : H p = some (.tup xs)) (h : Q (.bl false) H) : rIsi K [.ref p, .ty "list"] H Q := go_isiB (.base (.tup e)) (by decide +kernel) h
theorem isi_tuple_tuple {K : PySem.W.Frag} {H : Hp} {Q : VK} {p : Addr} {xs : List V} (e : H p = some (.tup xs)) (h : Q (.bl true) H) : rIsi K [.ref p, .ty "tuple"] H Q := go_isiB (.base (.tup e)) (by decide +kernel) h
section
variable {D : Ends} {σ : L2.St} {H : Hp} {t u c : TS} {te ta tb tc tl th : TE} {i : Nat} {Q : VK} {QB : Bool → Hp → Prop}
/-! ### what a test comes to -/
theorem ite_d {p : Prop} [Decidable p] {A B : Prop} (h1 : p → A) (h2 : ¬ p → B) : if decide p = true then A else B := by
  by_cases h : p
  · rw [decide_eq_true h]; exact h1 h
  · rw [decide_eq_false h]; exact h2 h
theorem ite_nd {p : Prop} [Decidable p] {A B : Prop} (h1 : ¬ p → A) (h2 : p → B) : if (!decide p) = true then A else B := by
  by_cases h : p
  · rw [decide_eq_true h]; exact h2 h
  · rw [decide_eq_false h]; exact h1 h
theorem ite_nt {A B : Prop} (h : B) : if (!true) = true then A else B := h
theorem ite_nf {A B : Prop} (h : A) : if (!false) = true then A else B := h
theorem ite_b {b : Bool} {A B : Prop} (h1 : b = true → A) (h2 : b = false → B) : if b = true then A else B := by
  cases b with
  | true => exact h1 rfl
  | false => exact h2 rfl
end
/-! ### readings by name -/
section
variable {X : Cx} {H : Hp} {Q : VK} {K : PySem.W.Frag}
def qInt1 : List V → Hp → VK → Prop := fun xs H Q => (∃ i, xs = [.int i] ∧ Q (.int i) H) ∨ ∃ k, xs = [.bl k] ∧ Q (.int (if k then 1 else 0)) H
theorem k_int1 : CallR X (.type "int") qInt1 := call_int1
theorem go_int1 {a : Int} (h : Q (.int a) H) : qInt1 [.int a] H Q := .inl ⟨a, rfl, h⟩
theorem go_intB {b : Bool} (h : Q (.int (if b then 1 else 0)) H) : qInt1 [.bl b] H Q := .inr ⟨b, rfl, h⟩
def qBool1 : List V → Hp → VK → Prop := fun xs H Q => (∃ i, xs = [.int i] ∧ Q (.bl (i != 0)) H) ∨ ∃ k, xs = [.bl k] ∧ Q (.bl k) H
theorem k_bool1 : CallR X (.type "bool") qBool1 := call_bool1
theorem go_bool1 {a : Int} (h : Q (.bl (a != 0)) H) : qBool1 [.int a] H Q := .inl ⟨a, rfl, h⟩
theorem go_boolB {b : Bool} (h : Q (.bl b) H) : qBool1 [.bl b] H Q := .inr ⟨b, rfl, h⟩
def qStrInt : List V → Hp → VK → Prop := fun xs H Q => ∃ i, xs = [.int i] ∧ i.natAbs.log2 < 1920 ∧ Q (.str (toString i)) H
theorem k_str_int : CallR X (.type "str") qStrInt := call_str_int
theorem go_str_int {a : Int} (ha : a.natAbs.log2 < 1920) (h : Q (.str (toString a)) H) : qStrInt [.int a] H Q := ⟨a, rfl, ha, h⟩
def qAbs : List V → Hp → VK → Prop := fun xs H Q => ∃ i, xs = [.int i] ∧ Q (.int (if i < 0 then -i else i)) H
theorem k_abs : CallR X (.builtin "abs") qAbs := call_abs
theorem go_abs {a : Int} (h : Q (.int (if a < 0 then -a else a)) H) : qAbs [.int a] H Q := ⟨a, rfl, h⟩
def qMax2 : List V → Hp → VK → Prop := fun xs H Q => ∃ i j, xs = [.int i, .int j] ∧ Q (.int (if j > i then j else i)) H
theorem k_max2 (hc : X.calm = true) : CallR X (.builtin "max") qMax2 := call_max2 hc
theorem go_max2 {a b : Int} (h : Q (.int (if b > a then b else a)) H) : qMax2 [.int a, .int b] H Q := ⟨a, b, rfl, h⟩
def qMin2 : List V → Hp → VK → Prop := fun xs H Q => ∃ i j, xs = [.int i, .int j] ∧ Q (.int (if j < i then j else i)) H
theorem k_min2 (hc : X.calm = true) : CallR X (.builtin "min") qMin2 := call_min2 hc
theorem go_min2 {a b : Int} (h : Q (.int (if b < a then b else a)) H) : qMin2 [.int a, .int b] H Q := ⟨a, b, rfl, h⟩
def qOrd : List V → Hp → VK → Prop := fun xs H Q => ∃ x, xs = [.str x] ∧ x.length = 1 ∧ Q (.int (x.cps.getD 0 0 : Nat)) H
theorem k_ord : CallR X (.builtin "ord") qOrd := call_ord
theorem go_ord {c : Nat} (h : Q (.int (c : Nat)) H) : qOrd [.str ⟨#[c]⟩] H Q := ⟨⟨#[c]⟩, rfl, rfl, h⟩
def qLen (K : PySem.W.Frag) : List V → Hp → VK → Prop := fun xs H Q => ∃ x n, xs = [x] ∧ LenV K x H n ∧ Q (.int n) H
theorem k_len : CallR X (.builtin "len") (qLen X.K) := call_len
theorem go_lenL {a : Addr} {xs : List V} (hs : SqL K H a xs) (h : Q (.int (xs.length : Nat)) H) : qLen K [.ref a] H Q := ⟨.ref a, xs.length, rfl, .inl ⟨xs, hs, rfl⟩, h⟩
theorem go_lenT {a : Addr} {xs : List V} (hs : SqT K H a xs) (h : Q (.int (xs.length : Nat)) H) : qLen K [.ref a] H Q := ⟨.ref a, xs.length, rfl, .inr ⟨xs, hs, rfl⟩, h⟩
theorem go_lenS {y : Str} (hz : y.length ≤ sizeLine) (h : Q (.int (y.length : Nat)) H) : qLen K [.str y] H Q := ⟨.str y, y.length, rfl, ⟨hz, rfl⟩, h⟩
def qListOf (K : PySem.W.Frag) : List V → Hp → VK → Prop := fun xs H Q => ∃ p ys, xs = [.ref p] ∧ (SqL K H p ys ∨ SqT K H p ys) ∧ ∀ l, H l = none → Q (.ref l) (upd H l (.lst ys))
theorem k_list_of : CallR X (.type "list") (qListOf X.K) := call_list_of
theorem go_listOfL {a : Addr} {xs : List V} (hs : SqL K H a xs) (h : ∀ l, H l = none → Q (.ref l) (upd H l (.lst xs))) : qListOf K [.ref a] H Q := ⟨a, xs, rfl, .inl hs, h⟩
theorem go_listOfT {a : Addr} {xs : List V} (hs : SqT K H a xs) (h : ∀ l, H l = none → Q (.ref l) (upd H l (.lst xs))) : qListOf K [.ref a] H Q := ⟨a, xs, rfl, .inr hs, h⟩
def qTupOf (K : PySem.W.Frag) : List V → Hp → VK → Prop := fun xs H Q => ∃ p ys, xs = [.ref p] ∧ ((SqL K H p ys ∧ ∀ l, H l = none → Q (.ref l) (upd H l (.tup ys))) ∨ (SqT K H p ys ∧ Q (.ref p) H))
theorem k_tuple_of : CallR X (.type "tuple") (qTupOf X.K) := call_tuple_of
theorem go_tupOfL {a : Addr} {xs : List V} (hs : SqL K H a xs) (h : ∀ l, H l = none → Q (.ref l) (upd H l (.tup xs))) : qTupOf K [.ref a] H Q := ⟨a, xs, rfl, .inl ⟨hs, h⟩⟩
theorem go_tupOfT {a : Addr} {xs : List V} (hs : SqT K H a xs) (h : Q (.ref a) H) : qTupOf K [.ref a] H Q := ⟨a, xs, rfl, .inr ⟨hs, h⟩⟩
theorem go_sum {a : Addr} {ns : List Int} (hs : SqL K H a (ns.map V.int)) (h : Q (.int ns.sum) H) : rSum K [.ref a] H Q := ⟨a, ns, rfl, hs, h⟩
theorem go_all {a : Addr} {bs : List Bool} (hs : SqL K H a (bs.map V.bl)) (h : Q (.bl (bs.all id)) H) : rAll K [.ref a] H Q := ⟨a, bs, rfl, hs, h⟩
theorem go_any {a : Addr} {bs : List Bool} (hs : SqL K H a (bs.map V.bl)) (h : Q (.bl (bs.any id)) H) : rAny K [.ref a] H Q := ⟨a, bs, rfl, hs, h⟩
def qIsN : R2 := fun x y H Q => y = .non ∧ Q (.bl (decide (x = .non))) H
theorem o_isN : OpR X (compareOp .Is) qIsN := op_isN
def qNotN : R2 := fun x y H Q => y = .non ∧ Q (.bl (!decide (x = .non))) H
theorem o_notN : OpR X (compareOp .IsNot) qNotN := op_notN
theorem go_isN0 (h : Q (.bl true) H) : qIsN .non .non H Q := ⟨rfl, by simpa using h⟩
theorem go_isNI {i : Int} (h : Q (.bl false) H) : qIsN (.int i) .non H Q := ⟨rfl, by simpa using h⟩
theorem go_isNS {i : Str} (h : Q (.bl false) H) : qIsN (.str i) .non H Q := ⟨rfl, by simpa using h⟩
theorem go_isNB {i : Bool} (h : Q (.bl false) H) : qIsN (.bl i) .non H Q := ⟨rfl, by simpa using h⟩
theorem go_isNR {i : Addr} (h : Q (.bl false) H) : qIsN (.ref i) .non H Q := ⟨rfl, by simpa using h⟩
theorem go_notN0 (h : Q (.bl false) H) : qNotN .non .non H Q := ⟨rfl, by simpa using h⟩
theorem go_notNI {i : Int} (h : Q (.bl true) H) : qNotN (.int i) .non H Q := ⟨rfl, by simpa using h⟩
theorem go_notNS {i : Str} (h : Q (.bl true) H) : qNotN (.str i) .non H Q := ⟨rfl, by simpa using h⟩
theorem go_notNB {i : Bool} (h : Q (.bl true) H) : qNotN (.bl i) .non H Q := ⟨rfl, by simpa using h⟩
theorem go_notNR {i : Addr} (h : Q (.bl true) H) : qNotN (.ref i) .non H Q := ⟨rfl, by simpa using h⟩
def qLtS : R2 := fun x y H Q => ∃ i j, x = .str i ∧ y = .str j ∧ Q (.bl (decide (i.cps.toList < j.cps.toList))) H
theorem o_lt_str : OpR X (compareOp .Lt) qLtS := op_lt_str
theorem go_ltS {a b : Str} (h : Q (.bl (decide (a.cps.toList < b.cps.toList))) H) : qLtS (.str a) (.str b) H Q := ⟨a, b, rfl, rfl, h⟩
def qLeS : R2 := fun x y H Q => ∃ i j, x = .str i ∧ y = .str j ∧ Q (.bl (!decide (j.cps.toList < i.cps.toList))) H
theorem o_le_str : OpR X (compareOp .LtE) qLeS := op_le_str
theorem go_leS {a b : Str} (h : Q (.bl (!decide (b.cps.toList < a.cps.toList))) H) : qLeS (.str a) (.str b) H Q := ⟨a, b, rfl, rfl, h⟩
def qAddS : R2 := fun x y H Q => ∃ i j, x = .str i ∧ y = .str j ∧ i.length + j.length ≤ sizeLine ∧ Q (.str (i ++ j)) H
theorem o_add_str : OpR X (binaryOp .Add) qAddS := op_add_str
theorem go_addS {a b : Str} (hz : a.length + b.length ≤ sizeLine) (h : Q (.str (a ++ b)) H) : qAddS (.str a) (.str b) H Q := ⟨a, b, rfl, rfl, hz, h⟩
theorem go_cat {l b : Addr} {xs zs : List V} (h1 : H l = some (.lst xs)) (h2 : H b = some (.lst zs)) (hz : xs.length + zs.length ≤ sizeLine) (h : ∀ p, H p = none → Q (.ref p) (upd H p (.lst (xs ++ zs)))) : rCat (.ref l) (.ref b) H Q := ⟨l, b, xs, zs, rfl, rfl, h1, h2, hz, h⟩
theorem go_slS {z : Str} {lo hi : Option Int} (hz : z.length ≤ sizeLine) (h : Q (.str (cutS z lo hi)) H) : rSlS (.str z) lo hi H Q := ⟨z, rfl, hz, h⟩
theorem go_ixS {z : Str} {i : Int} {c : Nat} (hz : z.length ≤ sizeLine) (e : atI z.cps.toList i = some c) (h : Q (.str ⟨#[c]⟩) H) : rIxS (.str z) (.int i) H Q := ⟨z, i, c, rfl, rfl, hz, e, h⟩
theorem go_append {l : Addr} {xs : List V} {y : V} (e : H l = some (.lst xs)) (hz : xs.length < sizeLine) (h : Q .non (upd H l (.lst (xs ++ [y])))) : rAppend (.ref l) [y] H Q := ⟨l, xs, y, rfl, rfl, e, hz, h⟩
theorem go_BM {T : String} {r : V → List V → Hp → VK → Prop} {to : TE} {t : TA} {σ : L2.St} (h : to σ H fun x H1 => tyV K T x H1 ∧ t σ H1 fun xs H2 => r x xs H2 Q) : tBM K T r to t σ H Q := h
theorem go_BM0 {T : String} {r : V → List V → Hp → VK → Prop} {to : TE} {σ : L2.St} (h : to σ H fun x H1 => tyV K T x H1 ∧ r x [] H1 Q) : tBM0 K T r to σ H Q := h
end
/-! ### rules within a comprehension: the written part told apart -/
section
variable {X : Cx} {K : PySem.W.Frag} {e : Expr} {ta : TE} {f : Str} {pos : Pos}
theorem pe_fldK (hK : X.K = K) (he : PE X e ta) (hb : attributeBase e f X.env (eval e X.env) = eval e X.env) : PE X (.Attribute e f pos) (tFld K ta f) := by subst hK; exact pe_fld he hb
theorem ix_listK (hK : X.K = K) : IxR X (rIxL K) := by subst hK; exact ix_list
theorem ix_tupK (hK : X.K = K) : IxR X (rIxT K) := by subst hK; exact ix_tup
theorem ix_seqK (hK : X.K = K) : IxR X (rIx K) := by subst hK; exact ix_seq
theorem sl_listK (hK : X.K = K) : SlR X (rSlL K) := by subst hK; exact sl_list
theorem k_lenK (hK : X.K = K) : CallR X (.builtin "len") (qLen K) := by subst hK; exact k_len
theorem call_isiK (hK : X.K = K) : CallR X (.builtin "isinstance") (rIsi K) := by subst hK; exact call_isi
theorem k_list_ofK (hK : X.K = K) : CallR X (.type "list") (qListOf K) := by subst hK; exact k_list_of
theorem k_tuple_ofK (hK : X.K = K) : CallR X (.type "tuple") (qTupOf K) := by subst hK; exact k_tuple_of
theorem cr_sumK (hK : X.K = K) (hc : X.calm = true) : CallR X (.builtin "sum") (rSum K) := by subst hK; exact cr_sum hc
theorem cr_allK (hK : X.K = K) (hc : X.calm = true) : CallR X (.builtin "all") (rAll K) := by subst hK; exact cr_all hc
theorem cr_anyK (hK : X.K = K) (hc : X.calm = true) : CallR X (.builtin "any") (rAny K) := by subst hK; exact cr_any hc
theorem op_in_seqK (hK : X.K = K) : OpR X (compareOp .In) (rIn K false) := by subst hK; exact op_in_seq
theorem op_notIn_seqK (hK : X.K = K) : OpR X (compareOp .NotIn) (rIn K true) := by subst hK; exact op_notIn_seq
theorem op_eqDK (hK : X.K = K) (hu : X.A.units + 64 < cLine) : OpR X (compareOp .Eq) (rEqD K) := by subst hK; exact op_eqD hu
theorem op_neDK (hK : X.K = K) (hu : X.A.units + 64 < cLine) : OpR X (compareOp .NotEq) (rNeD K) := by subst hK; exact op_neD hu
end
/-! ### heaps -/
theorem same_new {H : Hp} {p : Addr} {o : HO} (h : H p = none) : Same H (upd H p o) := fun b x e => by
  rw [upd_ne (ne_of_none e h)]
  exact e
/-- an object that H does not know may change -/
theorem same_mut {H H' : Hp} {p : Addr} {o : HO} (e : Same H H') (h : H p = none) : Same H (upd H' p o) := fun a u ha => by
  rw [upd_ne (ne_of_none ha h)]
  exact e a u ha
theorem same_sqL {K : PySem.W.Frag} {H H' : Hp} {a : Addr} {xs : List V} (e : Same H H') (h : SqL K H a xs) : SqL K H' a xs := e.seq h
theorem same_rd {H H' : Hp} {a : Addr} {u : HO} (e : Same H H') (h : Rd H a u) : Rd H' a u := by
  rcases h with h | ⟨o, h⟩
  · exact Or.inl (e a _ h)
  · exact Or.inr ⟨o, e a _ h⟩
theorem same_sqT {K : PySem.W.Frag} {H H' : Hp} {a : Addr} {xs : List V} (e : Same H H') (h : SqT K H a xs) : SqT K H' a xs := by
  rcases h with h | h
  · exact Or.inl (same_rd e h)
  · exact Or.inr h
theorem sz {n : Nat} (h : n ≤ 100000) : n ≤ sizeLine := Nat.le_trans h (by decide)
theorem szlt {n : Nat} (h : n ≤ 100000) : n < sizeLine := Nat.lt_of_le_of_lt h (by decide)
/-- the list of ints at a place in bounds -/
theorem at_nat {xs : List V} {i : Nat} {v : V} (h : xs[i]? = some v) : atI xs (i : Int) = some v := atI_nat h
theorem at_int {ns : List Int} {k : Int} (h0 : 0 ≤ k) (h : k < ns.length) : atI (ns.map V.int) k = some (.int (ns.getD k.toNat 0)) := by
  have e : k = (k.toNat : Int) := by omega
  have h2 : k.toNat < ns.length := by omega
  rw [e]
  refine at_nat ?_
  rw [List.getElem?_map, Int.toNat_natCast, List.getElem?_eq_getElem h2, List.getD_eq_getElem?_getD, List.getElem?_eq_getElem h2]
  rfl
/-! ### lists of ints: ==, slices, sums -/
theorem dp_ints {K : PySem.W.Frag} {H : Hp} : ∀ ns : List Int, DpAll K H (ns.map V.int) (ns.map PyData.int)
  | [] => .nil
  | n :: r => .cons (.int n) (dp_ints r)
theorem eqv_int (a b : Int) : PyData.eqv (.int a) (.int b) = decide (a = b) := by
  simp only [PyData.eqv]
  by_cases h : a = b
  · simp [h]
  · simp [h]
theorem eqvAll_ints : ∀ xs ys : List Int, PyData.eqvAll (xs.map PyData.int) (ys.map PyData.int) = decide (xs = ys)
  | [], [] => by simp [PyData.eqvAll]
  | [], _ :: _ => by simp [PyData.eqvAll]
  | _ :: _, [] => by simp [PyData.eqvAll]
  | x :: xs, y :: ys => by
    simp only [List.map_cons, PyData.eqvAll, eqv_int, eqvAll_ints xs ys]
    by_cases h : x = y <;> by_cases h2 : xs = ys <;> simp [h, h2]
theorem eqv_ints (xs ys : List Int) : PyData.eqv (.list (xs.map PyData.int)) (.list (ys.map PyData.int)) = decide (xs = ys) := by
  rw [PyData.eqv]
  exact eqvAll_ints xs ys
theorem depth_ints : ∀ xs : List Int, PyData.depthAll (xs.map PyData.int) = 0
  | [] => rfl
  | x :: xs => by
    rw [List.map_cons]
    unfold PyData.depthAll
    rw [depth_ints xs]
    rfl
theorem canLay_ints : ∀ xs : List Int, PyData.canLayAll0 (xs.map PyData.int) = true
  | [] => rfl
  | x :: xs => by
    rw [List.map_cons]
    simp only [PyData.canLayAll0, PyData.canLay0, canLay_ints xs, Bool.and_self]
theorem shaped_ints (xs : List Int) : SeqAt.shaped (.list (xs.map PyData.int)) = true := by
  unfold SeqAt.shaped
  have h1 : PyData.canLay0 (.list (xs.map PyData.int)) = true := by
    simp only [PyData.canLay0]
    exact canLay_ints xs
  have h2 : PyData.depth (.list (xs.map PyData.int)) ≤ 64 := by
    unfold PyData.depth
    rw [depth_ints xs]
    decide
  rw [h1, decide_eq_true h2]
  rfl
theorem go_eqInts {K : PySem.W.Frag} {H : Hp} {Q : VK} {a b : Addr} {xs ys : List Int} (h1 : SqL K H a (xs.map V.int)) (h2 : SqL K H b (ys.map V.int)) (h : Q (.bl (decide (xs = ys))) H) : rEqD K (.ref a) (.ref b) H Q :=
  ⟨_, _, .lst h1 (dp_ints xs), .lst h2 (dp_ints ys), shaped_ints xs, shaped_ints ys, by rw [eqv_ints]; exact h⟩
theorem go_neInts {K : PySem.W.Frag} {H : Hp} {Q : VK} {a b : Addr} {xs ys : List Int} (h1 : SqL K H a (xs.map V.int)) (h2 : SqL K H b (ys.map V.int)) (h : Q (.bl (!decide (xs = ys))) H) : rNeD K (.ref a) (.ref b) H Q :=
  ⟨_, _, .lst h1 (dp_ints xs), .lst h2 (dp_ints ys), shaped_ints xs, shaped_ints ys, by rw [eqv_ints]; exact h⟩
theorem cut_to (xs : List V) (k : Nat) : cutV xs none (some (k : Int)) = xs.take k := by
  unfold cutV
  rw [HT.sIx_none, HT.sIx_nat, List.drop_zero, Nat.sub_zero]
  rcases Nat.le_total k xs.length with h | h
  · rw [Nat.min_eq_left h]
  · rw [Nat.min_eq_right h, List.take_of_length_le (Nat.le_refl _), List.take_of_length_le h]
theorem cut_from (xs : List V) (k : Nat) : cutV xs (some (k : Int)) none = xs.drop k := by
  unfold cutV
  rw [HT.sIx_none, HT.sIx_nat]
  rcases Nat.le_total k xs.length with h | h
  · rw [Nat.min_eq_left h, List.take_of_length_le]
    rw [List.length_drop]
    exact Nat.le_refl _
  · rw [Nat.min_eq_right h, List.drop_of_length_le (Nat.le_refl _), List.drop_of_length_le h, List.take_nil]
theorem sum_take_succ (ws : List Int) (i : Nat) (h : i < ws.length) : (ws.take (i + 1)).sum = (ws.take i).sum + ws.getD i 0 := by
  rw [List.take_add_one, List.getElem?_eq_getElem h, List.sum_append, List.getD_eq_getElem?_getD, List.getElem?_eq_getElem h]
  simp
theorem sum_nonneg : ∀ {ws : List Int}, (∀ w ∈ ws, 0 ≤ w) → 0 ≤ ws.sum
  | [], _ => by simp
  | w :: r, h => by
    have h1 := h w (by simp)
    have h2 := sum_nonneg (ws := r) fun z hz => h z (by simp [hz])
    rw [List.sum_cons]
    omega
theorem sum_take_le {ws : List Int} (h : ∀ w ∈ ws, 0 ≤ w) (i : Nat) : (ws.take i).sum ≤ ws.sum := by
  have e := congrArg List.sum (List.take_append_drop i ws)
  rw [List.sum_append] at e
  have h2 := sum_nonneg (ws := ws.drop i) fun z hz => h z (List.mem_of_mem_drop hz)
  omega
/-- min, max as they are told -/
theorem lt_of_len {a b : Nat} (h : a < b) : (a : Int) < (b : Int) := by omega
/-! ### list comprehensions whose element changes nothing that stood -/
section
variable {K : PySem.W.Frag} {σ : L2.St} {H H1 : Hp} {Q : VK} {tl te : TE} {g : TG} {tt : TT} {vs : List Nat} {j : Nat} {wi : TI}
theorem go_iList {R : It → Hp → Prop} (h : tl σ H fun x H1 => ∃ a, x = .ref a ∧ (∃ xs, SqL K H1 a xs) ∧ R (Itl K a) H1) : iList K tl σ H R := h
theorem go_iListR {a : Addr} {xs : List V} {R : Addr → Prop} (hs : SqL K H a xs) (h : R a) : ∃ b, V.ref a = .ref b ∧ (∃ xs, SqL K H b xs) ∧ R b := ⟨a, rfl, ⟨xs, hs⟩, h⟩
theorem go_iRng1 {ta : TA} {R : It → Hp → Prop} (h : ta σ H fun vs H1 => ∃ j : Int, vs = [.int j] ∧ -(2 ^ 62) ≤ j ∧ j < 2 ^ 62 ∧ R (Itr 0 j.toNat) H1) : iRng1 ta σ H R := h
theorem go_iRng2 {ta : TA} {R : It → Hp → Prop} (h : ta σ H fun vs H1 => ∃ i j : Int, vs = [.int i, .int j] ∧ (-(2 ^ 62) ≤ i ∧ i < 2 ^ 62 ∧ -(2 ^ 62) ≤ j ∧ j < 2 ^ 62) ∧ R (Itr i (j - i).toNat) H1) : iRng2 ta σ H R := h
theorem go_rng1 {n : Int} {R : It → Hp → Prop} (hn : -(2 ^ 62) ≤ n ∧ n < 2 ^ 62) (h : R (Itr 0 n.toNat) H) : ∃ j : Int, [V.int n] = [.int j] ∧ -(2 ^ 62) ≤ j ∧ j < 2 ^ 62 ∧ R (Itr 0 j.toNat) H := ⟨n, rfl, hn.1, hn.2, h⟩
theorem go_rng2 {m n : Int} {R : It → Hp → Prop} (hm : -(2 ^ 62) ≤ m ∧ m < 2 ^ 62 ∧ -(2 ^ 62) ≤ n ∧ n < 2 ^ 62) (h : R (Itr m (n - m).toNat) H) :
    ∃ i j : Int, [V.int m, V.int n] = [.int i, .int j] ∧ (-(2 ^ 62) ≤ i ∧ i < 2 ^ 62 ∧ -(2 ^ 62) ≤ j ∧ j < 2 ^ 62) ∧ R (Itr i (j - i).toNat) H := ⟨m, n, rfl, hm, h⟩
theorem go_yes {QB : Bool → Hp → Prop} (h : QB true H) : tYes σ H QB := h
theorem go_lc (h : wi σ H fun J H1 => ∀ D, H1 D = none → ∃ W : Nat → Nat → Hp → Prop, (∃ m, W 0 m (upd H1 D (.lst []))) ∧ ∀ i m H, W i m H →
  (J.stop i H ∧ Q (.ref D) H) ∨ (J.go i H ∧ ∃ Nx : Hp → Prop, (∀ H', Nx H' → ∃ m', m' < m ∧ W (i + 1) m' H') ∧ ∀ x H', J.yld i H x H' → g x (wipe σ vs) H' fun σ2 H2 => wipe σ2 vs = wipe σ vs ∧ tt σ2 H2 fun b H3 =>
    if b = true then te σ2 H3 fun y H4 => ∃ acc, H4 D = some (.lst acc) ∧ acc.length < sizeLine ∧ Nx (upd H4 D (.lst (acc ++ [y]))) else Nx H3)) : tLc wi g tt te vs σ H Q := h
theorem go_for {D : Ends} {tb : TS} (h : wi σ H fun J H1 => ∃ W : Nat → Nat → L2.St → Hp → Prop, (∃ m, W 0 m σ H1) ∧ ∀ i m σ H, W i m σ H →
  (J.stop i H ∧ D.nx σ H) ∨ (J.go i H ∧ ∃ N : L2.St → Hp → Prop, (∀ σ' H', N σ' H' → ∃ m', m' < m ∧ W (i + 1) m' σ' H') ∧ ∀ x H', J.yld i H x H' → g x σ H' fun σ2 H2 => tb { D with nx := N, ct := N, bk := D.nx } σ2 H2)) : tFor wi g tb D σ H := h
/-- what is in the list being made: all of them so, and all else as it was -/
structure Acc (P : Nat → V → Prop) (H : Hp) (D : Addr) (i : Nat) (H' : Hp) : Prop where
  made : ∃ ys : List V, H' D = some (.lst ys) ∧ ys.length = i ∧ ∀ k y, ys[k]? = some y → P k y
  same : Same H H'
theorem acc_step {P : Nat → V → Prop} {H H' : Hp} {D : Addr} {i : Nat} {y : V} (hD : H D = none) (a : Acc P H D i H') (hy : P i y) (hi : i < 100000) : ∃ acc, H' D = some (.lst acc) ∧ acc.length < sizeLine ∧ Acc P H D (i + 1) (upd H' D (.lst (acc ++ [y]))) := by
  obtain ⟨⟨ys, e, hl, hp⟩, hs⟩ := a
  refine ⟨ys, e, szlt (by omega), ⟨ys ++ [y], upd_same, by simp [hl], fun k z hz => ?_⟩, same_mut hs hD⟩
  rcases Nat.lt_or_ge k ys.length with h | h
  · rw [List.getElem?_append_left h] at hz
    exact hp k z hz
  · rw [List.getElem?_append_right h] at hz
    rcases Nat.eq_or_lt_of_le h with e2 | e2
    · rw [← e2, Nat.sub_self] at hz
      cases hz
      rw [← e2, hl]
      exact hy
    · rw [List.getElem?_eq_none (by simp; omega)] at hz
      cases hz
theorem Acc.keep {P : Nat → V → Prop} {H H' H2 : Hp} {D : Addr} {i : Nat} (a : Acc P H D i H') (s : Same H' H2) : Acc P H D i H2 := by
  obtain ⟨⟨ys, e, hl, hp⟩, hs⟩ := a
  exact ⟨⟨ys, s _ _ e, hl, hp⟩, hs.trans s⟩
/-- [e for x in a list], behind the list's reading -/
theorem lcL {R : Addr → Hp → Prop} {a : Addr} (xs : List V) (P : Nat → V → Prop) (hs : SqL K H1 a xs) (hz : xs.length ≤ 100000) (hw : ∀ x, wipe ((wipe σ vs).set j x) vs = wipe σ vs)
    (he : ∀ (i : Nat) x H', xs[i]? = some x → Same H1 H' → ∀ R : VK, (∀ y H'', Same H' H'' → P i y → R y H'') → te ((wipe σ vs).set j (some x)) H' R)
    (q : ∀ D (ys : List V) H2, H1 D = none → Same H1 H2 → H2 D = some (.lst ys) → ys.length = xs.length → (∀ k y, ys[k]? = some y → P k y) → R D H2) :
    ∃ b, V.ref a = .ref b ∧ (∃ xs, SqL K H1 b xs) ∧ ∀ D, H1 D = none → ∃ W : Nat → Nat → Hp → Prop, (∃ m, W 0 m (upd H1 D (.lst []))) ∧ ∀ i m H, W i m H →
      ((Itl K b).stop i H ∧ R D H) ∨ ((Itl K b).go i H ∧ ∃ Nx : Hp → Prop, (∀ H', Nx H' → ∃ m', m' < m ∧ W (i + 1) m' H') ∧ ∀ x H', (Itl K b).yld i H x H' → gName j x (wipe σ vs) H' fun σ2 H2 => wipe σ2 vs = wipe σ vs ∧ tYes σ2 H2 fun b H3 =>
        if b = true then te σ2 H3 fun y H4 => ∃ acc, H4 D = some (.lst acc) ∧ acc.length < sizeLine ∧ Nx (upd H4 D (.lst (acc ++ [y]))) else Nx H3) := by
  refine ⟨a, rfl, ⟨xs, hs⟩, fun D hD => ?_⟩
  refine lc_list (xs := xs) (Acc P H1 D) ⟨⟨[], upd_same, rfl, fun k y h => by simp at h⟩, same_new hD⟩ (fun i H _ p => same_sqL p.same hs) (fun i x H hx p => ?_) fun H p => ?_
  · refine ⟨hw _, ?_⟩
    refine go_yes ?_
    refine iteT ?_
    refine he i x H hx p.same _ fun y H4 s4 hy => ?_
    have hi := (List.getElem?_eq_some_iff.mp hx).1
    exact acc_step hD (p.keep s4) hy (by omega)
  · obtain ⟨⟨ys, e, hl, hp⟩, s⟩ := p
    exact q D ys H hD s e hl hp
/-- [e for x in range(n)], behind the reading of n -/
theorem lcR1 {R : Addr → Hp → Prop} {n : Int} (P : Nat → V → Prop) (hz : n ≤ 100000) (hn : -(2 ^ 62) ≤ n) (hw : ∀ x, wipe ((wipe σ vs).set j x) vs = wipe σ vs)
    (he : ∀ (i : Nat) H', i < n.toNat → Same H1 H' → ∀ R : VK, (∀ y H'', Same H' H'' → P i y → R y H'') → te ((wipe σ vs).set j (some (.int i))) H' R)
    (q : ∀ D (ys : List V) H2, H1 D = none → Same H1 H2 → H2 D = some (.lst ys) → ys.length = n.toNat → (∀ k y, ys[k]? = some y → P k y) → R D H2) :
    ∃ k : Int, [V.int n] = [.int k] ∧ -(2 ^ 62) ≤ k ∧ k < 2 ^ 62 ∧ ∀ D, H1 D = none → ∃ W : Nat → Nat → Hp → Prop, (∃ m, W 0 m (upd H1 D (.lst []))) ∧ ∀ i m H, W i m H →
      ((Itr 0 k.toNat).stop i H ∧ R D H) ∨ ((Itr 0 k.toNat).go i H ∧ ∃ Nx : Hp → Prop, (∀ H', Nx H' → ∃ m', m' < m ∧ W (i + 1) m' H') ∧ ∀ x H', (Itr 0 k.toNat).yld i H x H' → gName j x (wipe σ vs) H' fun σ2 H2 => wipe σ2 vs = wipe σ vs ∧ tYes σ2 H2 fun b H3 =>
        if b = true then te σ2 H3 fun y H4 => ∃ acc, H4 D = some (.lst acc) ∧ acc.length < sizeLine ∧ Nx (upd H4 D (.lst (acc ++ [y]))) else Nx H3) := by
  refine ⟨n, rfl, hn, by omega, fun D hD => ?_⟩
  refine lc_range (lo := 0) (n := n.toNat) (Acc P H1 D) ⟨⟨[], upd_same, rfl, fun k y h => by simp at h⟩, same_new hD⟩ (fun i H hi p => ?_) fun H p => ?_
  · refine ⟨hw _, ?_⟩
    refine go_yes ?_
    refine iteT ?_
    rw [Int.zero_add]
    refine he i H hi p.same _ fun y H4 s4 hy => ?_
    exact acc_step hD (p.keep s4) hy (by omega)
  · obtain ⟨⟨ys, e, hl, hp⟩, s⟩ := p
    exact q D ys H hD s e hl hp
/-- for x in a list, behind the list's reading -/
theorem foL {D : Ends} {tb : TS} {a : Addr} (xs : List V) (Pv : Nat → L2.St → Hp → Prop) (h0 : Pv 0 σ H1) (hl : ∀ i σ H, i ≤ xs.length → Pv i σ H → SqL K H a xs)
    (hs : ∀ i x σ H, xs[i]? = some x → Pv i σ H → g x σ H fun σ2 H2 => tb { D with nx := Pv (i + 1), ct := Pv (i + 1), bk := D.nx } σ2 H2) (hd : ∀ σ H, Pv xs.length σ H → D.nx σ H) :
    ∃ b, V.ref a = .ref b ∧ (∃ xs, SqL K H1 b xs) ∧ ∃ W : Nat → Nat → L2.St → Hp → Prop, (∃ m, W 0 m σ H1) ∧ ∀ i m σ H, W i m σ H →
      ((Itl K b).stop i H ∧ D.nx σ H) ∨ ((Itl K b).go i H ∧ ∃ N : L2.St → Hp → Prop, (∀ σ' H', N σ' H' → ∃ m', m' < m ∧ W (i + 1) m' σ' H') ∧ ∀ x H', (Itl K b).yld i H x H' → g x σ H' fun σ2 H2 => tb { D with nx := N, ct := N, bk := D.nx } σ2 H2) :=
  ⟨a, rfl, ⟨xs, hl 0 σ H1 (Nat.zero_le _) h0⟩, for_list Pv h0 hl hs hd⟩
/-- for x in range(n), behind the reading of n -/
theorem foR1 {D : Ends} {tb : TS} {n : Int} (Pv : Nat → L2.St → Hp → Prop) (hn : -(2 ^ 62) ≤ n ∧ n < 2 ^ 62) (h0 : Pv 0 σ H1)
    (hs : ∀ (i : Nat) σ H, (i : Int) < n → Pv i σ H → g (.int i) σ H fun σ2 H2 => tb { D with nx := Pv (i + 1), ct := Pv (i + 1), bk := D.nx } σ2 H2) (hd : ∀ σ H, Pv n.toNat σ H → D.nx σ H) :
    ∃ k : Int, [V.int n] = [.int k] ∧ -(2 ^ 62) ≤ k ∧ k < 2 ^ 62 ∧ ∃ W : Nat → Nat → L2.St → Hp → Prop, (∃ m, W 0 m σ H1) ∧ ∀ i m σ H, W i m σ H →
      ((Itr 0 k.toNat).stop i H ∧ D.nx σ H) ∨ ((Itr 0 k.toNat).go i H ∧ ∃ N : L2.St → Hp → Prop, (∀ σ' H', N σ' H' → ∃ m', m' < m ∧ W (i + 1) m' σ' H') ∧ ∀ x H', (Itr 0 k.toNat).yld i H x H' → g x σ H' fun σ2 H2 => tb { D with nx := N, ct := N, bk := D.nx } σ2 H2) :=
  ⟨n, rfl, hn.1, hn.2, for_range Pv h0 (fun i σ H hi p => by rw [Int.zero_add]; exact hs i σ H (by omega) p) hd⟩
/-- while, by a measure that the invariant bears -/
theorem go_while {D : Ends} {c : TT} {tb : TS} (W : Nat → L2.St → Hp → Prop) (m : Nat) (h0 : W m σ H) (hs : ∀ m σ H, W m σ H → c σ H fun b H1 => if b = true then ∃ N : L2.St → Hp → Prop, (∀ σ' H', N σ' H' → ∃ m', m' < m ∧ W m' σ' H') ∧ tb { D with nx := N, ct := N, bk := D.nx } σ H1 else D.nx σ H1) :
    tWhile c tb D σ H := ⟨W, ⟨m, h0⟩, hs⟩
theorem go_loop {D : Ends} {tb : TS} {W : Nat → L2.St → Hp → Prop} {m : Nat} (h : tb { D with nx := fun σ' H' => ∃ m', m' < m ∧ W m' σ' H', ct := fun σ' H' => ∃ m', m' < m ∧ W m' σ' H', bk := D.nx } σ H) :
    ∃ N : L2.St → Hp → Prop, (∀ σ' H', N σ' H' → ∃ m', m' < m ∧ W m' σ' H') ∧ tb { D with nx := N, ct := N, bk := D.nx } σ H := ⟨_, fun _ _ h => h, h⟩
end
/-- all ints, each so -/
theorem ints_of {P : Int → Prop} : ∀ {ys : List V}, (∀ (k : Nat) y, ys[k]? = some y → ∃ w, y = V.int w ∧ P w) → ∃ ws : List Int, ys = ws.map V.int ∧ ∀ w ∈ ws, P w
  | [], _ => ⟨[], rfl, fun _ h => nomatch h⟩
  | y :: r, h => by
    obtain ⟨w, e, p⟩ := h 0 y rfl
    obtain ⟨ws, e2, p2⟩ := ints_of (ys := r) fun k z hz => h (k + 1) z hz
    refine ⟨w :: ws, by rw [e, e2, List.map_cons], fun z hz => ?_⟩
    rcases List.mem_cons.mp hz with rfl | hz
    · exact p
    · exact p2 z hz
end Gx

set_option Elab.async false
set_option linter.all false
set_option maxRecDepth 100000
set_option maxHeartbeats 4000000
/-! Own lemmas: a pool of numbers (a list that is changed by place), data, comprehensions that change it. -/
namespace Gx
open PySem PySem.Spec PyProof.Rows L2
section
variable {K : PySem.W.Frag} {σ : L2.St} {H H1 : Hp} {Q : VK} {tl te to ti : TE} {g : TG} {tt : TT} {vs : List Nat} {j : Nat} {wi : TI}
theorem go_sub {t : TSet} {v : V} {R : L2.St → Hp → Prop} (h : to σ H fun o H1 => ti σ H1 fun i H2 => t o i v H2 fun H3 => R σ H3) : gSub to ti t v σ H R := h
theorem go_setL {p : Addr} {xs : List V} {k : Int} {i : Nat} {v : V} {R : Hp → Prop} (e : H p = some (.lst xs)) (hi : ixN xs.length k = some i) (h : R (upd H p (.lst (xs.set i v)))) : rSetL (.ref p) (.int k) v H R :=
  ⟨p, xs, k, i, rfl, rfl, e, hi, h⟩
theorem go_setL2 {p : Addr} {xs : List V} {k : Int} {i : Nat} {v : V} {R : Hp → Prop} (hi : ixN xs.length k = some i) (h : R (upd H p (.lst (xs.set i v)))) : rSetL (.ref p) (.int k) v (upd H p (.lst xs)) R :=
  ⟨p, xs, k, i, rfl, rfl, upd_same, hi, by rw [upd_upd]; exact h⟩
theorem go_ixL2 {p : Addr} {xs : List V} {k : Int} {v : V} (e : atI xs k = some v) (h : Q v (upd H p (.lst xs))) : rIxL K (.ref p) (.int k) (upd H p (.lst xs)) Q := ⟨p, xs, k, v, rfl, rfl, .of upd_same, e, h⟩
theorem go_ixL1 {p : Addr} {xs : List V} {k : Int} {v : V} (h : H p = some (.lst xs)) (e : atI xs k = some v) (q : Q v H) : rIxL K (.ref p) (.int k) H Q := ⟨p, xs, k, v, rfl, rfl, .of h, e, q⟩
theorem go_ixT1 {p : Addr} {xs : List V} {k : Int} {v : V} (h : H p = some (.tup xs)) (e : atI xs k = some v) (q : Q v H) : rIxT K (.ref p) (.int k) H Q := ⟨p, xs, k, v, rfl, rfl, .of h, e, q⟩
end
/-- all else as it was -/
def But (a : Addr) (H H' : Hp) : Prop := ∀ b o, b ≠ a → H b = some o → H' b = some o
theorem But.refl (a : Addr) (H : Hp) : But a H H := fun _ _ _ h => h
theorem But.trans {a : Addr} {H H1 H2 : Hp} (h : But a H H1) (k : But a H1 H2) : But a H H2 := fun b o n e => k b o n (h b o n e)
theorem But.upd {a : Addr} {H H' : Hp} {o : HO} (h : But a H H') : But a H (upd H' a o) := fun b u n e => by rw [upd_ne n]; exact h b u n e
theorem But.new {a p : Addr} {H H' : Hp} {o : HO} (h : But a H H') (n : H' p = none) : But a H (L2.upd H' p o) := fun b u z e => by
  have q := h b u z e
  rw [upd_ne (ne_of_none q n)]
  exact q
theorem Same.but {a : Addr} {H H' : Hp} (s : Same H H') : But a H H' := fun b o _ e => s b o e
/-- a pool: where it stands, where its list of the script's numbers stands, these -/
structure Pl where
  a : Addr
  l : Addr
  ns : List Int
/-- the pool p stands in H; b: its budget -/
structure Pool (H : Hp) (p : Pl) (b : Int) : Prop where
  ex : ∃ (p1 p2 p3 p4 : Int), H p.a = some (.lst [.ref p.l, .int p1, .int p2, .int p3, .int p4, .int b]) ∧ 0 ≤ p1 ∧ 0 ≤ p3 ∧ p3 < 2147483647
  li : H p.l = some (.lst (p.ns.map V.int))
  ne : p.l ≠ p.a
theorem Pool.there {H : Hp} {p : Pl} {b : Int} (h : Pool H p b) : ∃ xs, H p.a = some (.lst xs) := let ⟨_, _, _, _, e, _⟩ := h.ex; ⟨_, e⟩
theorem Pool.same {H H' : Hp} {p : Pl} {b : Int} (h : Pool H p b) (s : Same H H') : Pool H' p b := by
  obtain ⟨p1, p2, p3, p4, e, k⟩ := h.ex
  exact ⟨⟨p1, p2, p3, p4, s _ _ e, k⟩, s _ _ h.li, h.ne⟩
theorem Pool.new {H : Hp} {p : Pl} {q : Addr} {b : Int} {o : HO} (h : Pool H p b) (n : H q = none) : Pool (upd H q o) p b := h.same (same_new n)
/-- another object is written -/
theorem Pool.upd {H : Hp} {p : Pl} {q : Addr} {b : Int} {o : HO} (h : Pool H p b) (n : q ≠ p.a) (n2 : q ≠ p.l) : Pool (upd H q o) p b := by
  obtain ⟨p1, p2, p3, p4, e, k⟩ := h.ex
  exact ⟨⟨p1, p2, p3, p4, by rw [upd_ne n.symm]; exact e, k⟩, by rw [upd_ne n2.symm]; exact h.li, h.ne⟩
/-- what is free behind was free before -/
theorem But.free {a p : Addr} {H H' : Hp} {o : HO} (h : But a H H') (e : H' a = some o) (n : H' p = none) : H p = none := by
  cases q : H p with
  | none => rfl
  | some u =>
    have ne : p ≠ a := fun z => by rw [z, e] at n; cases n
    rw [h p u ne q] at n
    cases n
/-- one pool's turn: the pool stands, all else is as it was -/
structure Turn (p : Pl) (b : Int) (H H' : Hp) : Prop where
  pool : Pool H' p b
  but : But p.a H H'
theorem Turn.refl {p : Pl} {b : Int} {H : Hp} (h : Pool H p b) : Turn p b H H := ⟨h, .refl p.a H⟩
theorem Turn.trans {p : Pl} {b b' : Int} {H H1 H2 : Hp} (h : Turn p b H H1) (k : Turn p b' H1 H2) : Turn p b' H H2 := ⟨k.pool, h.but.trans k.but⟩
theorem Turn.new {p : Pl} {q : Addr} {b : Int} {H H1 : Hp} {o : HO} (h : Turn p b H H1) (n : H1 q = none) : Turn p b H (upd H1 q o) := ⟨h.pool.new n, h.but.new n⟩
theorem Turn.same {p : Pl} {b : Int} {H H1 H2 : Hp} (h : Turn p b H H1) (s : Same H1 H2) : Turn p b H H2 := ⟨h.pool.same s, h.but.trans (Same.but s)⟩
theorem Turn.free {p : Pl} {q : Addr} {b : Int} {H H' : Hp} (h : Turn p b H H') (n : H' q = none) : H q = none := let ⟨_, e⟩ := h.pool.there; h.but.free e n
theorem Pool.nea {p : Pl} {q : Addr} {b : Int} {H : Hp} (h : Pool H p b) (n : H q = none) : q ≠ p.a := fun z => by
  obtain ⟨_, e⟩ := h.there
  rw [z, e] at n
  cases n
theorem Pool.nel {p : Pl} {q : Addr} {b : Int} {H : Hp} (h : Pool H p b) (n : H q = none) : q ≠ p.l := fun z => by
  rw [z, h.li] at n
  cases n
/-- a new list is written further -/
theorem Turn.mut {p : Pl} {q : Addr} {b b' : Int} {H H2 : Hp} {o : HO} (h0 : Pool H p b') (n : H q = none) (h : Turn p b H H2) : Turn p b H (upd H2 q o) :=
  ⟨h.pool.upd (h0.nea n) (h0.nel n), fun c u nc ec => by rw [upd_ne (ne_of_none ec n)]; exact h.but c u nc ec⟩

section
variable {K : PySem.W.Frag} {σ : L2.St} {H H1 : Hp} {Q : VK} {tl te : TE} {g : TG} {tt : TT} {vs : List Nat} {j : Nat} {wi : TI}
/-- [e for x in range(n)] whose element turns a pool -/
theorem lcPool {R : Addr → Hp → Prop} {n : Int} {p : Pl} {b : Int} (P : Nat → V → Prop) (hp : Pool H1 p b) (hz : n ≤ 100000) (hn : -(2 ^ 62) ≤ n) (hw : ∀ x, wipe ((wipe σ vs).set j x) vs = wipe σ vs)
    (he : ∀ (i : Nat) H', (i : Int) < n → Turn p b H1 H' → ∀ R : VK, (∀ y H'', Turn p b H' H'' → P i y → R y H'') → te ((wipe σ vs).set j (some (.int i))) H' R)
    (q : ∀ D (ys : List V) H2, H1 D = none → Turn p b H1 H2 → H2 D = some (.lst ys) → ys.length = n.toNat → (∀ k y, ys[k]? = some y → P k y) → R D H2) :
    ∃ k : Int, [V.int n] = [.int k] ∧ -(2 ^ 62) ≤ k ∧ k < 2 ^ 62 ∧ ∀ D, H1 D = none → ∃ W : Nat → Nat → Hp → Prop, (∃ m, W 0 m (upd H1 D (.lst []))) ∧ ∀ i m H, W i m H →
      ((Itr 0 k.toNat).stop i H ∧ R D H) ∨ ((Itr 0 k.toNat).go i H ∧ ∃ Nx : Hp → Prop, (∀ H', Nx H' → ∃ m', m' < m ∧ W (i + 1) m' H') ∧ ∀ x H', (Itr 0 k.toNat).yld i H x H' → gName j x (wipe σ vs) H' fun σ2 H2 => wipe σ2 vs = wipe σ vs ∧ tYes σ2 H2 fun b H3 =>
        if b = true then te σ2 H3 fun y H4 => ∃ acc, H4 D = some (.lst acc) ∧ acc.length < sizeLine ∧ Nx (upd H4 D (.lst (acc ++ [y]))) else Nx H3) := by
  refine ⟨n, rfl, hn, by omega, fun D hD => ?_⟩
  have nD : D ≠ p.a := hp.nea hD
  refine lc_range (lo := 0) (n := n.toNat) (fun i H' => (∃ ys : List V, H' D = some (.lst ys) ∧ ys.length = i ∧ ∀ k y, ys[k]? = some y → P k y) ∧ Turn p b H1 H') ⟨⟨[], upd_same, rfl, fun k y h => by simp at h⟩, (Turn.refl hp).new hD⟩ (fun i H hi p => ?_) fun H p => ?_
  · refine ⟨hw _, ?_⟩
    refine go_yes ?_
    refine iteT ?_
    rw [Int.zero_add]
    obtain ⟨⟨ys, e, hl, hP⟩, t⟩ := p
    refine he i H (by omega) t _ fun y H4 s4 hy => ?_
    have e4 := s4.but D _ nD e
    refine ⟨ys, e4, szlt (by omega), ⟨ys ++ [y], upd_same, by simp [hl], fun k z hz => ?_⟩, Turn.mut hp hD (t.trans s4)⟩
    rcases Nat.lt_or_ge k ys.length with h | h
    · rw [List.getElem?_append_left h] at hz
      exact hP k z hz
    · rw [List.getElem?_append_right h] at hz
      rcases Nat.eq_or_lt_of_le h with e2 | e2
      · rw [← e2, Nat.sub_self] at hz
        cases hz
        rw [← e2, hl]
        exact hy
      · rw [List.getElem?_eq_none (by simp; omega)] at hz
        cases hz
  · obtain ⟨⟨ys, e, hl, hP⟩, t⟩ := p
    exact q D ys H hD t e hl hP
end
/-! ### data -/
theorem tyx_list {K : PySem.W.Frag} {H : Hp} {a : Addr} {xs : List V} (h : SqL K H a xs) : TyX K H (.ref a) (.type "list") := by
  rcases h with (h | ⟨o, h⟩) | ⟨o, its, n, e, c, _⟩
  · exact .base (.lst h)
  · exact .base (.frz h)
  · exact .kList e c
theorem tyx_tup {K : PySem.W.Frag} {H : Hp} {a : Addr} {xs : List V} (h : SqT K H a xs) : TyX K H (.ref a) (.type "tuple") := by
  rcases h with (h | ⟨o, h⟩) | ⟨o, its, n, e, c, _⟩
  · exact .base (.tup h)
  · exact .fTuple h
  · exact .kTuple e c
/-- the same data, at most n deep -/
inductive Eqd (K : PySem.W.Frag) (H : Hp) : Nat → V → V → Prop where
  | non {n : Nat} : Eqd K H n .non .non
  | bl {n : Nat} (b : Bool) : Eqd K H n (.bl b) (.bl b)
  | int {n : Nat} (i : Int) : Eqd K H n (.int i) (.int i)
  | str {n : Nat} (x : Str) : Eqd K H n (.str x) (.str x)
  | lst {n : Nat} {a b : Addr} {xs ys : List V} (h1 : SqL K H a xs) (h2 : SqL K H b ys) (hl : xs.length = ys.length) (hz : xs.length ≤ 100000) (h : ∀ (i : Nat) x y, xs[i]? = some x → ys[i]? = some y → Eqd K H n x y) : Eqd K H (n + 1) (.ref a) (.ref b)
  | tup {n : Nat} {a b : Addr} {xs ys : List V} (h1 : SqT K H a xs) (h2 : SqT K H b ys) (hl : xs.length = ys.length) (hz : xs.length ≤ 100000) (h : ∀ (i : Nat) x y, xs[i]? = some x → ys[i]? = some y → Eqd K H n x y) : Eqd K H (n + 1) (.ref a) (.ref b)
section
variable {K : PySem.W.Frag} {H H1 : Hp} {Q : VK}
theorem go_isiL (c : String) {b : Bool} {a : Addr} {xs : List V} (h : SqL K H a xs) (e : kitB "list" c = some b) (q : Q (.bl b) H) : rIsi K [.ref a, .ty c] H Q := go_isiB (tyx_list h) e q
theorem go_isiT (c : String) {b : Bool} {a : Addr} {xs : List V} (h : SqT K H a xs) (e : kitB "tuple" c = some b) (q : Q (.bl b) H) : rIsi K [.ref a, .ty c] H Q := go_isiB (tyx_tup h) e q
theorem sq_list_int {a : Addr} {xs : List V} (h : SqL K H a xs) (q : Q (.bl false) H) : rIsi K [.ref a, .ty "int"] H Q := go_isiB (tyx_list h) (by decide +kernel) q
theorem sq_list_bool {a : Addr} {xs : List V} (h : SqL K H a xs) (q : Q (.bl false) H) : rIsi K [.ref a, .ty "bool"] H Q := go_isiB (tyx_list h) (by decide +kernel) q
theorem sq_list_str {a : Addr} {xs : List V} (h : SqL K H a xs) (q : Q (.bl false) H) : rIsi K [.ref a, .ty "str"] H Q := go_isiB (tyx_list h) (by decide +kernel) q
theorem sq_list_list {a : Addr} {xs : List V} (h : SqL K H a xs) (q : Q (.bl true) H) : rIsi K [.ref a, .ty "list"] H Q := go_isiB (tyx_list h) (by decide +kernel) q
theorem sq_list_tuple {a : Addr} {xs : List V} (h : SqL K H a xs) (q : Q (.bl false) H) : rIsi K [.ref a, .ty "tuple"] H Q := go_isiB (tyx_list h) (by decide +kernel) q
theorem sq_tuple_int {a : Addr} {xs : List V} (h : SqT K H a xs) (q : Q (.bl false) H) : rIsi K [.ref a, .ty "int"] H Q := go_isiB (tyx_tup h) (by decide +kernel) q
theorem sq_tuple_bool {a : Addr} {xs : List V} (h : SqT K H a xs) (q : Q (.bl false) H) : rIsi K [.ref a, .ty "bool"] H Q := go_isiB (tyx_tup h) (by decide +kernel) q
theorem sq_tuple_str {a : Addr} {xs : List V} (h : SqT K H a xs) (q : Q (.bl false) H) : rIsi K [.ref a, .ty "str"] H Q := go_isiB (tyx_tup h) (by decide +kernel) q
theorem sq_tuple_list {a : Addr} {xs : List V} (h : SqT K H a xs) (q : Q (.bl false) H) : rIsi K [.ref a, .ty "list"] H Q := go_isiB (tyx_tup h) (by decide +kernel) q
theorem sq_tuple_tuple {a : Addr} {xs : List V} (h : SqT K H a xs) (q : Q (.bl true) H) : rIsi K [.ref a, .ty "tuple"] H Q := go_isiB (tyx_tup h) (by decide +kernel) q
theorem go_ixQL {a : Addr} {xs : List V} {k : Int} {v : V} (hs : SqL K H a xs) (e : atI xs k = some v) (h : Q v H) : rIx K (.ref a) (.int k) H Q := .inl ⟨a, xs, k, v, rfl, rfl, hs, e, h⟩
theorem go_ixQT {a : Addr} {xs : List V} {k : Int} {v : V} (hs : SqT K H a xs) (e : atI xs k = some v) (h : Q v H) : rIx K (.ref a) (.int k) H Q := .inr (.inl ⟨a, xs, k, v, rfl, rfl, hs, e, h⟩)
end
/-! ### texts -/
abbrev S : List Nat → Str := SX.S
section
variable {X : Cx} {σ : L2.St} {H H1 : Hp} {Q : VK} {K : PySem.W.Frag} {o e : Expr} {to te : TE}
def qSplit : V → List V → Hp → VK → Prop := fun x xs H Q => ∃ a b, x = .str a ∧ xs = [.str b] ∧ (b.length == 0) = false ∧ a.length + 2 ≤ sizeLine ∧ rNewStrs (Txt.split a b) H Q
theorem e_split {apos pos : Pos} (ho : PE X o to) (he : PE X e te) (hs : starEach [e] X.env = [(false, eval e X.env)] := by rfl) (hbase : attributeBase o "split" X.env (eval o X.env) = eval o X.env := by rfl) (hline : (apos.endLine == pos.line) = true := by rfl) :
    PE X (.Call (.Attribute o "split" apos) [e] [] pos) (tM1 qSplit to te) := pe_split ho he hs hbase hline
theorem go_M1 {r : V → List V → Hp → VK → Prop} (h : to σ H fun x H1 => (∃ a, x = .str a) ∧ te σ H1 fun y H2 => r x [y] H2 Q) : tM1 r to te σ H Q := h
theorem go_M0 {r : V → List V → Hp → VK → Prop} (h : to σ H fun x H1 => (∃ a, x = .str a) ∧ r x [] H1 Q) : tM0 r to σ H Q := h
theorem go_isS {a : Str} {B : Prop} (h : B) : (∃ b, V.str a = .str b) ∧ B := ⟨⟨a, rfl⟩, h⟩
theorem go_split {a : List Nat} (ha : a.length ≤ 90000) {c : Nat} (hc : c < 256) (h : ∀ p, H p = none → Q (.ref p) (upd H p (.lst ((TL.spl [c] 0 [] a).map fun w => V.str (S w))))) : qSplit (.str (S a)) [.str (S [c])] H Q := by
  refine ⟨S a, S [c], rfl, rfl, rfl, by rw [SX.S_len]; exact sz (by omega), ?_⟩
  rw [SX.split_S (by simp) (by simp [hc])]
  intro p hp
  rw [List.map_map]
  exact h p hp
def qJoin (K : PySem.W.Frag) : V → List V → Hp → VK → Prop := fun x xs H Q => ∃ a p, ∃ ys : List Str, x = .str a ∧ xs = [.ref p] ∧ (SqL K H p (ys.map V.str) ∨ SqT K H p (ys.map V.str)) ∧ (ys.map (·.length)).sum + ys.length * a.length ≤ 16777216 ∧ Q (.str (Txt.join a ys)) H
theorem e_join {apos pos : Pos} (ho : PE X o to) (he : PE X e te) (hs : starEach [e] X.env = [(false, eval e X.env)] := by rfl) (hbase : attributeBase o "join" X.env (eval o X.env) = eval o X.env := by rfl) (hline : (apos.endLine == pos.line) = true := by rfl) :
    PE X (.Call (.Attribute o "join" apos) [e] [] pos) (tM1 (qJoin X.K) to te) := pe_join ho he hs hbase hline
theorem go_join {a : List Nat} {p : Addr} {ws : List (List Nat)} (hs : SqL K H p (ws.map fun w => V.str (S w))) (hz : (ws.map List.length).sum + ws.length * a.length ≤ 16777216) (h : Q (.str (S (TL.joinL a ws))) H) : qJoin K (.str (S a)) [.ref p] H Q := by
  refine ⟨S a, p, ws.map S, rfl, rfl, .inl (by rw [List.map_map]; exact hs), ?_, by rw [SX.join_S]; exact h⟩
  rw [SX.lens, List.length_map, SX.S_len]
  exact hz
/-- for c in a text -/
theorem go_iStr {R : It → Hp → Prop} (h : te σ H fun v H1 => ∃ x, v = .str x ∧ R (Its x) H1) : iStr te σ H R := h
theorem foS {D : Ends} {tb : TS} {g : TG} (cs : List Nat) (Pv : Nat → L2.St → Hp → Prop) (h0 : Pv 0 σ H1)
    (hs : ∀ i c σ H, cs[i]? = some c → Pv i σ H → g (.str (S [c])) σ H fun σ2 H2 => tb { D with nx := Pv (i + 1), ct := Pv (i + 1), bk := D.nx } σ2 H2) (hd : ∀ σ H, Pv cs.length σ H → D.nx σ H) :
    ∃ x, V.str (S cs) = .str x ∧ ∃ W : Nat → Nat → L2.St → Hp → Prop, (∃ m, W 0 m σ H1) ∧ ∀ i m σ H, W i m σ H →
      ((Its x).stop i H ∧ D.nx σ H) ∨ ((Its x).go i H ∧ ∃ N : L2.St → Hp → Prop, (∀ σ' H', N σ' H' → ∃ m', m' < m ∧ W (i + 1) m' σ' H') ∧ ∀ x2 H', (Its x).yld i H x2 H' → g x2 σ H' fun σ2 H2 => tb { D with nx := N, ct := N, bk := D.nx } σ2 H2) := by
  refine ⟨S cs, rfl, fun i m σ H => m = cs.length - i ∧ i ≤ cs.length ∧ Pv i σ H, ⟨cs.length, by simp, Nat.zero_le _, h0⟩, ?_⟩
  rintro i m σ H ⟨rfl, hi, p⟩
  have hsz : (S cs).cps.size = cs.length := by simp
  by_cases hlt : i < cs.length
  · refine .inr ⟨by show i < (S cs).cps.size; rw [hsz]; exact hlt, Pv (i + 1), fun σ' H' p' => ⟨cs.length - (i + 1), by omega, rfl, hlt, p'⟩, fun x H' y => ?_⟩
    obtain ⟨e, c, hc, rfl⟩ := y
    subst e
    refine hs i c σ _ ?_ p
    have : (S cs).cps[i]? = some c := hc
    simpa using this
  · have e : i = cs.length := by omega
    subst e
    exact .inl ⟨by show (S cs).cps.size ≤ cs.length; omega, hd σ H p⟩
theorem at_mem {α : Type} {xs : List α} {i : Nat} {v : α} (h : atI xs (i : Int) = some v) : v ∈ xs := by
  unfold atI ixN at h
  rw [if_pos (by omega)] at h
  split at h
  · rw [Option.bind_some, Int.toNat_natCast] at h
    exact List.mem_of_getElem? h
  · cases h
theorem atS_ex {z : Str} {k : Int} (h0 : 0 ≤ k) (h : k < z.length) : ∃ c, atI z.cps.toList k = some c := by
  have e : k = (k.toNat : Int) := by omega
  have h2 : k.toNat < z.cps.toList.length := by
    have : z.length = z.cps.toList.length := by simp [Str.length]
    omega
  rw [e]
  exact ⟨_, atI_nat (List.getElem?_eq_getElem h2)⟩
theorem dp_strs : ∀ ws : List Str, DpAll K H (ws.map V.str) (ws.map PyData.str)
  | [] => .nil
  | n :: r => .cons (.str n) (dp_strs r)
theorem eqvAll_strs : ∀ xs : List Str, PyData.eqvAll (xs.map PyData.str) (xs.map PyData.str) = true
  | [] => by simp [PyData.eqvAll]
  | x :: xs => by simp only [List.map_cons, PyData.eqvAll, PyData.eqv, eqvAll_strs xs]; simp
theorem depth_strs : ∀ xs : List Str, PyData.depthAll (xs.map PyData.str) = 0
  | [] => rfl
  | x :: xs => by
    rw [List.map_cons]
    unfold PyData.depthAll
    rw [depth_strs xs]
    rfl
theorem canLay_strs : ∀ xs : List Str, xs.all PyData.strOk = true → PyData.canLayAll0 (xs.map PyData.str) = true
  | [], _ => rfl
  | x :: xs, h => by
    rw [List.all_cons, Bool.and_eq_true] at h
    rw [List.map_cons]
    simp only [PyData.canLayAll0, PyData.canLay0, canLay_strs xs h.2, h.1, Bool.and_self]
theorem shaped_strs (xs : List Str) (h : xs.all PyData.strOk = true) : SeqAt.shaped (.list (xs.map PyData.str)) = true := by
  unfold SeqAt.shaped
  have h1 : PyData.canLay0 (.list (xs.map PyData.str)) = true := by
    simp only [PyData.canLay0]
    exact canLay_strs xs h
  have h2 : PyData.depth (.list (xs.map PyData.str)) ≤ 64 := by
    unfold PyData.depth
    rw [depth_strs xs]
    decide
  rw [h1, decide_eq_true h2]
  rfl
theorem go_eqStrs {a b : Addr} {xs : List Str} (h1 : SqL K H a (xs.map V.str)) (h2 : SqL K H b (xs.map V.str)) (ho : xs.all PyData.strOk = true) (h : Q (.bl true) H) : rEqD K (.ref a) (.ref b) H Q :=
  ⟨_, _, .lst h1 (dp_strs xs), .lst h2 (dp_strs xs), shaped_strs xs ho, shaped_strs xs ho, by rw [PyData.eqv, eqvAll_strs]; exact h⟩
end
end Gx

set_option Elab.async false
set_option linter.all false
set_option maxRecDepth 100000
set_option maxHeartbeats 4000000
/-! Own lemmas: operators that a class defines; gcd, lcm, // of great ints. -/
namespace Gx
open PySem PySem.Spec PyProof.Rows L2
section
variable {X : Cx} {CX : CXT} {C f : Addr} {fd : FuncData} {ps : List Str} {sp : Sp} {E : XK} {k : Nat} {Q : VK} {H : Hp}
theorem back_of {pins : List (Addr × Obj)} {σ : L2.St} {M : Model} {A : Around} {R : Value → Shared → Prop} {t : Sem Value} {s : Shared} (h : wpAny M A t (EP X pins σ Q) R s) : wpAny M A t (PySem.W.CmpBack (EP X pins σ Q)) R s := by
  refine wpAny_mono h (fun v s' q => ?_) fun _ _ z => z
  cases v <;> first | exact q | (obtain ⟨x, H', I, r, q⟩ := q; cases x <;> first | (cases r; done) | (obtain ⟨_, r⟩ := r; cases r))
/-- x op y by the class's own method -/
def rOwn (C : Addr) (sp : Sp) (E : XK) : R2 := fun x y H Q => ∃ a b dx dy fs gs, x = .ref a ∧ y = .ref b ∧ H a = some (.ins C dx fs) ∧ H b = some (.ins C dy gs) ∧ sp [x, y] H Q E
theorem go_own {a b dx dy : Addr} {fs gs : List (Str × V)} (h1 : H a = some (.ins C dx fs)) (h2 : H b = some (.ins C dy gs)) (h : sp [.ref a, .ref b] H Q E) : rOwn C sp E (.ref a) (.ref b) H Q := ⟨a, b, dx, dy, fs, gs, rfl, rfl, h1, h2, h⟩
theorem op_own {op : Operator} (hc : PySem.W.selfFirst X.K C = true) (hs : PySem.W.findIn X.K (.ref C) (PySem.dunder op.info.2) = some (some (.ref f))) (hf : PySem.W.isFn X.K (.ref f) = true)
    (F : FnOk X.prog X.w X.K X.mg X.base CX k f fd ps sp) (hr : Room k X.A) (hb : Binds X.K fd ps []) (hx : Passes CX X E) : OpR X (binaryOp op) (rOwn C sp E) := by
  intro pins s σ H x y v u Q I rx ry h
  obtain ⟨a, b, dx, dy, fs, gs, rfl, rfl, ha, hb', hq⟩ := h
  have rx' := rx
  have ry' := ry
  cases rx
  cases ry
  obtain ⟨mA, J, _⟩ := ins_get I.hok ha
  obtain ⟨mB, J', _⟩ := ins_get I.hok hb'
  obtain ⟨od, J, _⟩ := J.look
  obtain ⟨od', J', _⟩ := J'.look
  obtain ⟨m, hF⟩ := I.fr
  refine PySem.W.binop_K hF I.ok.mod.kin J J'.type hc hs hf (back_of ?_)
  exact run_fn F hr hb .nil hx I (.cons rx' (.cons ry' .nil)) (by simpa using hq)
/-- x == y, x != y by the class's own method (op: its own name) -/
theorem op_ownCmp {op : CmpOp} (hcmp : ∀ v u, compareOp op v u = richCompare op v u) (hc : PySem.W.notFirst X.K C (.ref C) = true) (hs : PySem.W.findIn X.K (.ref C) (cmpInfo op).2.1 = some (some (.ref f))) (hf : PySem.W.isFn X.K (.ref f) = true)
    (F : FnOk X.prog X.w X.K X.mg X.base CX k f fd ps sp) (hr : Room k X.A) (hb : Binds X.K fd ps []) (hx : Passes CX X E) : OpR X (compareOp op) (rOwn C sp E) := by
  intro pins s σ H x y v u Q I rx ry h
  obtain ⟨a, b, dx, dy, fs, gs, rfl, rfl, ha, hb', hq⟩ := h
  have rx' := rx
  have ry' := ry
  cases rx
  cases ry
  obtain ⟨mA, J, _⟩ := ins_get I.hok ha
  obtain ⟨mB, J', _⟩ := ins_get I.hok hb'
  obtain ⟨od, J, _⟩ := J.look
  obtain ⟨od', J', _⟩ := J'.look
  obtain ⟨m, hF⟩ := I.fr
  rw [hcmp]
  refine PySem.W.cmp_K hr.units0 hF I.ok.mod.kin J J'.type hc hs hf (back_of ?_)
  exact run_fn F hr hb .nil hx I (.cons rx' (.cons ry' .nil)) (by simpa using hq)
/-- -x by the class's own method -/
def uOwn (C : Addr) (sp : Sp) (E : XK) : V → Hp → VK → Prop := fun x H Q => ∃ a dx fs, x = .ref a ∧ H a = some (.ins C dx fs) ∧ sp [x] H Q E
theorem go_uOwn {a dx : Addr} {fs : List (Str × V)} (h1 : H a = some (.ins C dx fs)) (h : sp [.ref a] H Q E) : uOwn C sp E (.ref a) H Q := ⟨a, dx, fs, rfl, h1, h⟩
theorem un_own (hs : PySem.W.findIn X.K (.ref C) "__neg__" = some (some (.ref f))) (hf : PySem.W.isFn X.K (.ref f) = true)
    (F : FnOk X.prog X.w X.K X.mg X.base CX k f fd ps sp) (hr : Room k X.A) (hb : Binds X.K fd ps []) (hx : Passes CX X E) : UnR X (unaryOp .USub) (uOwn C sp E) := by
  intro pins s σ H x v Q I rx h
  obtain ⟨a, dx, fs, rfl, ha, hq⟩ := h
  have rx' := rx
  cases rx
  obtain ⟨mA, J, _⟩ := ins_get I.hok ha
  obtain ⟨od, J, _⟩ := J.look
  unfold unaryOp
  refine wpAny_holding ?_
  dsimp only
  rw [if_neg (by decide)]
  refine wpAny_bind (PySem.W.special_fn I.kIn J hs (beq_iff_eq.mp hf) ?_)
  exact wpAny_mono (run_fn F hr hb .nil hx I (.cons rx' .nil) (by simpa using hq)) (fun v s' q => wpAny_pure q) fun _ _ z => z
/-! ### great ints -/
def CDivX (_ j : Int) : Prop := j ≠ 0 ∧ j.natAbs.log2 < 9000
theorem op_fdivX : OpR X (binaryOp .FloorDiv) (rI CDivX fun i j => .int (i.fdiv j)) := opI fun _ _ _ _ _ _ _ hc q => floordiv_int hc.1 q (.inl (PyProof.noPylong_of_log2 hc.2))
theorem divX {i j : Int} {b : Nat} (h : j ≠ 0) (hb : j.natAbs < 2 ^ b) (h0 : 0 < b) (h9 : b ≤ 9000) : CDivX i j := ⟨h, Nat.lt_of_lt_of_le (PySem.Flt.log2_lt_of h0 hb) h9⟩
theorem go_gcd {a b : Int} (h : Q (.int ((Nat.gcd a.natAbs b.natAbs : Nat) : Int)) H) : rGcd [.int a, .int b] H Q := ⟨a, b, rfl, h⟩
/-- two numbers of up to 9000 bits -/
def rLcm : List V → Hp → VK → Prop := fun vs H Q => ∃ a b : Int, vs = [.int a, .int b] ∧ a.natAbs < 2 ^ 9000 ∧ b.natAbs < 2 ^ 9000 ∧ Q (.int ((Nat.lcm a.natAbs b.natAbs : Nat) : Int)) H
theorem log2_le {n k : Nat} (h : n < 2 ^ (k + 1)) : n.log2 ≤ k := PySem.W.mg_log h
theorem cr_lcm : CallR X (.builtin "math.lcm") rLcm := by
  intro pins s σ H vs us Q I r h
  obtain ⟨a, b, rfl, ha, hb, q⟩ := h
  obtain ⟨t, u, rfl⟩ := Vals.int2 r
  have h1 : (max 1 a.natAbs).log2 ≤ 8999 := log2_le (by
    have : 1 < 2 ^ 9000 := Nat.one_lt_two_pow (by decide)
    show max 1 a.natAbs < 2 ^ 9000
    omega)
  have h2 : (max a.natAbs b.natAbs).log2 ≤ 8999 := log2_le (by show max a.natAbs b.natAbs < 2 ^ 9000; omega)
  have e : (Nat.lcm 1 a.natAbs) = a.natAbs := Nat.lcm_one_left _
  have hz : ((((Nat.lcm 1 a.natAbs).lcm b.natAbs : Nat) : Int)).natAbs.log2 < bitsLine := by
    rw [e, Int.natAbs_natCast]
    have hm : a.natAbs.lcm b.natAbs ≤ a.natAbs * b.natAbs := Nat.div_le_self _ _
    have hl : a.natAbs.lcm b.natAbs < 2 ^ (17999 + 1) := by
      have : a.natAbs * b.natAbs < 2 ^ 9000 * 2 ^ 9000 := Nat.mul_lt_mul'' ha hb
      rw [← Nat.pow_add] at this
      exact Nat.lt_of_le_of_lt hm this
    have := log2_le hl
    have hb : bitsLine = 134217728 := by decide
    omega
  have g := PySem.W.mg_run_lcm a t b u (by omega) (by omega) hz
  refine call_function_meets PySem.W.MGF.kind_lcm PySem.W.MGF.plain_lcm PySem.W.MGF.entry_lcm (PySem.W.MGF.args_lcm _ _) g.meets ?_
  rw [e]
  exact ⟨.int _, H, I.tok _, ⟨_, rfl⟩, q⟩
theorem go_lcm {a b : Int} (ha : a.natAbs < 2 ^ 9000) (hb : b.natAbs < 2 ^ 9000) (h : Q (.int ((Nat.lcm a.natAbs b.natAbs : Nat) : Int)) H) : rLcm [.int a, .int b] H Q := ⟨a, b, rfl, ha, hb, h⟩
end
end Gx

set_option Elab.async false
set_option linter.all false
set_option maxRecDepth 100000
set_option maxHeartbeats 4000000
/-! Own lemmas: fractions in lowest terms; Euclid's loop. -/
namespace Gx
open PySem PySem.Spec PyProof.Rows L2
/-- the numerator and the denominator in lowest terms -/
def rN (a b : Int) : Int := if b < 0 then (-a) / (Int.gcd a b : Int) else a / (Int.gcd a b : Int)
def rD (a b : Int) : Int := if b < 0 then (-b) / (Int.gcd a b : Int) else b / (Int.gcd a b : Int)
theorem gcd_pos {a b : Int} (h : b ≠ 0) : 0 < (Int.gcd a b : Int) := by
  have := Int.gcd_pos_of_ne_zero_right a h
  omega
theorem gcd_l (a b : Int) : (Int.gcd a b : Int) ∣ a := Int.gcd_dvd_left _ _
theorem gcd_r (a b : Int) : (Int.gcd a b : Int) ∣ b := Int.gcd_dvd_right _ _
/-- one form for both signs -/
theorem rN_mul {a b : Int} (h : b ≠ 0) : rN a b * (if b < 0 then -(Int.gcd a b : Int) else (Int.gcd a b : Int)) = a := by
  unfold rN
  split
  · rw [Int.mul_neg, Int.ediv_mul_cancel (Int.dvd_neg.mpr (gcd_l a b)), Int.neg_neg]
  · exact Int.ediv_mul_cancel (gcd_l a b)
theorem rD_mul {a b : Int} (h : b ≠ 0) : rD a b * (if b < 0 then -(Int.gcd a b : Int) else (Int.gcd a b : Int)) = b := by
  unfold rD
  split
  · rw [Int.mul_neg, Int.ediv_mul_cancel (Int.dvd_neg.mpr (gcd_r a b)), Int.neg_neg]
  · exact Int.ediv_mul_cancel (gcd_r a b)
theorem rD_pos {a b : Int} (h : b ≠ 0) : 0 < rD a b := by
  have g := gcd_pos (a := a) h
  have e := rD_mul (a := a) h
  by_cases hb : b < 0
  · rw [if_pos hb] at e
    by_cases q : 0 < rD a b
    · exact q
    · have : 0 ≤ rD a b * -(Int.gcd a b : Int) := Int.mul_nonneg_of_nonpos_of_nonpos (by omega) (by omega)
      omega
  · rw [if_neg hb] at e
    by_cases q : 0 < rD a b
    · exact q
    · have : rD a b * (Int.gcd a b : Int) ≤ 0 := Int.mul_nonpos_of_nonpos_of_nonneg (by omega) (by omega)
      omega
theorem r_cross {a b : Int} (h : b ≠ 0) : rN a b * b = a * rD a b := by
  have e1 := rN_mul (a := a) h
  have e2 := rD_mul (a := a) h
  generalize (if b < 0 then -(Int.gcd a b : Int) else (Int.gcd a b : Int)) = g at e1 e2
  calc rN a b * b = rN a b * (rD a b * g) := by rw [e2]
    _ = (rN a b * g) * rD a b := by rw [Int.mul_comm (rD a b) g, ← Int.mul_assoc]
    _ = a * rD a b := by rw [e1]
theorem r_coprime {a b : Int} (h : b ≠ 0) : Int.gcd (rN a b) (rD a b) = 1 := by
  have g := gcd_pos (a := a) h
  have e1 := rN_mul (a := a) h
  have e2 := rD_mul (a := a) h
  have e3 : Int.gcd (rN a b * (if b < 0 then -(Int.gcd a b : Int) else (Int.gcd a b : Int))) (rD a b * (if b < 0 then -(Int.gcd a b : Int) else (Int.gcd a b : Int))) = Int.gcd a b := by rw [e1, e2]
  rw [Int.gcd_mul_right] at e3
  have e4 : (if b < 0 then -(Int.gcd a b : Int) else (Int.gcd a b : Int)).natAbs = Int.gcd a b := by
    split
    · rw [Int.natAbs_neg, Int.natAbs_natCast]
    · rw [Int.natAbs_natCast]
  rw [e4] at e3
  have hp : 0 < Int.gcd a b := by omega
  exact Nat.eq_of_mul_eq_mul_right hp (by omega)
theorem dvd_co {k m n : Int} (h : k ∣ m * n) (g : Int.gcd k m = 1) : k ∣ n := by
  have h' : k.natAbs ∣ m.natAbs * n.natAbs := by
    rw [← Int.natAbs_mul]
    exact Int.natAbs_dvd_natAbs.mpr h
  exact Int.natAbs_dvd_natAbs.mp (Nat.Coprime.dvd_of_dvd_mul_left (show Nat.gcd k.natAbs m.natAbs = 1 from g) h')
/-- lowest terms are one -/
theorem low_unique {n d n' d' : Int} (hd : 0 < d) (hd' : 0 < d') (h1 : Int.gcd n d = 1) (h2 : Int.gcd n' d' = 1) (h : n * d' = n' * d) : n = n' ∧ d = d' := by
  have k1 : d ∣ d' := by
    have : d ∣ n * d' := by rw [h]; exact Int.dvd_mul_left _ _
    exact dvd_co this (by rw [Int.gcd_comm]; exact h1)
  have k2 : d' ∣ d := by
    have : d' ∣ n' * d := by rw [← h]; exact Int.dvd_mul_left _ _
    exact dvd_co this (by rw [Int.gcd_comm]; exact h2)
  have e : d = d' := Int.dvd_antisymm (by omega) (by omega) k1 k2
  subst e
  exact ⟨Int.eq_of_mul_eq_mul_right (by omega) h, rfl⟩
theorem r_unique {a b n d : Int} (h : b ≠ 0) (hd : 0 < d) (hg : Int.gcd n d = 1) (e : n * b = a * d) : n = rN a b ∧ d = rD a b := by
  refine low_unique hd (rD_pos h) hg (r_coprime h) ?_
  have c := r_cross (a := a) h
  have : n * rD a b * b = rN a b * d * b := by
    calc n * rD a b * b = n * b * rD a b := by rw [Int.mul_right_comm]
      _ = a * d * rD a b := by rw [e]
      _ = a * rD a b * d := by rw [Int.mul_right_comm]
      _ = rN a b * b * d := by rw [c]
      _ = rN a b * d * b := by rw [Int.mul_right_comm]
  exact Int.eq_of_mul_eq_mul_right h this
theorem r_congr {a b a' b' : Int} (h : b ≠ 0) (h' : b' ≠ 0) (e : a * b' = a' * b) : rN a b = rN a' b' ∧ rD a b = rD a' b' := by
  refine r_unique h' (rD_pos h) (r_coprime h) ?_
  have c := r_cross (a := a) h
  have : rN a b * b' * b = a' * rD a b * b := by
    calc rN a b * b' * b = rN a b * b * b' := by rw [Int.mul_right_comm]
      _ = a * rD a b * b' := by rw [c]
      _ = a * b' * rD a b := by rw [Int.mul_right_comm]
      _ = a' * b * rD a b := by rw [e]
      _ = a' * rD a b * b := by rw [Int.mul_right_comm]
  exact Int.eq_of_mul_eq_mul_right h this
/-- what the program reckons -/
theorem rN_fdiv {a b : Int} (h : b ≠ 0) {p : Int} (hp : p = if b < 0 then -(Int.gcd a b : Int) else (Int.gcd a b : Int)) : a.fdiv p = rN a b ∧ b.fdiv p = rD a b ∧ p ≠ 0 := by
  have g := gcd_pos (a := a) h
  have hp0 : p ≠ 0 := by rw [hp]; split <;> omega
  have e1 := rN_mul (a := a) h
  have e2 := rD_mul (a := a) h
  rw [← hp] at e1 e2
  refine ⟨?_, ?_, hp0⟩
  · have := Int.mul_fdiv_cancel (rN a b) hp0
    rw [e1] at this
    exact this
  · have := Int.mul_fdiv_cancel (rD a b) hp0
    rw [e2] at this
    exact this
theorem mul_abs_le {x y z : Int} (hz : z ≠ 0) (e : x * z = y) : x.natAbs ≤ y.natAbs := by
  rw [← e, Int.natAbs_mul]
  exact Nat.le_mul_of_pos_right _ (by omega)
theorem rN_le (a b : Int) (h : b ≠ 0) : (rN a b).natAbs ≤ a.natAbs := by
  have g := gcd_pos (a := a) h
  exact mul_abs_le (by split <;> omega) (rN_mul h)
theorem rD_le (a b : Int) (h : b ≠ 0) : (rD a b).natAbs ≤ b.natAbs := by
  have g := gcd_pos (a := a) h
  exact mul_abs_le (by split <;> omega) (rD_mul h)
theorem r_self {n d : Int} (hd : 0 < d) (hg : Int.gcd n d = 1) : rN n d = n ∧ rD n d = d := by
  obtain ⟨e1, e2⟩ := r_unique (a := n) (b := d) (n := n) (d := d) (by omega) hd hg rfl
  exact ⟨e1.symm, e2.symm⟩
/-! ### sums, products of fractions that were brought to lowest terms -/
theorem r_add {a b c d : Int} (hb : b ≠ 0) (hd : d ≠ 0) : rN (rN a b * rD c d + rN c d * rD a b) (rD a b * rD c d) = rN (a * d + c * b) (b * d) ∧ rD (rN a b * rD c d + rN c d * rD a b) (rD a b * rD c d) = rD (a * d + c * b) (b * d) := by
  have p1 := rD_pos (a := a) hb
  have p2 := rD_pos (a := c) hd
  have c1 := r_cross (a := a) hb
  have c2 := r_cross (a := c) hd
  refine r_congr (Int.ne_of_gt (Int.mul_pos p1 p2)) (Int.mul_ne_zero hb hd) ?_
  generalize rN a b = n at *
  generalize rD a b = m at *
  generalize rN c d = n' at *
  generalize rD c d = m' at *
  rw [Int.add_mul, Int.add_mul]
  have e1 : n * m' * (b * d) = a * d * (m * m') := by
    calc n * m' * (b * d) = (n * b) * (m' * d) := by ac_rfl
      _ = (a * m) * (m' * d) := by rw [c1]
      _ = a * d * (m * m') := by ac_rfl
  have e2 : n' * m * (b * d) = c * b * (m * m') := by
    calc n' * m * (b * d) = (n' * d) * (m * b) := by ac_rfl
      _ = (c * m') * (m * b) := by rw [c2]
      _ = c * b * (m * m') := by ac_rfl
  rw [e1, e2]
theorem r_neg {a b : Int} (hb : b ≠ 0) : rN (-rN a b) (rD a b) = rN (-a) b ∧ rD (-rN a b) (rD a b) = rD (-a) b := by
  have p1 := rD_pos (a := a) hb
  have c1 := r_cross (a := a) hb
  refine r_congr (by omega) hb ?_
  rw [Int.neg_mul, Int.neg_mul, c1]
theorem r_sub {a b c d : Int} (hb : b ≠ 0) (hd : d ≠ 0) : rN (rN a b * rD c d - rN c d * rD a b) (rD a b * rD c d) = rN (a * d - c * b) (b * d) ∧ rD (rN a b * rD c d - rN c d * rD a b) (rD a b * rD c d) = rD (a * d - c * b) (b * d) := by
  have p1 := rD_pos (a := a) hb
  have p2 := rD_pos (a := c) hd
  have c1 := r_cross (a := a) hb
  have c2 := r_cross (a := c) hd
  refine r_congr (Int.ne_of_gt (Int.mul_pos p1 p2)) (Int.mul_ne_zero hb hd) ?_
  generalize rN a b = n at *
  generalize rD a b = m at *
  generalize rN c d = n' at *
  generalize rD c d = m' at *
  rw [Int.sub_mul, Int.sub_mul]
  have e1 : n * m' * (b * d) = a * d * (m * m') := by
    calc n * m' * (b * d) = (n * b) * (m' * d) := by ac_rfl
      _ = (a * m) * (m' * d) := by rw [c1]
      _ = a * d * (m * m') := by ac_rfl
  have e2 : n' * m * (b * d) = c * b * (m * m') := by
    calc n' * m * (b * d) = (n' * d) * (m * b) := by ac_rfl
      _ = (c * m') * (m * b) := by rw [c2]
      _ = c * b * (m * m') := by ac_rfl
  rw [e1, e2]
theorem r_mul {a b c d : Int} (hb : b ≠ 0) (hd : d ≠ 0) : rN (rN a b * rN c d) (rD a b * rD c d) = rN (a * c) (b * d) ∧ rD (rN a b * rN c d) (rD a b * rD c d) = rD (a * c) (b * d) := by
  have p1 := rD_pos (a := a) hb
  have p2 := rD_pos (a := c) hd
  have c1 := r_cross (a := a) hb
  have c2 := r_cross (a := c) hd
  refine r_congr (Int.ne_of_gt (Int.mul_pos p1 p2)) (Int.mul_ne_zero hb hd) ?_
  generalize rN a b = n at *
  generalize rD a b = m at *
  generalize rN c d = n' at *
  generalize rD c d = m' at *
  calc n * n' * (b * d) = (n * b) * (n' * d) := by ac_rfl
    _ = (a * m) * (c * m') := by rw [c1, c2]
    _ = a * c * (m * m') := by ac_rfl
/-! ### Euclid -/
theorem gcd_step {a b : Int} (ha : 0 ≤ a) (hb : 0 < b) : Int.gcd b (a % b) = Int.gcd a b := by
  have h : 0 ≤ a % b := Int.emod_nonneg _ (by omega)
  obtain ⟨n, rfl⟩ : ∃ n : Nat, a = n := ⟨a.toNat, by omega⟩
  obtain ⟨m, rfl⟩ : ∃ m : Nat, b = m := ⟨b.toNat, by omega⟩
  rw [← Int.natCast_emod, Int.gcd_natCast_natCast, Int.gcd_natCast_natCast, Nat.gcd_comm n m, Nat.gcd_rec m n, Nat.gcd_comm]
theorem euclid_drop {a b : Int} (hb : 0 < b) (h : b < a) : 2 * (b * (a % b)) ≤ a * b := by
  have h0 : 0 ≤ a % b := Int.emod_nonneg _ (by omega)
  have h1 : a % b < b := Int.emod_lt_of_pos _ hb
  have h2 : 1 ≤ a / b := by
    rw [Int.le_ediv_iff_mul_le hb]
    omega
  have h3 := Int.mul_ediv_add_emod a b
  have h4 : b * 1 ≤ b * (a / b) := Int.mul_le_mul_of_nonneg_left h2 (by omega)
  have h5 : 2 * (a % b) ≤ a := by omega
  have h6 : b * (2 * (a % b)) ≤ b * a := Int.mul_le_mul_of_nonneg_left h5 (by omega)
  rw [Int.mul_comm a b]
  calc 2 * (b * (a % b)) = b * (2 * (a % b)) := by ac_rfl
    _ ≤ b * a := h6
/-! ### a ratio as an object -/
def rf (n d : Int) : List (Str × V) := [("num", .int n), ("den", .int d)]
theorem nd_ne : ¬ (("num" : Str) = "den") := by decide +kernel
theorem rf_num (n d : Int) : (rf n d).lookup ("num" : Str) = some (.int n) := by
  unfold rf
  rw [List.lookup_cons, beq_self_eq_true]
theorem rf_den (n d : Int) : (rf n d).lookup ("den" : Str) = some (.int d) := by
  unfold rf
  rw [List.lookup_cons, show (("den" : Str) == "num") = false by decide +kernel, List.lookup_cons, beq_self_eq_true]
theorem rf_none (n d : Int) {m : Str} (h1 : ¬ m = "num") (h2 : ¬ m = "den") : (rf n d).lookup m = none := by
  unfold rf
  rw [List.lookup_cons, beq_eq_false_iff_ne.mpr h1, List.lookup_cons, beq_eq_false_iff_ne.mpr h2]
  rfl
theorem rf_put (n d : Int) : putF "den" (.int d) (putF "num" (.int n) []) = rf n d := by
  show (if ("num" : Str) = "den" then [(("num" : Str), V.int d)] else (("num" : Str), V.int n) :: putF "den" (V.int d) []) = _
  rw [if_neg nd_ne]
  rfl
/-- a ratio n / d stands at x -/
def RatAt (C : Addr) (H : Hp) (x : Addr) (n d : Int) : Prop := ∃ dx, H x = some (.ins C dx (rf n d))
theorem RatAt.same {C : Addr} {H H' : Hp} {x : Addr} {n d : Int} (h : RatAt C H x n d) (s : Same H H') : RatAt C H' x n d := let ⟨dx, e⟩ := h; ⟨dx, s _ _ e⟩
section
variable {K : PySem.W.Frag} {σ : L2.St} {H : Hp} {Q : VK} {ta : TE} {f : Str}
def qFld (K : PySem.W.Frag) (f : Str) (Q : VK) : VK := fun x H1 => ∃ a C dx fs v, x = .ref a ∧ H1 a = some (.ins C dx fs) ∧ Cls K C ∧ NoAttr K C f ∧ fs.lookup f = some v ∧ Q v H1
theorem go_fld (h : ta σ H (qFld K f Q)) : tFld K ta f σ H Q := h
theorem go_fldV {a C dx : Addr} {fs : List (Str × V)} {v : V} (e : H a = some (.ins C dx fs)) (c : Cls K C) (n : NoAttr K C f) (l : fs.lookup f = some v) (h : Q v H) : qFld K f Q (.ref a) H := ⟨a, C, dx, fs, v, rfl, e, c, n, l, h⟩
theorem go_rnum {a C dx : Addr} {m d : Int} (e : H a = some (.ins C dx (rf m d))) (c : Cls K C) (n : NoAttr K C "num") (h : Q (.int m) H) : qFld K "num" Q (.ref a) H := go_fldV e c n (rf_num m d) h
theorem go_rden {a C dx : Addr} {m d : Int} (e : H a = some (.ins C dx (rf m d))) (c : Cls K C) (n : NoAttr K C "den") (h : Q (.int d) H) : qFld K "den" Q (.ref a) H := go_fldV e c n (rf_den m d) h
theorem go_make {C : Addr} {sp : Sp} {dvs : List V} {E : XK} {t : TA} (h : t σ H fun vs H1 => ∀ x dx, H1 x = none → H1 dx = none → dx ≠ x →
  sp (.ref x :: (vs ++ dvs)) (upd (upd H1 dx (.own x)) x (.ins C dx [])) (fun v H2 => v = .non ∧ Q (.ref x) H2) E) : tMake C sp dvs E t σ H Q := h
theorem go_meth {C : Addr} {m : Str} {sp : Sp} {dvs : List V} {E : XK} {t : TA} (h : ta σ H fun x H1 => ∃ a dx fs, x = .ref a ∧ H1 a = some (.ins C dx fs) ∧ fs.lookup m = none ∧
  t σ H1 fun vs H2 => sp (x :: (vs ++ dvs)) H2 Q E) : tMeth C m sp dvs E ta t σ H Q := h
def sFldN (K : PySem.W.Frag) (f : Str) (y : V) (σ : L2.St) (D : Ends) : VK := fun x H2 => ∃ a C dx fs, x = .ref a ∧ H2 a = some (.ins C dx fs) ∧ Cls K C ∧ NoAttr K C f ∧ fs.length < 1000 ∧ D.nx σ (upd H2 a (.ins C dx (putF f y fs)))
theorem go_sfld {D : Ends} {tv : TE} (h : tv σ H fun y H1 => ta σ H1 (sFldN K f y σ D)) : sFld K ta tv f D σ H := h
theorem go_sfldV {D : Ends} {y : V} {a C dx : Addr} {fs : List (Str × V)} (e : H a = some (.ins C dx fs)) (c : Cls K C) (n : NoAttr K C f) (l : fs.length < 1000) (h : D.nx σ (upd H a (.ins C dx (putF f y fs)))) : sFldN K f y σ D (.ref a) H :=
  ⟨a, C, dx, fs, rfl, e, c, n, l, h⟩
end
theorem same_made {H H1 : Hp} {z dz : Addr} {o1 o2 : HO} (hz : H z = none) (hdz : H dz = none) (s : ∀ c o, c ≠ z → upd (upd H dz o1) z o2 c = some o → H1 c = some o) : Same H H1 := fun t o ht => by
  refine s t o (ne_of_none ht hz) ?_
  rw [upd_ne (ne_of_none ht hz), upd_ne (ne_of_none ht hdz)]
  exact ht
theorem p_mono {x : Int} {k n : Nat} (h : x.natAbs < 2 ^ k) (hk : k ≤ n) : x.natAbs < 2 ^ n := Nat.lt_of_lt_of_le h (Nat.pow_le_pow_right (by decide) hk)
theorem p30 {x : Int} (h : x.natAbs ≤ 10 ^ 30 + 1) : x.natAbs < 2 ^ 100 := Nat.lt_of_le_of_lt h (by decide)
theorem p_add {x y : Int} {k : Nat} (h1 : x.natAbs < 2 ^ k) (h2 : y.natAbs < 2 ^ k) : (x + y).natAbs < 2 ^ (k + 1) := by
  have := Int.natAbs_add_le x y
  rw [Nat.pow_succ]
  omega
theorem p_sub {x y : Int} {k : Nat} (h1 : x.natAbs < 2 ^ k) (h2 : y.natAbs < 2 ^ k) : (x - y).natAbs < 2 ^ (k + 1) := by
  have := Int.natAbs_sub_le x y
  rw [Nat.pow_succ]
  omega
/-! ### lists of ratios -/
/-- each of xs is a ratio, with the terms of rs -/
def RatsAt (C : Addr) (H : Hp) (xs : List V) (rs : List (Int × Int)) : Prop := xs.length = rs.length ∧ ∀ (i : Nat) x r, xs[i]? = some x → rs[i]? = some r → ∃ p dx, x = .ref p ∧ H p = some (.ins C dx (rf r.1 r.2))
theorem RatsAt.same {C : Addr} {H H' : Hp} {xs : List V} {rs : List (Int × Int)} (h : RatsAt C H xs rs) (s : Same H H') : RatsAt C H' xs rs :=
  ⟨h.1, fun i x r a b => let ⟨p, dx, e, k⟩ := h.2 i x r a b; ⟨p, dx, e, s _ _ k⟩⟩
theorem RatsAt.get {C : Addr} {H : Hp} {xs : List V} {rs : List (Int × Int)} (h : RatsAt C H xs rs) {i : Nat} {x : V} (e : xs[i]? = some x) : ∃ r p dx, rs[i]? = some r ∧ x = .ref p ∧ H p = some (.ins C dx (rf r.1 r.2)) := by
  have hi := (List.getElem?_eq_some_iff.mp e).1
  have hi2 : i < rs.length := by rw [← h.1]; exact hi
  obtain ⟨p, dx, e2, k⟩ := h.2 i x _ e (List.getElem?_eq_getElem hi2)
  exact ⟨_, p, dx, List.getElem?_eq_getElem hi2, e2, k⟩
theorem RatsAt.nil {C : Addr} {H : Hp} : RatsAt C H [] [] := ⟨rfl, fun i x r h _ => by simp at h⟩
theorem RatsAt.snoc {C : Addr} {H : Hp} {xs : List V} {rs : List (Int × Int)} (h : RatsAt C H xs rs) {p dx : Addr} {n d : Int} (e : H p = some (.ins C dx (rf n d))) : RatsAt C H (xs ++ [.ref p]) (rs ++ [(n, d)]) := by
  refine ⟨by simp [h.1], fun i x r a b => ?_⟩
  rcases Nat.lt_or_ge i xs.length with q | q
  · rw [List.getElem?_append_left q] at a
    rw [List.getElem?_append_left (by rw [← h.1]; exact q)] at b
    exact h.2 i x r a b
  · rw [List.getElem?_append_right q] at a
    rw [List.getElem?_append_right (by rw [← h.1]; exact q), ← h.1] at b
    rcases Nat.eq_zero_or_pos (i - xs.length) with z | z
    · rw [z] at a b
      cases a
      cases b
      exact ⟨p, dx, rfl, e⟩
    · rw [List.getElem?_eq_none (by simp; omega)] at a
      cases a
/-- a comprehension's list, by what was made at each place -/
theorem rats_of {C : Addr} {H : Hp} {ys : List V} {rs : List (Int × Int)} (hl : ys.length = rs.length) (h : ∀ (k : Nat) y, ys[k]? = some y → ∃ r p dx, rs[k]? = some r ∧ y = .ref p ∧ H p = some (.ins C dx (rf r.1 r.2))) : RatsAt C H ys rs :=
  ⟨hl, fun i x r a b => by
    obtain ⟨r', p, dx, e1, e2, e3⟩ := h i x a
    rw [b] at e1
    cases e1
    exact ⟨p, dx, e2, e3⟩⟩
/-- the denominator of the common form -/
def cden (rs : List (Int × Int)) : Nat := rs.foldl (fun m r => Nat.lcm m r.2.natAbs) 1
theorem cden_snoc (rs : List (Int × Int)) (r : Int × Int) : cden (rs ++ [r]) = Nat.lcm (cden rs) r.2.natAbs := by
  unfold cden
  rw [List.foldl_append]
  rfl
theorem cden_take {rs : List (Int × Int)} {i : Nat} {r : Int × Int} (h : rs[i]? = some r) : cden (rs.take (i + 1)) = Nat.lcm (cden (rs.take i)) r.2.natAbs := by
  rw [List.take_add_one, h, show (some r).toList = [r] from rfl, cden_snoc]
theorem lfold_pos : ∀ (rs : List (Int × Int)) (m : Nat), 0 < m → (∀ r ∈ rs, 0 < r.2) → 0 < rs.foldl (fun m r => Nat.lcm m r.2.natAbs) m
  | [], m, h, _ => h
  | r :: t, m, h, hr => by
    rw [List.foldl_cons]
    refine lfold_pos t _ (Nat.lcm_pos h ?_) fun z hz => hr z (List.mem_cons_of_mem _ hz)
    have := hr r List.mem_cons_self
    omega
theorem cden_pos {rs : List (Int × Int)} (h : ∀ r ∈ rs, 0 < r.2) : 0 < cden rs := lfold_pos rs 1 (by decide) h
theorem lfold_dvd : ∀ (rs : List (Int × Int)) (m : Nat), m ∣ rs.foldl (fun m r => Nat.lcm m r.2.natAbs) m ∧ ∀ r ∈ rs, r.2.natAbs ∣ rs.foldl (fun m r => Nat.lcm m r.2.natAbs) m
  | [], m => ⟨Nat.dvd_refl _, fun r h => nomatch h⟩
  | s :: t, m => by
    rw [List.foldl_cons]
    obtain ⟨h1, h2⟩ := lfold_dvd t (Nat.lcm m s.2.natAbs)
    refine ⟨Nat.dvd_trans (Nat.dvd_lcm_left _ _) h1, fun r hr => ?_⟩
    rcases List.mem_cons.mp hr with rfl | hr
    · exact Nat.dvd_trans (Nat.dvd_lcm_right _ _) h1
    · exact h2 r hr
theorem cden_dvd {rs : List (Int × Int)} {r : Int × Int} (h : r ∈ rs) : r.2.natAbs ∣ cden rs := (lfold_dvd rs 1).2 r h
theorem lfold_least : ∀ (rs : List (Int × Int)) (m k : Nat), m ∣ k → (∀ r ∈ rs, r.2.natAbs ∣ k) → rs.foldl (fun m r => Nat.lcm m r.2.natAbs) m ∣ k
  | [], m, k, h, _ => h
  | s :: t, m, k, h, hr => by
    rw [List.foldl_cons]
    exact lfold_least t _ k (Nat.lcm_dvd h (hr s List.mem_cons_self)) fun z hz => hr z (List.mem_cons_of_mem _ hz)
theorem cden_least {rs : List (Int × Int)} {k : Nat} (h : ∀ r ∈ rs, r.2.natAbs ∣ k) : cden rs ∣ k := lfold_least rs 1 k (Nat.one_dvd _) h
theorem lfold_lt : ∀ (rs : List (Int × Int)) (m e : Nat), m < 2 ^ e → (∀ r ∈ rs, r.2.natAbs < 2 ^ 100) → rs.foldl (fun m r => Nat.lcm m r.2.natAbs) m < 2 ^ (e + 100 * rs.length)
  | [], m, e, h, _ => h
  | s :: t, m, e, h, hr => by
    rw [List.foldl_cons]
    have h1 : Nat.lcm m s.2.natAbs ≤ m * s.2.natAbs := Nat.div_le_self _ _
    have h2 : m * s.2.natAbs < 2 ^ e * 2 ^ 100 := Nat.mul_lt_mul'' h (hr s List.mem_cons_self)
    rw [← Nat.pow_add] at h2
    have := lfold_lt t (Nat.lcm m s.2.natAbs) (e + 100) (Nat.lt_of_le_of_lt h1 h2) fun z hz => hr z (List.mem_cons_of_mem _ hz)
    rw [List.length_cons, show e + 100 * (t.length + 1) = e + 100 + 100 * t.length by omega]
    exact this
theorem cden_lt {rs : List (Int × Int)} (h : ∀ r ∈ rs, r.2.natAbs < 2 ^ 100) (hl : rs.length ≤ 60) : cden rs < 2 ^ 9000 :=
  Nat.lt_of_lt_of_le (lfold_lt rs 1 1 (by decide) h) (Nat.pow_le_pow_right (by decide) (by omega))
/-- the numbers of the common form -/
def cnum (rs : List (Int × Int)) : List Int := rs.map fun r => r.1 * ((cden rs : Int) / r.2)
section
variable {K : PySem.W.Frag} {σ : L2.St} {H : Hp} {R : L2.St → Hp → Prop} {t : TG} {u : TGs}
theorem go_gtup {n : Nat} {a : Addr} {xs : List V} (h : SqT K H a xs) (hl : xs.length = n) (q : u xs σ H R) : gTup K n u (.ref a) σ H R := ⟨a, xs, rfl, h, hl, q⟩
theorem go_gcons {v : V} {r : List V} (h : t v σ H fun σ' H' => u r σ' H' R) : gCons t u (v :: r) σ H R := ⟨v, r, rfl, h⟩
theorem go_gnil (h : R σ H) : gNil [] σ H R := ⟨rfl, h⟩
end
/-! ### comprehensions that make objects -/
/-- what is told of an item stays as the heap grows, and as a list is written -/
structure Stays (P : Hp → Nat → V → Prop) : Prop where
  same : ∀ H H' k y, Same H H' → P H k y → P H' k y
  lst : ∀ H D zs zs' k y, H D = some (.lst zs) → P H k y → P (upd H D (.lst zs')) k y
theorem stays_rat {C : Addr} {rs : List (Int × Int)} : Stays fun H k y => ∃ r p dx, rs[k]? = some r ∧ y = .ref p ∧ H p = some (.ins C dx (rf r.1 r.2)) :=
  ⟨fun H H' k y s ⟨r, p, dx, a, b, c⟩ => ⟨r, p, dx, a, b, s _ _ c⟩, fun H D zs zs' k y e ⟨r, p, dx, a, b, c⟩ => ⟨r, p, dx, a, b, by rw [upd_ne (ne_of c e (by intro z; cases z))]; exact c⟩⟩
section
variable {K : PySem.W.Frag} {σ : L2.St} {H H1 : Hp} {Q : VK} {tl te : TE} {vs : List Nat} {j : Nat}
theorem lcLh {R : Addr → Hp → Prop} {a : Addr} (xs : List V) {P : Hp → Nat → V → Prop} (hP : Stays P) (hs : SqL K H1 a xs) (hz : xs.length ≤ 100000) (hw : ∀ x, wipe ((wipe σ vs).set j x) vs = wipe σ vs)
    (he : ∀ (i : Nat) x H', xs[i]? = some x → Same H1 H' → ∀ R : VK, (∀ y H'', Same H' H'' → P H'' i y → R y H'') → te ((wipe σ vs).set j (some x)) H' R)
    (q : ∀ D (ys : List V) H2, H1 D = none → Same H1 H2 → H2 D = some (.lst ys) → ys.length = xs.length → (∀ k y, ys[k]? = some y → P H2 k y) → R D H2) :
    ∃ b, V.ref a = .ref b ∧ (∃ xs, SqL K H1 b xs) ∧ ∀ D, H1 D = none → ∃ W : Nat → Nat → Hp → Prop, (∃ m, W 0 m (upd H1 D (.lst []))) ∧ ∀ i m H, W i m H →
      ((Itl K b).stop i H ∧ R D H) ∨ ((Itl K b).go i H ∧ ∃ Nx : Hp → Prop, (∀ H', Nx H' → ∃ m', m' < m ∧ W (i + 1) m' H') ∧ ∀ x H', (Itl K b).yld i H x H' → gName j x (wipe σ vs) H' fun σ2 H2 => wipe σ2 vs = wipe σ vs ∧ tYes σ2 H2 fun b H3 =>
        if b = true then te σ2 H3 fun y H4 => ∃ acc, H4 D = some (.lst acc) ∧ acc.length < sizeLine ∧ Nx (upd H4 D (.lst (acc ++ [y]))) else Nx H3) := by
  refine ⟨a, rfl, ⟨xs, hs⟩, fun D hD => ?_⟩
  refine lc_list (xs := xs) (fun i H' => Same H1 H' ∧ ∃ ys : List V, H' D = some (.lst ys) ∧ ys.length = i ∧ ∀ k y, ys[k]? = some y → P H' k y) ⟨same_new hD, [], upd_same, rfl, fun k y h => by simp at h⟩ (fun i H _ p => same_sqL p.1 hs) (fun i x H hx p => ?_) fun H p => ?_
  · obtain ⟨s, ys, e, hl, hp⟩ := p
    refine ⟨hw _, ?_⟩
    refine go_yes ?_
    refine iteT ?_
    refine he i x H hx s _ fun y H4 s4 hy => ?_
    have hi := (List.getElem?_eq_some_iff.mp hx).1
    have e4 := s4 _ _ e
    refine ⟨ys, e4, szlt (by omega), same_mut (s.trans s4) hD, ys ++ [y], upd_same, by simp [hl], fun k z hz => ?_⟩
    refine hP.lst _ _ ys _ _ _ e4 ?_
    rcases Nat.lt_or_ge k ys.length with h | h
    · rw [List.getElem?_append_left h] at hz
      exact hP.same _ _ _ _ s4 (hp k z hz)
    · rw [List.getElem?_append_right h] at hz
      rcases Nat.eq_or_lt_of_le h with e2 | e2
      · rw [← e2, Nat.sub_self] at hz
        cases hz
        rw [← e2, hl]
        exact hy
      · rw [List.getElem?_eq_none (by simp; omega)] at hz
        cases hz
  · obtain ⟨s, ys, e, hl, hp⟩ := p
    exact q D ys H hD s e hl hp
end
/-! ### lists of pairs -/
def PairsAt (H : Hp) (xs : List V) (ts : List (Int × Int)) : Prop := xs.length = ts.length ∧ ∀ (i : Nat) x t, xs[i]? = some x → ts[i]? = some t → ∃ p, x = .ref p ∧ H p = some (.tup [.int t.1, .int t.2])
theorem PairsAt.nil {H : Hp} : PairsAt H [] [] := ⟨rfl, fun i x r h _ => by simp at h⟩
theorem PairsAt.same {H H' : Hp} {xs : List V} {ts : List (Int × Int)} (h : PairsAt H xs ts) (s : Same H H') : PairsAt H' xs ts :=
  ⟨h.1, fun i x r a b => let ⟨p, e, k⟩ := h.2 i x r a b; ⟨p, e, s _ _ k⟩⟩
theorem PairsAt.get {H : Hp} {xs : List V} {ts : List (Int × Int)} (h : PairsAt H xs ts) {i : Nat} {t : Int × Int} (e : ts[i]? = some t) : ∃ p, xs[i]? = some (.ref p) ∧ H p = some (.tup [.int t.1, .int t.2]) := by
  have hi := (List.getElem?_eq_some_iff.mp e).1
  have hi2 : i < xs.length := by rw [h.1]; exact hi
  obtain ⟨p, e2, k⟩ := h.2 i _ t (List.getElem?_eq_getElem hi2) e
  exact ⟨p, by rw [List.getElem?_eq_getElem hi2, e2], k⟩
/-- a list is written: the pairs stand -/
theorem PairsAt.lst {H : Hp} {xs : List V} {ts : List (Int × Int)} {D : Addr} {zs zs' : List V} (h : PairsAt H xs ts) (e : H D = some (.lst zs)) : PairsAt (upd H D (.lst zs')) xs ts :=
  ⟨h.1, fun i x r a b => let ⟨p, e1, k⟩ := h.2 i x r a b; ⟨p, e1, by rw [upd_ne (ne_of k e (by intro z; cases z))]; exact k⟩⟩
theorem PairsAt.snoc {H : Hp} {xs : List V} {ts : List (Int × Int)} (h : PairsAt H xs ts) {p : Addr} {n d : Int} (e : H p = some (.tup [.int n, .int d])) : PairsAt H (xs ++ [.ref p]) (ts ++ [(n, d)]) := by
  refine ⟨by simp [h.1], fun i x r a b => ?_⟩
  rcases Nat.lt_or_ge i xs.length with q | q
  · rw [List.getElem?_append_left q] at a
    rw [List.getElem?_append_left (by rw [← h.1]; exact q)] at b
    exact h.2 i x r a b
  · rw [List.getElem?_append_right q] at a
    rw [List.getElem?_append_right (by rw [← h.1]; exact q), ← h.1] at b
    rcases Nat.eq_zero_or_pos (i - xs.length) with z | z
    · rw [z] at a b
      cases a
      cases b
      exact ⟨p, rfl, e⟩
    · rw [List.getElem?_eq_none (by simp; omega)] at a
      cases a
/-! ### the common form is the least -/
theorem form_coprime {rs : List (Int × Int)} (hpos : ∀ r ∈ rs, 0 < r.2) (hco : ∀ r ∈ rs, Int.gcd r.1 r.2 = 1) {g : Nat} (h1 : g ∣ cden rs) (h2 : ∀ n ∈ cnum rs, (g : Int) ∣ n) : g = 1 := by
  have hL := cden_pos hpos
  obtain ⟨m, hm⟩ := h1
  have hg : 0 < g := by
    rcases Nat.eq_zero_or_pos g with z | z
    · rw [z, Nat.zero_mul] at hm
      omega
    · exact z
  have hmp : 0 < m := by
    rcases Nat.eq_zero_or_pos m with z | z
    · rw [z, Nat.mul_zero] at hm
      omega
    · exact z
  have key : cden rs ∣ m := cden_least fun r hr => by
    have hd := cden_dvd hr
    have d0 := hpos r hr
    have co := hco r hr
    have hn : (g : Int) ∣ r.1 * ((cden rs : Int) / r.2) := h2 _ (List.mem_map_of_mem hr)
    obtain ⟨k, hk⟩ := hd
    have hrd : r.2 = (r.2.natAbs : Int) := by omega
    have hq : (cden rs : Int) / r.2 = (k : Int) := by
      rw [hk, hrd]
      push_cast
      rw [Int.natAbs_natCast]
      exact Int.mul_ediv_cancel_left _ (by omega)
    rw [hq] at hn
    have hn2 : g ∣ r.1.natAbs * k := by
      have := Int.natAbs_dvd_natAbs.mpr hn
      rw [Int.natAbs_natCast, Int.natAbs_mul, Int.natAbs_natCast] at this
      exact this
    have hn3 : g ∣ r.2.natAbs * k := by rw [← hk]; exact ⟨m, hm⟩
    have hgk : g ∣ k := by
      have := Nat.dvd_gcd hn2 hn3
      rw [Nat.gcd_mul_right] at this
      have e : Nat.gcd r.1.natAbs r.2.natAbs = 1 := co
      rw [e, Nat.one_mul] at this
      exact this
    obtain ⟨j, hj⟩ := hgk
    refine ⟨j, ?_⟩
    have : g * m = g * (r.2.natAbs * j) := by rw [← hm, hk, hj]; ac_rfl
    exact Nat.eq_of_mul_eq_mul_left hg this
  have := Nat.le_of_dvd hmp key
  rw [hm] at this
  rcases Nat.lt_or_ge 1 g with z | z
  · exfalso
    have : 2 * m ≤ g * m := Nat.mul_le_mul_right _ z
    omega
  · omega
theorem cnum_len (rs : List (Int × Int)) : (cnum rs).length = rs.length := by unfold cnum; rw [List.length_map]
theorem cnum_at {rs : List (Int × Int)} {i : Nat} {r : Int × Int} (h : rs[i]? = some r) : (cnum rs)[i]? = some (r.1 * ((cden rs : Int) / r.2)) := by
  unfold cnum
  rw [List.getElem?_map, h]
  rfl
theorem cnum_mul {rs : List (Int × Int)} {r : Int × Int} (h : r ∈ rs) : r.1 * ((cden rs : Int) / r.2) * r.2 = r.1 * (cden rs : Int) := by
  have : r.2 ∣ (cden rs : Int) := Int.natAbs_dvd_natAbs.mp (by rw [Int.natAbs_natCast]; exact cden_dvd h)
  rw [Int.mul_assoc, Int.ediv_mul_cancel this]
end Gx

set_option Elab.async false
set_option linter.all false
set_option maxRecDepth 100000
set_option maxHeartbeats 4000000
/-! Own lemmas: data at any depth (Dp), tuples joined and cut, a range with a step, a list turned round. -/
namespace Gx
open PySem PySem.Spec PyProof.Rows L2
section
variable {K : PySem.W.Frag} {H H' : Hp}
mutual
theorem dp_same (s : Same H H') : ∀ (d : PyData) (v : V), Dp K H v d → Dp K H' v d
  | .none, _, h => by cases h; exact .non
  | .bool b, _, h => by cases h; exact .bl b
  | .int i, _, h => by cases h; exact .int i
  | .str x, _, h => by cases h; exact .str x
  | .list ds, _, h => by
    cases h with
    | lst hs ha => exact .lst (Same.seq s hs) (dpAll_same s ds _ ha)
  | .tuple ds, _, h => by
    cases h with
    | tup hs ha => exact .tup (same_sqT s hs) (dpAll_same s ds _ ha)
  | .dict _, _, h => by cases h
theorem dpAll_same (s : Same H H') : ∀ (ds : List PyData) (vs : List V), DpAll K H vs ds → DpAll K H' vs ds
  | [], _, h => by cases h; exact .nil
  | d :: ds, _, h => by
    cases h with
    | cons h1 h2 => exact .cons (dp_same s d _ h1) (dpAll_same s ds _ h2)
end
theorem dpAll_len : ∀ {ds : List PyData} {vs : List V}, DpAll K H vs ds → vs.length = ds.length
  | [], _, h => by cases h; rfl
  | d :: ds, _, h => by
    cases h with
    | cons h1 h2 => simp [dpAll_len h2]
theorem dpAll_get : ∀ {ds : List PyData} {vs : List V} {i : Nat} {d : PyData}, DpAll K H vs ds → ds[i]? = some d → ∃ v, vs[i]? = some v ∧ Dp K H v d
  | [], _, i, d, _, e => by simp at e
  | d :: ds, _, 0, d', h, e => by
    cases h with
    | cons h1 h2 =>
      simp at e
      subst e
      exact ⟨_, rfl, h1⟩
  | d :: ds, _, i + 1, d', h, e => by
    cases h with
    | cons h1 h2 =>
      simp at e
      obtain ⟨v, e2, h3⟩ := dpAll_get h2 e
      exact ⟨v, by simpa using e2, h3⟩
theorem dpAll_last {K : PySem.W.Frag} {H : Hp} {ds : List PyData} {vs : List V} {v : V} (h : DpAll K H vs ds) (e : vs.getLast? = some v) : ∃ d, ds.getLast? = some d ∧ Dp K H v d := by
  have hl := dpAll_len h
  rw [List.getLast?_eq_getElem?] at e
  have hlt := (List.getElem?_eq_some_iff.mp e).1
  obtain ⟨d, ed⟩ : ∃ d, ds[ds.length - 1]? = some d := ⟨_, List.getElem?_eq_getElem (by omega)⟩
  obtain ⟨v2, e2, h2⟩ := dpAll_get h ed
  rw [← hl, e] at e2
  cases e2
  exact ⟨d, by rw [List.getLast?_eq_getElem?]; exact ed, h2⟩
theorem dpAll_append : ∀ {ds es : List PyData} {vs us : List V}, DpAll K H vs ds → DpAll K H us es → DpAll K H (vs ++ us) (ds ++ es)
  | [], es, _, us, h, k => by cases h; exact k
  | d :: ds, es, _, us, h, k => by
    cases h with
    | cons h1 h2 => exact .cons h1 (dpAll_append h2 k)
theorem dpAll_take : ∀ {ds : List PyData} {vs : List V} (n : Nat), DpAll K H vs ds → DpAll K H (vs.take n) (ds.take n)
  | [], _, n, h => by cases h; simp; exact .nil
  | d :: ds, _, 0, h => by simp; exact .nil
  | d :: ds, _, n + 1, h => by
    cases h with
    | cons h1 h2 => exact .cons h1 (dpAll_take n h2)
theorem dpAll_reverse : ∀ {ds : List PyData} {vs : List V}, DpAll K H vs ds → DpAll K H vs.reverse ds.reverse
  | [], _, h => by cases h; exact .nil
  | d :: ds, _, h => by
    cases h with
    | cons h1 h2 =>
      rw [List.reverse_cons, List.reverse_cons]
      exact dpAll_append (dpAll_reverse h2) (.cons h1 .nil)
/-! data without lists: they outlast what is stored into a list -/
mutual
def noL : PyData → Bool
  | .list _ => false
  | .dict _ => false
  | .tuple xs => noLAll xs
  | _ => true
def noLAll : List PyData → Bool
  | [] => true
  | d :: ds => noL d && noLAll ds
end
theorem sqT_put {l a : Addr} {ys zs xs : List V} (hl : H l = some (.lst ys)) (h : SqT K H a xs) : SqT K (upd H l (.lst zs)) a xs := by
  have ne : ∀ {o : HO}, H a = some o → o ≠ .lst ys → a ≠ l := fun e n z => by
    rw [z, hl] at e
    exact n (Option.some.inj e).symm
  rcases h with (h | ⟨o, h⟩) | h
  · exact .inl (.inl (by rw [upd_ne (ne h (fun z => by cases z))]; exact h))
  · exact .inl (.inr ⟨o, by rw [upd_ne (ne h (fun z => by cases z))]; exact h⟩)
  · exact .inr h
mutual
theorem dp_put {l : Addr} {ys zs : List V} (hl : H l = some (.lst ys)) : ∀ (d : PyData) (v : V), noL d = true → Dp K H v d → Dp K (upd H l (.lst zs)) v d
  | .none, _, _, h => by cases h; exact .non
  | .bool b, _, _, h => by cases h; exact .bl b
  | .int i, _, _, h => by cases h; exact .int i
  | .str x, _, _, h => by cases h; exact .str x
  | .list ds, _, n, _ => by simp [noL] at n
  | .tuple ds, _, n, h => by
    cases h with
    | tup hs ha => exact .tup (sqT_put hl hs) (dpAll_put hl ds _ (by simpa [noL] using n) ha)
  | .dict _, _, n, _ => by simp [noL] at n
theorem dpAll_put {l : Addr} {ys zs : List V} (hl : H l = some (.lst ys)) : ∀ (ds : List PyData) (vs : List V), noLAll ds = true → DpAll K H vs ds → DpAll K (upd H l (.lst zs)) vs ds
  | [], _, _, h => by cases h; exact .nil
  | d :: ds, _, n, h => by
    have n' : noL d = true ∧ noLAll ds = true := by simpa [noLAll] using n
    cases h with
    | cons h1 h2 => exact .cons (dp_put hl d _ n'.1 h1) (dpAll_put hl ds _ n'.2 h2)
end
theorem noL_all : ∀ {ds : List PyData}, (∀ d ∈ ds, noL d = true) → noLAll ds = true
  | [], _ => rfl
  | d :: ds, h => by
    show (noL d && noLAll ds) = true
    rw [h d (List.mem_cons_self ..), noL_all fun x hx => h x (List.mem_cons_of_mem _ hx)]
    rfl
theorem dp_tup {v : V} {ds : List PyData} (h : Dp K H v (.tuple ds)) : ∃ a xs, v = .ref a ∧ SqT K H a xs ∧ DpAll K H xs ds := by
  cases h with
  | tup hs ha => exact ⟨_, _, rfl, hs, ha⟩
variable {Q : VK} {R : L2.St → Hp → Prop}
theorem go_catA {a b : Addr} {xs ys : List V} (h1 : SqT K H a xs) (h2 : SqT K H b ys) (hz : xs.length + ys.length ≤ 100000) (hy : ys ≠ [])
    (q : ∀ p H', Same H H' → SqT K H' p (xs ++ ys) → Q (.ref p) H') : rCatA K (.ref a) (.ref b) H Q := by
  refine ⟨a, b, xs, ys, rfl, rfl, h1, h2, Nat.le_trans hz (by rw [sizeLine_eq]; decide), fun e => ?_, fun _ e => absurd e hy, fun _ _ p hp => ?_⟩
  · subst e
    exact q b H (Same.refl _) h2
  · exact q p _ (fun c o hc => by rw [upd_ne (ne_of_none hc hp)]; exact hc) (.inl (.inl upd_same))
theorem go_slTo {a : Addr} {xs : List V} {k : Nat} (h : SqT K H a xs) (hk : k ≤ xs.length) (q : ∀ p H', Same H H' → SqT K H' p (xs.take k) → Q (.ref p) H') : rSlA K (.ref a) none (some (k : Int)) H Q := by
  refine ⟨a, xs, rfl, h, fun e => ?_, fun _ p hp => ?_⟩
  · have e2 := e.2
    rw [HT.sIx_nat] at e2
    have : xs.take k = xs := List.take_of_length_le (by omega)
    exact q a H (Same.refl _) (by rw [this]; exact h)
  · have e : cutV xs none (some (k : Int)) = xs.take k := by
      unfold cutV
      rw [HT.sIx_none, HT.sIx_nat]
      simp
    exact q p _ (fun c o hc => by rw [upd_ne (ne_of_none hc hp)]; exact hc) (.inl (.inl (by rw [upd_same, e])))
theorem go_eqD {x y : V} {d : PyData} (h1 : Dp K H x d) (h2 : Dp K H y d) (hs : SeqAt.shaped d = true) (q : Q (.bl true) H) : rEqD K x y H Q :=
  ⟨d, d, h1, h2, hs, hs, by rw [SeqAt.eqv_refl d (SeqAt.canLay_of_shaped hs)]; exact q⟩
theorem go_neD {x y : V} {d : PyData} (h1 : Dp K H x d) (h2 : Dp K H y d) (hs : SeqAt.shaped d = true) (q : Q (.bl false) H) : rNeD K x y H Q :=
  ⟨d, d, h1, h2, hs, hs, by rw [SeqAt.eqv_refl d (SeqAt.canLay_of_shaped hs)]; exact q⟩
theorem at_0 {x : V} {l : List V} : atI (x :: l) 0 = some x := at_nat (xs := x :: l) (i := 0) rfl
theorem at_1 {x y : V} {l : List V} : atI (x :: y :: l) 1 = some y := at_nat (xs := x :: y :: l) (i := 1) rfl
theorem at_2 {x y z : V} {l : List V} : atI (x :: y :: z :: l) 2 = some z := at_nat (xs := x :: y :: z :: l) (i := 2) rfl
theorem at_last {xs : List V} (h : xs ≠ []) : atI xs (-1) = xs.getLast? := by
  have hl : 0 < xs.length := List.length_pos_iff.mpr h
  have e : ixN xs.length (-1) = some (xs.length - 1) := by
    unfold ixN
    rw [if_neg (by decide), if_pos (by omega)]
    congr 1
    omega
  unfold atI
  rw [e, Option.bind_some, List.getLast?_eq_getElem?]
theorem go_iRng3 {σ : L2.St} {ta : TA} {R : It → Hp → Prop} (h : ta σ H fun vs H1 => ∃ (i j c : Int) (n : Nat), vs = [.int i, .int j, .int c] ∧ RgC i j c n ∧ R (Itc i c n) H1) : iRng3 ta σ H R := h
/-- for i in range(n - 1, -1, -1) -/
theorem foRdn {σ : L2.St} {D : Ends} {g : TG} {tb : TS} {n : Nat} (Pv : Nat → L2.St → Hp → Prop) (hn : n ≤ 1000000) (h0 : Pv 0 σ H)
    (hs : ∀ (i : Nat) σ H, i < n → Pv i σ H → g (.int ((n - 1 - i : Nat) : Int)) σ H fun σ2 H2 => tb { D with nx := Pv (i + 1), ct := Pv (i + 1), bk := D.nx } σ2 H2) (hd : ∀ σ H, Pv n σ H → D.nx σ H) :
    ∃ (i j c : Int) (k : Nat), [V.int ((n : Int) - 1), .int (-1), .int (-1)] = [.int i, .int j, .int c] ∧ RgC i j c k ∧ ∃ W : Nat → Nat → L2.St → Hp → Prop, (∃ m, W 0 m σ H) ∧ ∀ i' m σ H, W i' m σ H →
      ((Itc i c k).stop i' H ∧ D.nx σ H) ∨ ((Itc i c k).go i' H ∧ ∃ N : L2.St → Hp → Prop, (∀ σ' H', N σ' H' → ∃ m', m' < m ∧ W (i' + 1) m' σ' H') ∧ ∀ x H', (Itc i c k).yld i' H x H' → g x σ H' fun σ2 H2 => tb { D with nx := N, ct := N, bk := D.nx } σ2 H2) := by
  have r := RgC.neg (i := (n : Int) - 1) (j := -1) (by omega) (by omega) (by omega) (by omega)
  have e : ((n : Int) - 1 - -1).toNat = n := by omega
  rw [e] at r
  refine ⟨_, _, _, n, rfl, r, for_rangeC Pv h0 (fun i σ H hi p => ?_) hd⟩
  have e2 : (n : Int) - 1 + (i : Nat) * (-1) = ((n - 1 - i : Nat) : Int) := by omega
  rw [e2]
  exact hs i σ H hi p
/-- t + ((..),): a view with one more item -/
theorem add_dp {vw p p2 : Addr} {xs : List V} {ds es : List PyData} (hv : Dp K H (.ref vw) (.tuple ds)) (hp : H p = none) (hp2 : upd H p (.tup xs) p2 = none) (hx : ∀ H', DpAll K H' xs es) (hl : ds.length ≤ 1000)
    (q : ∀ p3 H3, Same H H3 → Dp K H3 (.ref p3) (.tuple (ds ++ [.tuple es])) → Q (.ref p3) H3) : rCatA K (.ref vw) (.ref p2) (upd (upd H p (.tup xs)) p2 (.tup [.ref p])) Q := by
  obtain ⟨a, ys, e, h1, h2⟩ := dp_tup hv
  cases e
  have s1 : Same H (upd (upd H p (.tup xs)) p2 (.tup [.ref p])) := fun c o hc => by
    have h3 : upd H p (.tup xs) c = some o := by rw [upd_ne (ne_of_none hc hp)]; exact hc
    rw [upd_ne (ne_of_none h3 hp2)]
    exact h3
  have hpp : upd (upd H p (.tup xs)) p2 (.tup [.ref p]) p = some (.tup xs) := by
    have h3 : upd H p (.tup xs) p = some (.tup xs) := upd_same
    rw [upd_ne (ne_of_none h3 hp2)]
    exact h3
  have hlen := dpAll_len h2
  refine go_catA (same_sqT s1 h1) (.inl (.inl upd_same)) (by simp; omega) (by simp) fun p3 H3 s3 e3 => ?_
  refine q p3 H3 (s1.trans s3) (.tup e3 (dpAll_append (dpAll_same (s1.trans s3) _ _ h2) (.cons (.tup (.inl (.inl (s3 _ _ hpp))) (hx H3)) .nil)))
theorem go_revL {te : TE} {σ : L2.St} (h : te σ H fun x H1 => ∃ a xs, x = .ref a ∧ SqL K H1 a xs ∧ ∀ p, H1 p = none → Q (.ref p) (upd H1 p (.lst xs.reverse))) : tRevL K te σ H Q := h
end
end Gx

set_option Elab.async false
set_option linter.all false
set_option maxRecDepth 100000
set_option maxHeartbeats 4000000
/-! Own lemmas: dicts whose keys are plain data (tuples of tuples of ints and texts): in, store of a new key, look-up. -/
namespace Gx
open PySem PySem.Spec PyProof.Rows L2
mutual
def plainK : PyData → Bool
  | .int _ => true
  | .str _ => true
  | .tuple ds => plainKs ds
  | _ => false
def plainKs : List PyData → Bool
  | [] => true
  | d :: r => plainK d && plainKs r
end
mutual
def keyD : PyData → NestedKey
  | .int i => .num i
  | .str x => .text x
  | .tuple ds => .tup (keyDs ds)
  | _ => .none
def keyDs : List PyData → List NestedKey
  | [] => []
  | d :: r => keyD d :: keyDs r
end
mutual
theorem keyD_inj : ∀ a b : PyData, plainK a = true → plainK b = true → keyD a = keyD b → a = b
  | .int i, .int j, _, _, h => by
    have : i = j := by simpa [keyD] using h
    rw [this]
  | .str i, .str j, _, _, h => by
    have : i = j := by simpa [keyD] using h
    rw [this]
  | .tuple ds, .tuple es, h1, h2, h => by
    rw [keyDs_inj ds es (by simpa [plainK] using h1) (by simpa [plainK] using h2) (by simpa [keyD] using h)]
  | .int _, .str _, _, _, h => by simp [keyD] at h
  | .int _, .tuple _, _, _, h => by simp [keyD] at h
  | .str _, .int _, _, _, h => by simp [keyD] at h
  | .str _, .tuple _, _, _, h => by simp [keyD] at h
  | .tuple _, .int _, _, _, h => by simp [keyD] at h
  | .tuple _, .str _, _, _, h => by simp [keyD] at h
  | .none, _, h, _, _ => by simp [plainK] at h
  | .bool _, _, h, _, _ => by simp [plainK] at h
  | .list _, _, h, _, _ => by simp [plainK] at h
  | .dict _, _, h, _, _ => by simp [plainK] at h
  | _, .none, _, h, _ => by simp [plainK] at h
  | _, .bool _, _, h, _ => by simp [plainK] at h
  | _, .list _, _, h, _ => by simp [plainK] at h
  | _, .dict _, _, h, _ => by simp [plainK] at h
theorem keyDs_inj : ∀ a b : List PyData, plainKs a = true → plainKs b = true → keyDs a = keyDs b → a = b
  | [], [], _, _, _ => rfl
  | [], _ :: _, _, _, h => by simp [keyDs] at h
  | _ :: _, [], _, _, h => by simp [keyDs] at h
  | d :: r, e :: t, h1, h2, h => by
    have k1 : plainK d = true ∧ plainKs r = true := by simpa [plainKs] using h1
    have k2 : plainK e = true ∧ plainKs t = true := by simpa [plainKs] using h2
    have k : keyD d = keyD e ∧ keyDs r = keyDs t := by simpa [keyDs] using h
    rw [keyD_inj d e k1.1 k2.1 k.1, keyDs_inj r t k1.2 k2.2 k.2]
end
section
variable {X : Cx} {pins : List (Addr × Obj)} {σ : L2.St} {H : Hp} {s : Shared}
mutual
theorem dp_key (I : Inv X pins σ H s) : ∀ (d : PyData) (v : V) (u : Value), plainK d = true → Dp X.K H v d → RelV v u → NestedIs s.heap (keyD d) u
  | .int i, _, _, _, h, r => by
    cases h
    obtain ⟨t, rfl⟩ := r
    exact .int i t
  | .str x, _, _, _, h, r => by
    cases h
    obtain ⟨t, rfl⟩ := r
    exact .text x t
  | .tuple ds, _, _, p, h, r => by
    cases h with
    | tup hs ha =>
      cases r
      obtain ⟨its, rv, ⟨o, ho, hc, n, hd⟩, _⟩ := I.tuple hs
      exact .tup ho hc hd (dpAll_key I ds _ _ (by simpa [plainK] using p) ha (by simpa using rv))
  | .none, _, _, p, _, _ => by simp [plainK] at p
  | .bool _, _, _, p, _, _ => by simp [plainK] at p
  | .list _, _, _, p, _, _ => by simp [plainK] at p
  | .dict _, _, _, p, _, _ => by simp [plainK] at p
theorem dpAll_key (I : Inv X pins σ H s) : ∀ (ds : List PyData) (vs : List V) (us : List Value), plainKs ds = true → DpAll X.K H vs ds → Vals vs us → NestedAll s.heap (keyDs ds) us
  | [], _, _, _, h, r => by
    cases h
    cases r
    exact .nil
  | d :: ds, _, _, p, h, r => by
    have p2 : plainK d = true ∧ plainKs ds = true := by simpa [plainKs] using p
    cases h with
    | cons h1 h2 =>
      cases r with
      | cons r1 r2 => exact .cons (dp_key I d _ _ p2.1 h1 r1) (dpAll_key I ds _ _ p2.2 h2 r2)
end
end
/-- a key's data, its address, the value -/
abbrev NRow := PyData × Addr × V
def NRel (p : NRow) (q : NestedKey × Addr × Value) : Prop := keyD p.1 = q.1 ∧ p.2.1 = q.2.1 ∧ RelV p.2.2 q.2.2
/-- the dict's own object at d holds the rows xs -/
def NDo (P : Program) (w : World) (d : Addr) (xs : List NRow) (h : Heap) : Prop :=
  (d == sysModules) = false ∧ ∃ ys : List (NestedKey × Addr × Value), Paired NRel xs ys ∧ ∃ o es ep, h.get? d = some o ∧ o.ExactDict ∧ o.data = .dict es ep ∧ es.toList = ys.map (entryOfKey (nestedKind P w)) ∧ (ys.map (·.1)).Nodup
def ndO (P : Program) (w : World) (d : Addr) (xs : List NRow) : HO := .ext (NDo P w d xs)
theorem ndO_ok {P : Program} {w : World} {H : Hp} {h : Heap} {d : Addr} {xs : List NRow} (k : NDo P w d xs h) : ObjOk P w H h d (ndO P w d xs) := by
  refine ⟨k, ?_, fun h1 h2 k1 st => ?_⟩
  · obtain ⟨_, _, _, o, _, _, e, _⟩ := k
    exact ⟨o, e⟩
  · obtain ⟨nm, ys, r, o, es, ep, e, z⟩ := k1
    exact ⟨nm, ys, r, o, es, ep, st o e, z⟩
/-- the keys' tuples stand -/
def NKeys (K : PySem.W.Frag) (H : Hp) (xs : List NRow) : Prop := ∀ x ∈ xs, plainK x.1 = true ∧ (keyD x.1).depth ≤ 8 ∧ Dp K H (.ref x.2.1) x.1
def nAt (xs : List NRow) (k : NestedKey) : Option V := (xs.find? fun x => decide (keyD x.1 = k)).map (·.2.2)
theorem nrel_find {k : NestedKey} : ∀ {xs : List NRow} {ys : List (NestedKey × Addr × Value)}, Paired NRel xs ys → (nAt xs k = none ↔ atKey ys k = none) ∧ ∀ v, nAt xs k = some v → ∃ p, atKey ys k = some p ∧ RelV v p.2
  | _, _, .nil => ⟨⟨fun _ => rfl, fun _ => rfl⟩, fun _ h => nomatch h⟩
  | x :: xs, y :: ys, .cons r rs => by
    obtain ⟨h1, h2⟩ := nrel_find (k := k) rs
    by_cases e : keyD x.1 = k
    · have e2 : y.1 = k := r.1.symm.trans e
      have a1 : nAt (x :: xs) k = some x.2.2 := by simp [nAt, e]
      have a2 : atKey (y :: ys) k = some y.2 := by simp [atKey, e2]
      rw [a1, a2]
      refine ⟨⟨fun z => absurd z (by simp), fun z => absurd z (by simp)⟩, fun v z => ?_⟩
      cases z
      exact ⟨_, rfl, r.2.2⟩
    · have e2 : ¬ y.1 = k := fun z => e (r.1.trans z)
      have a1 : nAt (x :: xs) k = nAt xs k := by simp [nAt, e]
      have a2 : atKey (y :: ys) k = atKey ys k := by simp [atKey, e2]
      rw [a1, a2]
      exact ⟨h1, h2⟩
section
variable {X : Cx} {pins : List (Addr × Obj)} {σ : L2.St} {H : Hp} {s : Shared} {p : Addr} {xs : List NRow}
theorem Inv.nd1 (I : Inv X pins σ H s) (e : H p = some (ndO X.prog X.w p xs)) (hk : NKeys X.K H xs) : (p == sysModules) = false ∧ ∃ ys, Paired NRel xs ys ∧ s.heap.DictOfH (nestedKind X.prog X.w) p ys := by
  obtain ⟨⟨nm, ys, r, o, es, ep, e1, e2, e3, e4, e5⟩, _, _⟩ := I.hok p _ e
  refine ⟨nm, ys, r, o, es, ep, e1, e2, e3, e4, fun y hy => ?_, e5⟩
  have key : ∀ {xs : List NRow} {ys : List (NestedKey × Addr × Value)}, Paired NRel xs ys → NKeys X.K H xs → ∀ y ∈ ys, (nestedKind X.prog X.w).is s.heap y.1 y.2.1 := fun {xs ys} r => by
    induction r with
    | nil => exact fun _ _ h => nomatch h
    | cons r1 _ ih =>
      intro hk y hy
      rcases List.mem_cons.mp hy with rfl | hy
      · obtain ⟨k1, k2, k3⟩ := hk _ List.mem_cons_self
        rw [← r1.1, ← r1.2.1]
        exact ⟨dp_key I _ _ _ k1 k3 rfl, k2⟩
      · exact ih (fun x hx => hk x (List.mem_cons_of_mem _ hx)) y hy
  exact key r hk y hy
/-- the empty dict -/
theorem Inv.nd0 (I : Inv X pins σ H s) (e : H p = some (.dK [])) : (p == sysModules) = false ∧ s.heap.DictOfH (nestedKind X.prog X.w) p [] := by
  obtain ⟨_, nm, vs, r, o, es, ep, e1, e2, e3, _, e5, _⟩ := I.hok p _ e
  cases r
  have ez : es.toList = [] := by
    cases z : es.toList with
    | nil => rfl
    | cons a b =>
      rw [z] at e5
      cases e5
  exact ⟨nm, o, es, ep, e1, e2, e3, ez, (fun _ h => nomatch h), List.nodup_nil⟩
/-- such a dict, or the empty one that is not told apart yet -/
def NDst (P : Program) (w : World) (H : Hp) (p : Addr) (xs : List NRow) : Prop := H p = some (ndO P w p xs) ∨ (H p = some (.dK []) ∧ xs = [])
theorem Inv.nd (I : Inv X pins σ H s) (e : NDst X.prog X.w H p xs) (hk : NKeys X.K H xs) : (p == sysModules) = false ∧ ∃ ys, Paired NRel xs ys ∧ s.heap.DictOfH (nestedKind X.prog X.w) p ys := by
  rcases e with e | ⟨e, rfl⟩
  · exact Inv.nd1 I e hk
  · obtain ⟨nm, k⟩ := Inv.nd0 I e
    exact ⟨nm, [], .nil, k⟩
/-- key in dict -/
def rInN (P : Program) (w : World) (K : PySem.W.Frag) : R2 := fun x y H Q => ∃ a p d xs, x = .ref a ∧ y = .ref p ∧ NDst P w H p xs ∧ NKeys K H xs ∧ plainK d = true ∧ (keyD d).depth ≤ 8 ∧ Dp K H (.ref a) d ∧ Q (.bl (nAt xs (keyD d)).isSome) H
theorem op_inN (hu : X.A.units + 9 < cLine) : OpR X (compareOp .In) (rInN X.prog X.w X.K) := by
  intro pins s σ H x y v u Q I rx ry h
  obtain ⟨a, p, d, xs, rfl, rfl, e, hk, pd, dd, hd, q⟩ := h
  cases rx
  cases ry
  obtain ⟨nm, ys, r, hm⟩ := Inv.nd I e hk
  obtain ⟨f1, f2⟩ := nrel_find (k := keyD d) r
  have room : (nestedKind X.prog X.w).room X.A.in1 := by
    show X.A.units + 1 + 8 < cLine
    omega
  refine wpAny_in_heap (k := keyD d) room ⟨dp_key I _ _ _ pd hd rfl, dd⟩ nm hm ?_
  have same : (atKey ys (keyD d)).isSome = (nAt xs (keyD d)).isSome := by
    cases z : nAt xs (keyD d) with
    | none =>
      rw [f1.mp z]
      rfl
    | some v =>
      obtain ⟨p2, z2, _⟩ := f2 v z
      rw [z2]
      rfl
  rw [same]
  exact ⟨.bl _, H, I.tok _, rfl, q⟩
/-- d[k] = v, k not there yet -/
def rSetN (P : Program) (w : World) (K : PySem.W.Frag) : V → V → V → Hp → (Hp → Prop) → Prop := fun o i v H Q => ∃ p a d xs, o = .ref p ∧ i = .ref a ∧ NDst P w H p xs ∧ NKeys K H xs ∧ xs.length ≤ 100000 ∧
  plainK d = true ∧ (keyD d).depth ≤ 8 ∧ Dp K H (.ref a) d ∧ nAt xs (keyD d) = none ∧ Q (upd H p (ndO P w p (xs ++ [(d, a, v)])))
theorem set_nd (hu : X.A.units + 9 < cLine) : PSet X (rSetN X.prog X.w X.K) := by
  intro pins s σ H o i v ov iv u Q I ro ri rv h
  obtain ⟨p, a, d, xs, rfl, rfl, e, hk, hl, pd, dd, hd, hn, q⟩ := h
  cases ro
  cases ri
  obtain ⟨nm, ys, r, hm⟩ := Inv.nd I e hk
  have mu : Mut (H p) := by
    rcases e with e | ⟨e, _⟩
    · rw [e]; trivial
    · rw [e]; trivial
  obtain ⟨f1, _⟩ := nrel_find (k := keyD d) r
  have room : (nestedKind X.prog X.w).room X.A.in1 := by
    show X.A.units + 1 + 8 < cLine
    omega
  have hlen : ys.length ≤ sizeLine := by
    rw [← Paired.length r, sizeLine_eq]
    omega
  refine wpAny_setItem_heap (k := keyD d) room ⟨dp_key I _ _ _ pd hd rfl, dd⟩ hm (fun h' hm' sb => ?_) hlen
  rw [storedH_new (f1.mp hn)] at hm'
  obtain ⟨ob, es, ep, e1, e2, e3, e4, e5, e6⟩ := hm'
  refine ⟨_, I.write (x := p) (e := p) mu (.inl rfl) (fun b o ne k => (sb.2 b ne).trans k) ⟨ob, e1⟩ (ndO_ok ⟨nm, _, Paired.snoc r ⟨rfl, rfl, rv⟩, ob, es, ep, e1, e2, e3, e4, e6⟩), q⟩
end
section
variable {P : Program} {w : World} {K : PySem.W.Frag} {H H' : Hp} {Q : VK}
theorem NKeys.imp {xs : List NRow} (h : NKeys K H xs) (k : ∀ (d : PyData) (v : V), plainK d = true → Dp K H v d → Dp K H' v d) : NKeys K H' xs := fun x hx => let ⟨a, b, c⟩ := h x hx; ⟨a, b, k _ _ a c⟩
theorem go_inN {a p : Addr} {d : PyData} {xs : List NRow} (e : NDst P w H p xs) (hk : NKeys K H xs) (pd : plainK d = true) (dd : (keyD d).depth ≤ 8) (hd : Dp K H (.ref a) d) (q : Q (.bl (nAt xs (keyD d)).isSome) H) : rInN P w K (.ref a) (.ref p) H Q :=
  ⟨a, p, d, xs, rfl, rfl, e, hk, pd, dd, hd, q⟩
theorem go_setN {a p : Addr} {d : PyData} {v : V} {xs : List NRow} {R : Hp → Prop} (e : NDst P w H p xs) (hk : NKeys K H xs) (hl : xs.length ≤ 100000) (pd : plainK d = true) (dd : (keyD d).depth ≤ 8) (hd : Dp K H (.ref a) d) (hn : nAt xs (keyD d) = none)
    (q : R (upd H p (ndO P w p (xs ++ [(d, a, v)])))) : rSetN P w K (.ref p) (.ref a) v H R := ⟨p, a, d, xs, rfl, rfl, e, hk, hl, pd, dd, hd, hn, q⟩
end
/-! a walk over the items, the dict locked -/
def Itn (P : Program) (w : World) (d : Addr) (o : Obj) (xs : List NRow) : It where
  go i H := H d = some (.frz o (ndO P w d xs)) ∧ i < xs.length
  yld i H x H' := ∃ T r, xs[i]? = some r ∧ x = .ref T ∧ H T = none ∧ H' = upd H T (.tup [.ref r.2.1, r.2.2])
  stop i H := H d = some (.frz o (ndO P w d xs)) ∧ xs.length ≤ i
theorem nrel_at {P : Program} {w : World} : ∀ {xs : List NRow} {ys : List (NestedKey × Addr × Value)} {i : Nat} {r : NRow}, Paired NRel xs ys → xs[i]? = some r → ∃ y, ys[i]? = some y ∧ NRel r y
  | _, _, _, _, .nil, h => nomatch h
  | _, _, 0, _, .cons r1 _, h => by cases h; exact ⟨_, rfl, r1⟩
  | _, _, i + 1, _, .cons _ rs, h => nrel_at (P := P) (w := w) (i := i) rs (by simpa using h)
section
variable {X : Cx} {pins : List (Addr × Obj)} {σ : L2.St} {H : Hp} {s : Shared} {d : Addr} {o : Obj} {xs : List NRow}
theorem Inv.frzN (I : Inv X pins σ H s) (h : H d = some (.frz o (ndO X.prog X.w d xs))) : (d == sysModules) = false ∧ ∃ (es : Array DictEntry) (ep : Nat), o.data = .dict es ep ∧ es.size = xs.length ∧ s.heap.DictRaw d es ep ∧
    ∀ (i : Nat) r, xs[i]? = some r → ∃ hi : i < es.size, es[i].key = .ref r.2.1 ∧ RelV r.2.2 es[i].val := by
  obtain ⟨hd, ⟨nm, ys, r, o', es, ep, e1, e2, e3, e4, _⟩, _⟩ := I.hok d _ h
  rw [hd] at e1
  cases e1
  have l1 : es.size = ys.length := by
    have := congrArg List.length e4
    rw [Array.length_toList, List.length_map] at this
    exact this
  refine ⟨nm, es, ep, e3, by rw [l1, ← Paired.length r], ⟨o, hd, e2, e3⟩, fun i x hx => ?_⟩
  obtain ⟨y, hy, k1, k2, k3⟩ := nrel_at (P := X.prog) (w := X.w) r hx
  have hi : i < es.size := by
    rw [l1]
    exact (List.getElem?_eq_some_iff.mp hy).1
  have ent : es[i]? = some (entryOfKey (nestedKind X.prog X.w) y) := by
    rw [← Array.getElem?_toList, e4, List.getElem?_map, hy]
    rfl
  have ent2 : es[i] = entryOfKey (nestedKind X.prog X.w) y := by
    rw [Array.getElem?_eq_getElem hi] at ent
    exact Option.some.inj ent
  refine ⟨hi, ?_, ?_⟩
  · rw [ent2, k2]
    rfl
  · rw [ent2]
    exact k3
end
theorem turn_itemsN {P : Program} {w : World} {K : PySem.W.Frag} {d it : Addr} {o : Obj} {xs : List NRow} {es : Array DictEntry} {ep : Nat} {elts : List Expr} {kk : Nat} {tpos : Pos} (hod : o.data = .dict es ep) :
    L2.Turn P w K (.Tuple elts kk tpos) (Itn P w d o xs) [it] it (fun i h => ∃ ok ov, IsItemIter h it d i xs.length ep ok ov) where
  mem := by simp
  obj := fun i h st b hb => by
    obtain rfl : b = it := by simpa using hb
    obtain ⟨ok, ov, e⟩ := st
    exact ⟨_, e, fun v z => nomatch z⟩
  keep := fun i h h' st k => by
    obtain ⟨ok, ov, e⟩ := st
    exact ⟨ok, ov, k it (by simp) _ e⟩
  item := by
    rintro X rfl rfl rfl hc i pins s σ H E I hf ⟨ok, ov, he⟩ ⟨hd, hi⟩
    obtain ⟨_, es', ep', q1, q2, raw, ent⟩ := Inv.frzN I hd
    obtain ⟨rfl, rfl⟩ := dict_ep hod q1
    obtain ⟨r, hr⟩ : ∃ r, xs[i]? = some r := ⟨xs[i], List.getElem?_eq_getElem hi⟩
    obtain ⟨hie, key, val⟩ := ent i r hr
    rw [← q2] at he
    have young : it < s.heap.objs.size := Heap.lt_size he
    refine wpAny_pyNext_items_item_raw he raw hie fun h1 ho hT hz hk => ?_
    refine ⟨_, rfl, ?_⟩
    refine wpAny_letOwnedTupleGo_items (s := { s with heap := h1 }) ho fun h2 he2 sb => ?_
    have T2 : h2.get? s.heap.objs.size = some { cls := .type "tuple", data := .seq #[es'[i].key, es'[i].val] } :=
      (sb.2 _ (Nat.ne_of_gt young)).trans hT
    have made : ObjOk X.prog X.w (upd H s.heap.objs.size (.tup [.ref r.2.1, r.2.2])) h2 s.heap.objs.size (.tup [.ref r.2.1, r.2.2]) :=
      ⟨by show 2 ≤ sizeLine; decide, [es'[i].key, es'[i].val], .cons key (.cons val .nil), ⟨_, T2, rfl, _, rfl⟩⟩
    have J := I.turnedNew (t' := s.toks) (ch := [it]) (fun b ob hb e =>
      (sb.2 b (by simpa using hb)).trans (hk b ob (by simpa using hb) e)) hf (Nat.le_refl _) made
    refine ⟨.ref s.heap.objs.size, _, J, rfl, ⟨_, r, hr, rfl, I.hok.fresh (Nat.le_refl _), rfl⟩, ⟨_, _, by rw [← q2]; exact he2⟩, fun b hb => ?_⟩
    obtain rfl : b = it := by simpa using hb
    rw [upd_ne (Nat.ne_of_lt young)]
    exact (hf b (by simp)).1
  done := by
    rintro X rfl rfl rfl hc i pins s σ H E I hf ⟨ok, ov, he⟩ ⟨hd, hi⟩
    obtain ⟨_, es', ep', q1, q2, raw, _⟩ := Inv.frzN I hd
    obtain ⟨rfl, rfl⟩ := dict_ep hod q1
    obtain ⟨f0, f1, f2, f3, f4, f5⟩ := hf it (by simp)
    rw [← q2] at he
    exact wpAny_pyNext_items_end_raw (I.ok.hd hc) he raw (by omega) fun h1 eb => ⟨rfl, I.turned (t' := s.toks) (fun b ob hb e => eb b ob hb e) f0 f1 f3 f4 f5⟩
  self := fun A i s Q E st h => by
    obtain ⟨_, _, e⟩ := st
    exact PySem.W.kcp_self e h
/-- for .. in d.items(), the dict locked (tLock) -/
def iItemsN (P : Program) (w : World) (td : TE) : TI := fun σ H R => td σ H fun x H1 => ∃ d o xs, x = .ref d ∧ H1 d = some (.frz o (ndO P w d xs)) ∧ R (Itn P w d o xs) H1
theorem pi_itemsN {X : Cx} {e : Expr} {td : TE} {apos cpos tpos : Pos} {elts : List Expr} {kk : Nat} (he : PE X e td) (hbase : attributeBase e "items" X.env (eval e X.env) = eval e X.env := by rfl) (hline : (apos.endLine == cpos.line) = true := by rfl) :
    PI X (.Tuple elts kk tpos) (.Call (.Attribute e "items" apos) [] [] cpos) (iItemsN X.prog X.w td) := by
  constructor
  intro pins s σ H R I h
  refine wpAny_Call_method (T := "dict") (id := "dict.items") hbase rfl hline F.plainAttrs_dict F.slot_dict_items F.type_dict_items (thn (he.run pins s σ H _ I h) fun u s1 h1 => ?_)
  obtain ⟨x, H1, I1, rx, d, o, xs, rfl, hd, q⟩ := h1
  obtain rfl : u = Value.ref d := rx
  obtain ⟨nm, es, ep, hdt, hsz, raw, _⟩ := Inv.frzN I1 hd
  have view : Inv X pins σ H1 { s1 with heap := s1.heap.push { cls := .type "dict_items", data := .fields #[.ref d] } } :=
    I1.kept (t' := s1.toks) fun b ob k => Heap.get?_push_of_some _ k
  have last : wpAny (model X.prog X.w) X.A (pyIter (.ref s1.heap.objs.size)) (PIE X pins σ (.Tuple elts kk tpos) R) X.xe { s1 with heap := s1.heap.push { cls := .type "dict_items", data := .fields #[.ref d] } } := by
    refine wpAny_pyIter_items_raw (d := d) (es := es) (ep := ep) ⟨_, Heap.get?_push_size _ rfl, rfl, rfl⟩ (raw.at fun ob k => Heap.get?_push_of_some _ k) ?_
    refine pi_one (tk := s1.toks) view _ (turn_itemsN hdt) ⟨.none, .none, ?_⟩ q
    rw [← hsz]
    exact Heap.get?_push_size _ rfl
  obtain ⟨ob, k1, k2, k3⟩ := id raw
  refine ⟨⟨ob, k1, k2.1⟩, fun a z => ?_, ?_⟩
  · cases z
    exact ⟨ob, k1, k2.2.1⟩
  show wpAny _ _ (callWith cpos (.builtin "dict.items") [.ref d] [] []) _ X.xe s1
  exact method_meetsIn F.slot_dict_items F.entry_dict_items rfl (PySem.evalArgs_none ⟨rfl, ⟨ob, k1, k2.1⟩, F.args_dict_items_1 _, _, meets_dict_items_raw d nm, ⟨es, ep, raw⟩, last⟩)
/-! d.get(k, x), d[k] -/
def rGetN (P : Program) (w : World) (K : PySem.W.Frag) : V → List V → Hp → VK → Prop := fun x vs H Q => ∃ p a d dv xs, x = .ref p ∧ vs = [.ref a, dv] ∧ NDst P w H p xs ∧ NKeys K H xs ∧ plainK d = true ∧ (keyD d).depth ≤ 8 ∧ Dp K H (.ref a) d ∧ Q ((nAt xs (keyD d)).getD dv) H
section
variable {X : Cx}
theorem mt_getN (hu : X.A.units + 9 < cLine) : MtR X "dict.get" (rGetN X.prog X.w X.K) := by
  intro pins s σ H x vs v us Q I rx rv h
  obtain ⟨p, a, d, dv, xs, rfl, rfl, e, hk, pd, dd, hd, q⟩ := h
  cases rx
  obtain ⟨nm, ys, r, hm⟩ := Inv.nd I e hk
  obtain ⟨f1, f2⟩ := nrel_find (k := keyD d) r
  have room : (nestedKind X.prog X.w).room X.A.in1 := by
    show X.A.units + 1 + 8 < cLine
    omega
  cases rv with
  | cons r1 rv =>
    cases rv with
    | cons r2 rv =>
      cases rv
      cases r1
      refine getOr_keyed (k := keyD d) (kvs := pairsH ys) room ⟨dp_key I _ _ _ pd hd rfl, dd⟩ nm ⟨ys, hm, rfl⟩ ?_
      rw [valueAt_pairsH]
      cases z : nAt xs (keyD d) with
      | none =>
        rw [z] at q
        rw [f1.mp z]
        exact ⟨dv, H, I.tok _, r2, q⟩
      | some y =>
        rw [z] at q
        obtain ⟨p2, z2, r3⟩ := f2 y z
        rw [z2]
        exact ⟨y, H, I.tok _, r3, q⟩
def tIxN (P : Program) (w : World) (K : PySem.W.Frag) (td ty : TE) : TE := fun σ H Q => td σ H fun x H1 => ty σ H1 fun y H2 => ∃ p a d v xs, x = .ref p ∧ y = .ref a ∧ NDst P w H2 p xs ∧ NKeys K H2 xs ∧ plainK d = true ∧ (keyD d).depth ≤ 8 ∧ Dp K H2 (.ref a) d ∧ nAt xs (keyD d) = some v ∧ Q v H2
theorem pe_ixN {o i : Expr} {pos : Pos} {td ty : TE} (hu : X.A.units + 9 < cLine) (ho : PE X o td) (hi : PE X i ty) (hs : NoSl i) : PE X (.Subscript o i pos) (tIxN X.prog X.w X.K td ty) := by
  constructor
  intro pins s σ H Q I h
  refine subD_of PySem.F.slot_dict_getitem.lookup hs (thn (ho.run pins s σ H _ I h) fun u s1 h1 => ?_)
  obtain ⟨x, H1, I1, rx, h1⟩ := h1
  refine thn (hi.run pins s1 σ H1 _ I1 h1) fun iv s2 h2 => ?_
  obtain ⟨y, H2, I2, ry, p, a, d, v, xs, rfl, rfl, e, hk, pd, dd, hd, hv, q⟩ := h2
  cases rx
  cases ry
  obtain ⟨nm, ys, r, hm⟩ := Inv.nd I2 e hk
  obtain ⟨_, f2⟩ := nrel_find (k := keyD d) r
  obtain ⟨p2, z2, r3⟩ := f2 v hv
  have room : (nestedKind X.prog X.w).room X.A.in1 := by
    show X.A.units + 1 + 8 < cLine
    omega
  exact ⟨hm.typeIs, wpAny_getItem_heap (k := keyD d) room ⟨dp_key I2 _ _ _ pd hd rfl, dd⟩ hm z2 ⟨v, H2, I2.tok _, r3, q⟩⟩
end
section
variable {P : Program} {w : World} {K : PySem.W.Frag} {σ : L2.St} {H : Hp} {Q : VK} {td ty : TE}
theorem go_getN {a p : Addr} {d : PyData} {dv : V} {xs : List NRow} (e : NDst P w H p xs) (hk : NKeys K H xs) (pd : plainK d = true) (dd : (keyD d).depth ≤ 8) (hd : Dp K H (.ref a) d) (q : Q ((nAt xs (keyD d)).getD dv) H) : rGetN P w K (.ref p) [.ref a, dv] H Q :=
  ⟨p, a, d, dv, xs, rfl, rfl, e, hk, pd, dd, hd, q⟩
/-- rows behind a store -/
theorem nAt_snoc {xs : List NRow} {d : PyData} {a : Addr} {v : V} {k : NestedKey} : nAt (xs ++ [(d, a, v)]) k = match nAt xs k with | some u => some u | none => if keyD d = k then some v else none := by
  unfold nAt
  rw [List.find?_append]
  cases h : xs.find? fun x => decide (keyD x.1 = k) with
  | some y => rfl
  | none =>
    by_cases e : keyD d = k
    · simp [e]
    · simp [e]
end
/-- for a block's target of a form: the written part told apart -/
theorem pg_tupK {X : Cx} {K : PySem.W.Frag} {es : List Expr} {k : Nat} {t : TGs} {n : Nat} {pos : Pos} (hK : X.K = K) (hc : X.calm = true) (h : PGs X es t) (hn : (assignEach es X.env).length = n := by rfl) (hst : (assignEach es X.env).findIdx? (·.1) = none := by rfl) :
    PG X (.Tuple es k pos) (gTup K n t) := by
  subst hK
  exact pg_tup hc h hn hst
/-- {} as such a dict -/
def tDNewN (P : Program) (w : World) : TE := fun σ H Q => ∀ p, H p = none → Q (.ref p) (upd H p (ndO P w p []))
theorem pe_dnewN {X : Cx} {pos : Pos} : PE X (.Dict [] [] pos) (tDNewN X.prog X.w) := by
  constructor
  intro pins s σ H Q I h
  have run := (pe_dnewK (X := X) (pos := pos)).run pins s σ H (fun x H1 => ∃ p, x = .ref p ∧ H1 = upd H p (.dK []) ∧ Q (.ref p) (upd H p (ndO X.prog X.w p []))) I fun p hp => ⟨p, rfl, rfl, h p hp⟩
  refine thn run fun v s1 h1 => ?_
  obtain ⟨x, H1, I1, rx, p, rfl, rfl, q⟩ := h1
  obtain ⟨nm, o, es, ep, e1, e2, e3, e4, _, e6⟩ := Inv.nd0 (p := p) I1 upd_same
  have J := I1.write (t' := s1.toks) (h' := s1.heap) (x := p) (e := p) (o := ndO X.prog X.w p []) (by rw [upd_same]; trivial) (.inl rfl) (fun b u _ k => k) ⟨o, e1⟩ (ndO_ok ⟨nm, [], .nil, o, es, ep, e1, e2, e3, e4, e6⟩)
  rw [upd_upd] at J
  exact ⟨.ref p, _, J, rx, q⟩
theorem go_dnewN {P : Program} {w : World} {σ : L2.St} {H : Hp} {Q : VK} (h : ∀ p, H p = none → Q (.ref p) (upd H p (ndO P w p []))) : tDNewN P w σ H Q := h
/-- [e for (a, b) in d.items()], behind the reading of d -/
theorem lc_itemsN {P : Program} {w : World} {d : Addr} {o : Obj} {xs : List NRow} {g : TG} {tt : TT} {te : TE} {vs : List Nat} {σ : L2.St} {H1 : Hp} {D : Addr} {Qd : Hp → Prop} (Pv : Nat → Hp → Prop) (h0 : Pv 0 (upd H1 D (.lst [])))
    (hl : ∀ i H, i ≤ xs.length → Pv i H → H d = some (.frz o (ndO P w d xs)))
    (hs : ∀ (i : Nat) r T H, xs[i]? = some r → Pv i H → H T = none → g (.ref T) (wipe σ vs) (upd H T (.tup [.ref r.2.1, r.2.2])) fun σ2 H2 => wipe σ2 vs = wipe σ vs ∧ tt σ2 H2 fun b H3 =>
      if b = true then te σ2 H3 fun y H4 => ∃ acc, H4 D = some (.lst acc) ∧ acc.length < sizeLine ∧ Pv (i + 1) (upd H4 D (.lst (acc ++ [y]))) else Pv (i + 1) H3)
    (hd : ∀ H, Pv xs.length H → Qd H) :
    ∃ W : Nat → Nat → Hp → Prop, (∃ m, W 0 m (upd H1 D (.lst []))) ∧ ∀ i m H, W i m H →
      ((Itn P w d o xs).stop i H ∧ Qd H) ∨ ((Itn P w d o xs).go i H ∧ ∃ Nx : Hp → Prop, (∀ H', Nx H' → ∃ m', m' < m ∧ W (i + 1) m' H') ∧ ∀ x H', (Itn P w d o xs).yld i H x H' → g x (wipe σ vs) H' fun σ2 H2 => wipe σ2 vs = wipe σ vs ∧ tt σ2 H2 fun b H3 =>
        if b = true then te σ2 H3 fun y H4 => ∃ acc, H4 D = some (.lst acc) ∧ acc.length < sizeLine ∧ Nx (upd H4 D (.lst (acc ++ [y]))) else Nx H3) := by
  refine ⟨fun i m H => i ≤ xs.length ∧ m + i = xs.length ∧ Pv i H, ⟨xs.length, Nat.zero_le _, rfl, h0⟩, ?_⟩
  rintro i m H ⟨hi, hm, hp⟩
  rcases Nat.lt_or_ge i xs.length with h | h
  · refine .inr ⟨⟨hl i H hi hp, h⟩, fun H' => Pv (i + 1) H', fun H' hp' => ⟨m - 1, by omega, by omega, by omega, hp'⟩, ?_⟩
    rintro x H' ⟨T, r, hr, rfl, hT, rfl⟩
    exact hs i r T H hr hp hT
  · obtain rfl : i = xs.length := by omega
    exact .inl ⟨⟨hl _ H hi hp, Nat.le_refl _⟩, hd H hp⟩
/-- for (i, x) in enumerate(xs), behind the reading of xs -/
theorem foEn {K : PySem.W.Frag} {σ : L2.St} {H1 : Hp} {g : TG} {D : Ends} {tb : TS} {a : Addr} (xs : List V) (Pv : Nat → L2.St → Hp → Prop) (h0 : Pv 0 σ H1) (hl : ∀ i σ H, i ≤ xs.length → Pv i σ H → SqL K H a xs)
    (hs : ∀ (i : Nat) x T σ H, xs[i]? = some x → Pv i σ H → H T = none → g (.ref T) σ (upd H T (.tup [.int (i : Nat), x])) fun σ2 H2 => tb { D with nx := Pv (i + 1), ct := Pv (i + 1), bk := D.nx } σ2 H2)
    (hd : ∀ σ H, Pv xs.length σ H → D.nx σ H) :
    ∃ W : Nat → Nat → L2.St → Hp → Prop, (∃ m, W 0 m σ H1) ∧ ∀ i m σ H, W i m σ H →
      ((Ite K a).stop i H ∧ D.nx σ H) ∨ ((Ite K a).go i H ∧ ∃ N : L2.St → Hp → Prop, (∀ σ' H', N σ' H' → ∃ m', m' < m ∧ W (i + 1) m' σ' H') ∧ ∀ x H', (Ite K a).yld i H x H' → g x σ H' fun σ2 H2 => tb { D with nx := N, ct := N, bk := D.nx } σ2 H2) := by
  refine ⟨fun i m σ H => i ≤ xs.length ∧ m + i = xs.length ∧ Pv i σ H, ⟨xs.length, Nat.zero_le _, rfl, h0⟩, ?_⟩
  rintro i m σ H ⟨hi, hm, hp⟩
  have here := hl i σ H hi hp
  rcases Nat.lt_or_ge i xs.length with h | h
  · refine .inr ⟨⟨xs, xs[i], here, List.getElem?_eq_getElem h⟩, Pv (i + 1), fun σ' H' hp' => ⟨m - 1, by omega, by omega, by omega, hp'⟩, ?_⟩
    rintro x H' ⟨T, y, rfl, hT, rfl, at_⟩
    exact hs i y T σ H (at_ xs here) hp hT
  · obtain rfl : i = xs.length := by omega
    exact .inl ⟨⟨xs, here, Nat.le_refl _⟩, hd σ H hp⟩
end Gx

set_option Elab.async false
set_option linter.all false
set_option maxRecDepth 100000
set_option maxHeartbeats 4000000
/-! Own lemmas: != of two lists whose items are equal by an own __eq__. -/
namespace Gx
open PySem PySem.Spec PyProof.Rows L2
open AutoSeq1 (wpAny_loadPart')
open PySem.SeqAt MeetsSeq MeetsSeq2 MeetsSeq3 SeqRoads2
section
variable {prog : Program} {w : World} {A : Around} {R : Result → Shared → Prop}
/-- the loop's turns, each pair equal: False at the end -/
theorem nel_turns {l b : Addr} {N : Nat} {I : Nat → Shared → Prop} (hl : GQ.ListI prog w A (fun e s' => R (.error e) s') l b N I) (fin : ∀ s, I N s → R (.ok (.ret (.bool false))) s) :
    ∀ (k i : Nat), k + i = N → ∀ s, I i s → wpAny (model prog w) A.in1 (Builtin.«list.__eq__.loop» ⟨[.ref l, .ref b, rawInt i, rawInt 3], []⟩) (GQ.FinOf prog w A R) (fun e s' => R (.error e) s') s
  | 0, i, hk, s, h => by
    obtain ⟨xs, ys, n, n2, e1, e2, z1, z2, _⟩ := hl _ _ h
    obtain rfl : i = N := by omega
    have hR := fin s h
    obtain ⟨hp, g, d, tk, os⟩ := s
    wp_walk using wpAny_loadPart' e1, wpAny_loadPart' e2
    have o1 : xs[((i : Nat) : Int).toNat]? = none := by simp; omega
    have o2 : ys[((i : Nat) : Int).toNat]? = none := by simp; omega
    rw [o1, o2]
    wp_walk using wpAny_loadPart' e1, wpAny_loadPart' e2
    show R (.ok (.ret (.bool (xs.size != ys.size)))) _
    rw [z1, z2]
    simpa using hR
  | k + 1, i, hk, s, h => by
    obtain ⟨xs, ys, n, n2, e1, e2, z1, z2, turn⟩ := hl _ _ h
    have g1 : i < xs.size := by omega
    have g2 : i < ys.size := by omega
    have go := turn g1 g2
    obtain ⟨hp, g, d, tk, os⟩ := s
    wp_walk using wpAny_loadPart' e1, wpAny_loadPart' e2
    have o1 : xs[((i : Nat) : Int).toNat]? = some xs[i] := by simp [g1]
    have o2 : ys[((i : Nat) : Int).toNat]? = some ys[i] := by simp [g2]
    have cast : ((i : Int) + 1) = ((i + 1 : Nat) : Int) := by omega
    rw [o1, o2]
    refine wpAny_bind (wpAny_mono go (fun r s2 q => ?_) fun _ _ x => x)
    obtain ⟨rfl, q⟩ := q
    have rest := nel_turns hl fin k (i + 1) (by omega) s2 q
    obtain ⟨hp2, g2, d2, tk2, os2⟩ := s2
    wp_walk
    rw [cast]
    refine ⟨plainId_quiet plain_eq_loop _, codeAny_builtin entry_eq_loop ?_⟩
    rw [Around.under_plainId plain_eq_loop _]
    exact rest
theorem nel_all {l b : Addr} {N : Nat} {I : Nat → Shared → Prop} (hl : GQ.ListI prog w A (fun e s' => R (.error e) s') l b N I) (fin : ∀ s, I N s → R (.ok (.ret (.bool false))) s) {s : Shared} (h : I 0 s) :
    wpAny (model prog w) A.in1 (Builtin.«list.__ne__» ⟨[.ref l, .ref b], []⟩) (GQ.FinOf prog w A R) (fun e s' => R (.error e) s') s := by
  obtain ⟨xs, ys, n, n2, e1, e2, z1, z2, _⟩ := hl _ _ h
  have rest := nel_turns (A := A) (R := R) hl fin N 0 rfl s h
  obtain ⟨hp, g, d, tk, os⟩ := s
  have sub := AutoSeq1.sub_list_list
  have hz : ¬ (xs.size != ys.size) = true := by simp [z1, z2]
  wp_walk using wpAny_loadPart' e1, wpAny_loadPart' e2
  refine ⟨plainId_quiet plain_eq_loop _, codeAny_builtin entry_eq_loop ?_⟩
  rw [Around.under_plainId plain_eq_loop _]
  exact rest
end
section
variable {prog : Program} {w : World} {A : Around} {E : Value → Shared → Prop} {s : Shared}
theorem rc_nel {l b : Addr} {N : Nat} {Q : Value → Shared → Prop} (hu : A.units < cLine) (I : Nat → Shared → Prop) (hl : GQ.ListI prog w A E l b N I)
    (fin : ∀ s, I N s → Q (.bool false) s) (h : I 0 s) : wpAny (model prog w) A (richCompare .NotEq (.ref l) (.ref b)) Q E s := by
  obtain ⟨xs, ys, n, n2, e1, e2, _⟩ := hl _ _ h
  refine wpAny_richCompare_same_room (op := .NotEq) ⟨_, e1, rfl⟩ ⟨_, e2, rfl⟩ F.slot_list_ne (GQ.call_here F.slot_list_ne ⟨_, e1, rfl⟩ F.entry_list_ne (F.args_list_ne_2 _ _) ?_) hu
  exact nel_all (R := wants (fun v s' => v ≠ .notImplemented ∧ Q v s') E) hl (fun s' q => ⟨(fun x => nomatch x), fin s' q⟩) h
end
section
variable {X : Cx} {n : Nat} {D : Eqv}
/-- x != y of two lists, item by item equal: False -/
def rNeL (D : Eqv) : R2 := fun x y H Q => DList D x y H ∧ ∀ H', Ext H H' → Q (.bl false) H'
theorem op_neL (hD : Mon D) (h : EqG X n D) (hr : Room (n + 1) X.A) : OpR X (compareOp .NotEq) (rNeL D) := by
  intro pins s σ H x y v u Q I rx ry hq
  obtain ⟨⟨a, b, xs, ys, rfl, rfl, ha, hb, p⟩, q⟩ := hq
  have sb : Sub X (n + 1) X.A := ⟨hr, rfl⟩
  cases rx
  cases ry
  show wpAny (model X.prog X.w) X.A (richCompare .NotEq (.ref a) (.ref b)) (EP X pins σ Q) X.xe s
  refine rc_nel (N := xs.length) sb.room.units0 (fun _ s' => LoopI X pins σ H s') (fun i s' z => ?_) (fun s' z => ?_) ⟨H, I, Ext.rfl'⟩
  · obtain ⟨H1, I1, e1⟩ := id z
    obtain ⟨m1, as, k, r, e⟩ := I1.hok a _ (e1 _ _ ha)
    obtain ⟨m2, bs, k2, r2, e2⟩ := I1.hok b _ (e1 _ _ hb)
    exact ⟨as.toArray, bs.toArray, k, k2, e, e2, by rw [List.size_toArray, ← r.length], by rw [List.size_toArray, ← r2.length, ← p.1], fun h1 h2 => turnG hD h sb p r r2 i h1 h2 s' z⟩
  · obtain ⟨H1, I1, e1⟩ := z
    exact ⟨.bl false, H1, I1, rfl, q H1 e1⟩
/-- all that stands outlasts, but at S -/
def Off (S : Addr → Prop) (H H' : Hp) : Prop := ∀ c o, ¬ S c → H c = some o → H' c = some o
/-- no tuple stands at S -/
def NoT (S : Addr → Prop) (H : Hp) : Prop := ∀ c xs, S c → H c ≠ some (.tup xs) ∧ ∀ o, H c ≠ some (.frz o (.tup xs))
theorem sqT_off {K : PySem.W.Frag} {S : Addr → Prop} {H H' : Hp} {a : Addr} {xs : List V} (o : Off S H H') (n : NoT S H) (h : SqT K H a xs) : SqT K H' a xs := by
  rcases h with (h | ⟨b, h⟩) | h
  · exact .inl (.inl (o _ _ (fun z => (n a xs z).1 h) h))
  · exact .inl (.inr ⟨b, o _ _ (fun z => (n a xs z).2 b h) h⟩)
  · exact .inr h
mutual
theorem dp_off {K : PySem.W.Frag} {S : Addr → Prop} {H H' : Hp} (o : Off S H H') (n : NoT S H) : ∀ (d : PyData) (v : V), plainK d = true → Dp K H v d → Dp K H' v d
  | .none, _, _, h => by cases h; exact .non
  | .bool b, _, _, h => by cases h; exact .bl b
  | .int i, _, _, h => by cases h; exact .int i
  | .str x, _, _, h => by cases h; exact .str x
  | .list ds, _, k, _ => by simp [plainK] at k
  | .dict _, _, k, _ => by simp [plainK] at k
  | .tuple ds, _, k, h => by
    cases h with
    | tup hs ha => exact .tup (sqT_off o n hs) (dpAll_off o n ds _ (by simpa [plainK] using k) ha)
theorem dpAll_off {K : PySem.W.Frag} {S : Addr → Prop} {H H' : Hp} (o : Off S H H') (n : NoT S H) : ∀ (ds : List PyData) (vs : List V), plainKs ds = true → DpAll K H vs ds → DpAll K H' vs ds
  | [], _, _, h => by cases h; exact .nil
  | d :: ds, _, k, h => by
    have k' : plainK d = true ∧ plainKs ds = true := by simpa [plainKs] using k
    cases h with
    | cons h1 h2 => exact .cons (dp_off o n d _ k'.1 h1) (dpAll_off o n ds _ k'.2 h2)
end
theorem But.off {p : Addr} {H H' : Hp} (b : But p H H') : Off (fun c => c = p) H H' := fun c o n e => b c o n e
theorem noT_ins {p : Addr} {H : Hp} {C dx : Addr} {fs : List (Str × V)} (h : H p = some (.ins C dx fs)) : NoT (fun c => c = p) H := fun c xs z => by
  subst z
  rw [h]
  exact ⟨fun e => (by cases e), fun o e => (by cases e)⟩
theorem noT_lst {p : Addr} {H : Hp} {ys : List V} (h : H p = some (.lst ys)) : NoT (fun c => c = p) H := fun c xs z => by
  subst z
  rw [h]
  exact ⟨fun e => (by cases e), fun o e => (by cases e)⟩
theorem Off.trans {S : Addr → Prop} {H H1 H2 : Hp} (a : Off S H H1) (b : Off S H1 H2) : Off S H H2 := fun c o n e => b c o n (a c o n e)
theorem Off.same {S : Addr → Prop} {H H1 H2 : Hp} (a : Off S H H1) (b : Same H1 H2) : Off S H H2 := fun c o n e => b c o (a c o n e)
theorem Off.put {S : Addr → Prop} {H H1 : Hp} {p : Addr} {o : HO} (a : Off S H H1) (h : S p) : Off S H (upd H1 p o) := fun c u n e => by
  have ne : c ≠ p := fun z => n (by rw [z]; exact h)
  rw [upd_ne ne]
  exact a c u n e
theorem nAt_any {xs : List NRow} {k : NestedKey} : (nAt xs k).isSome = xs.any fun x => decide (keyD x.1 = k) := by
  unfold nAt
  rw [Option.isSome_map]
  induction xs with
  | nil => rfl
  | cons x t ih =>
    rw [List.find?_cons, List.any_cons]
    by_cases e : keyD x.1 = k
    · simp [e]
    · simp [e, ih]
/-- d.name(..) of a dict by nested keys -/
def tBMN (P : Program) (w : World) (r : V → List V → Hp → VK → Prop) (to : TE) (t : TA) : TE := fun σ H Q => to σ H fun x H1 => (∃ p xs, x = .ref p ∧ NDst P w H1 p xs) ∧ t σ H1 fun xs H2 => r x xs H2 Q
theorem nd_is {X : Cx} {pins : List (Addr × Obj)} {σ : L2.St} {H : Hp} {s : Shared} {p : Addr} {xs : List NRow} (I : Inv X pins σ H s) (e : NDst X.prog X.w H p xs) : s.TypeIs (.ref p) "dict" ∧ ∀ a, Value.ref p = .ref a → ∃ ob, s.heap.get? a = some ob ∧ ob.dict = none := by
  have z : ∃ o, s.heap.get? p = some o ∧ o.ExactDict := by
    rcases e with e | ⟨e, _⟩
    · obtain ⟨_, _, _, o, _, _, e1, e2, _⟩ := (I.hok p _ e).1
      exact ⟨o, e1, e2⟩
    · obtain ⟨_, o, _, _, e1, e2, _⟩ := Inv.nd0 I e
      exact ⟨o, e1, e2⟩
  obtain ⟨o, e1, e2⟩ := z
  refine ⟨⟨o, e1, e2.1⟩, fun a h => ?_⟩
  cases h
  exact ⟨o, e1, e2.2.1⟩
theorem pe_bmN {X : Cx} {o e : Expr} {es : List Expr} {to : TE} {t : TA} {name : Str} {ap cp : Pos} {id : String} {r : V → List V → Hp → VK → Prop} (pa : PlainAttrs "dict") (slot : Slot "dict" name id) (hty : typeOf (.builtin id) = pure (.type "method_descriptor")) (hm : MtR X id r) (ho : PE X o to) (ha : PA X (e :: es) t)
    (hbase : attributeBase o name X.env (eval o X.env) = eval o X.env := by rfl)
    (hfew : ((backTo cp (starEach (e :: es) X.env)).all (fun x => !x.1) && (backToKw cp (keywordEach [] X.env)).all (fun x => x.1.isSome) && decide ((e :: es).length + ([] : List Keyword).length + (if ([] : List Keyword).isEmpty then 0 else 1) < 30)) = true := by rfl)
    (hline : (ap.endLine == cp.line) = true := by rfl) (hst : starEach (e :: es) X.env = (false, eval e X.env) :: starEach es X.env := by rfl) (hp : (backTo cp (starEach es X.env)).any (·.1) = false := by rfl) :
    PE X (.Call (.Attribute o name ap) (e :: es) [] cp) (tBMN X.prog X.w r to t) := by
  constructor
  intro pins s σ H Q I h
  refine wpAny_Call_method_late hbase hfew hline rfl (thn (ho.run pins s σ H _ I h) fun v s1 z => ?_)
  obtain ⟨x, H1, I1, r1, ⟨p, xs, rfl, nd⟩, q1⟩ := z
  have run := ha.run cp pins s1 σ H1 _ I1 q1
  cases r1
  obtain ⟨h1, h2⟩ := nd_is I1 nd
  refine ⟨"dict", id, pa, slot, hty, h1, h2, ?_⟩
  rw [hst] at run ⊢
  have no : (false || (backTo cp (starEach es X.env)).any (·.1)) = false := by rw [hp] <;> rfl
  refine Calls.callWith_builtin no (Calls.evalArgs_plain ?_)
  exact thn run fun us s2 ⟨vs, H2, I2, r2, q2⟩ =>
     hm pins s2 σ H2 (.ref p) vs _ us Q I2 rfl r2 q2
/-- within a block: the written part told apart -/
theorem pi_listK {X : Cx} {K : PySem.W.Frag} {tg l : Expr} {tl : TE} (hK : X.K = K) (hl : PE X l tl) : PI X tg l (iList K tl) := by
  subst hK
  exact pi_list hl
/-- [e for x in range(n)] that makes objects, behind the reading of n -/
theorem lcRh {σ : L2.St} {H1 : Hp} {te : TE} {vs : List Nat} {j : Nat} {R : Addr → Hp → Prop} {n : Int} {P : Hp → Nat → V → Prop} (hP : Stays P) (hz : n ≤ 100000) (hn : -(2 ^ 62) ≤ n) (hw : ∀ x, wipe ((wipe σ vs).set j x) vs = wipe σ vs)
    (he : ∀ (i : Nat) H', i < n.toNat → Same H1 H' → ∀ R : VK, (∀ y H'', Same H' H'' → P H'' i y → R y H'') → te ((wipe σ vs).set j (some (.int i))) H' R)
    (q : ∀ D (ys : List V) H2, H1 D = none → Same H1 H2 → H2 D = some (.lst ys) → ys.length = n.toNat → (∀ k y, ys[k]? = some y → P H2 k y) → R D H2) :
    ∃ k : Int, [V.int n] = [.int k] ∧ -(2 ^ 62) ≤ k ∧ k < 2 ^ 62 ∧ ∀ D, H1 D = none → ∃ W : Nat → Nat → Hp → Prop, (∃ m, W 0 m (upd H1 D (.lst []))) ∧ ∀ i m H, W i m H →
      ((Itr 0 k.toNat).stop i H ∧ R D H) ∨ ((Itr 0 k.toNat).go i H ∧ ∃ Nx : Hp → Prop, (∀ H', Nx H' → ∃ m', m' < m ∧ W (i + 1) m' H') ∧ ∀ x H', (Itr 0 k.toNat).yld i H x H' → gName j x (wipe σ vs) H' fun σ2 H2 => wipe σ2 vs = wipe σ vs ∧ tYes σ2 H2 fun b H3 =>
        if b = true then te σ2 H3 fun y H4 => ∃ acc, H4 D = some (.lst acc) ∧ acc.length < sizeLine ∧ Nx (upd H4 D (.lst (acc ++ [y]))) else Nx H3) := by
  refine ⟨n, rfl, hn, by omega, fun D hD => ?_⟩
  refine lc_range (lo := 0) (n := n.toNat) (fun i H' => Same H1 H' ∧ ∃ ys : List V, H' D = some (.lst ys) ∧ ys.length = i ∧ ∀ k y, ys[k]? = some y → P H' k y) ⟨same_new hD, [], upd_same, rfl, fun k y h => by simp at h⟩ (fun i H hi p => ?_) fun H p => ?_
  · obtain ⟨s, ys, e, hl, hp⟩ := p
    refine ⟨hw _, go_yes (iteT ?_)⟩
    rw [Int.zero_add]
    refine he i H hi s _ fun y H4 s4 hy => ?_
    have e4 := s4 _ _ e
    refine ⟨ys, e4, szlt (by omega), same_mut (s.trans s4) hD, ys ++ [y], upd_same, by simp [hl], fun k z hz => ?_⟩
    refine hP.lst _ _ ys _ _ _ e4 ?_
    rcases Nat.lt_or_ge k ys.length with h | h
    · rw [List.getElem?_append_left h] at hz
      exact hP.same _ _ _ _ s4 (hp k z hz)
    · have hk := (List.getElem?_eq_some_iff.mp hz).1
      rw [List.length_append, List.length_singleton] at hk
      obtain rfl : k = ys.length := by omega
      rw [List.getElem?_append_right (Nat.le_refl _), Nat.sub_self] at hz
      cases hz
      rw [hl]
      exact hy
  · obtain ⟨s, ys, e, hl, hp⟩ := p
    exact q D ys H hD s e hl hp
theorem go_iTp {K : PySem.W.Frag} {σ : L2.St} {H : Hp} {tl : TE} {R : It → Hp → Prop} (h : tl σ H fun x H1 => ∃ a, x = .ref a ∧ (∃ xs, SqT K H1 a xs) ∧ R (Itt K a) H1) : iTup K tl σ H R := h
/-- for x in a tuple, behind the tuple's reading -/
theorem foTp {K : PySem.W.Frag} {σ : L2.St} {H1 : Hp} {D : Ends} {g : TG} {tb : TS} {a : Addr} (xs : List V) (Pv : Nat → L2.St → Hp → Prop) (h0 : Pv 0 σ H1) (hl : ∀ i σ H, i ≤ xs.length → Pv i σ H → SqT K H a xs)
    (hs : ∀ i x σ H, xs[i]? = some x → Pv i σ H → g x σ H fun σ2 H2 => tb { D with nx := Pv (i + 1), ct := Pv (i + 1), bk := D.nx } σ2 H2) (hd : ∀ σ H, Pv xs.length σ H → D.nx σ H) :
    ∃ b, V.ref a = .ref b ∧ (∃ xs, SqT K H1 b xs) ∧ ∃ W : Nat → Nat → L2.St → Hp → Prop, (∃ m, W 0 m σ H1) ∧ ∀ i m σ H, W i m σ H →
      ((Itt K b).stop i H ∧ D.nx σ H) ∨ ((Itt K b).go i H ∧ ∃ N : L2.St → Hp → Prop, (∀ σ' H', N σ' H' → ∃ m', m' < m ∧ W (i + 1) m' σ' H') ∧ ∀ x H', (Itt K b).yld i H x H' → g x σ H' fun σ2 H2 => tb { D with nx := N, ct := N, bk := D.nx } σ2 H2) :=
  ⟨a, rfl, ⟨xs, hl 0 σ H1 (Nat.zero_le _) h0⟩, for_tup Pv h0 hl hs hd⟩
/-- the turns of a comprehension's walk over a list, whatever its body -/
theorem walkL {K : PySem.W.Frag} {a : Addr} {xs : List V} {Q : Hp → Prop} {Bd : V → Hp → (Hp → Prop) → Prop} {H0 : Hp} (Pv : Nat → Hp → Prop) (h0 : Pv 0 H0) (hl : ∀ i H, i ≤ xs.length → Pv i H → SqL K H a xs)
    (hs : ∀ (i : Nat) x H, xs[i]? = some x → Pv i H → Bd x H (Pv (i + 1))) (hd : ∀ H, Pv xs.length H → Q H) :
    ∃ W : Nat → Nat → Hp → Prop, (∃ m, W 0 m H0) ∧ ∀ i m H, W i m H → ((Itl K a).stop i H ∧ Q H) ∨ ((Itl K a).go i H ∧ ∃ N : Hp → Prop, (∀ H', N H' → ∃ m', m' < m ∧ W (i + 1) m' H') ∧ ∀ x H', (Itl K a).yld i H x H' → Bd x H' N) := by
  refine ⟨fun i m H => m + i = xs.length ∧ Pv i H, ⟨xs.length, rfl, h0⟩, ?_⟩
  rintro i m H ⟨hm, p⟩
  have here := hl i H (by omega) p
  by_cases lt : i < xs.length
  · refine .inr ⟨⟨xs, xs[i], here, by simp [lt]⟩, Pv (i + 1), fun H' p' => ⟨m - 1, by omega, by omega, p'⟩, fun x H' y => ?_⟩
    obtain ⟨e, y⟩ := y
    subst e
    exact hs i x _ (y xs here) p
  · obtain rfl : i = xs.length := by omega
    exact .inl ⟨⟨xs, here, Nat.le_refl _⟩, hd H p⟩
/-- the same over range(n) -/
theorem walkR {n : Nat} {Q : Hp → Prop} {Bd : V → Hp → (Hp → Prop) → Prop} {H0 : Hp} (Pv : Nat → Hp → Prop) (h0 : Pv 0 H0)
    (hs : ∀ (i : Nat) H, i < n → Pv i H → Bd (.int (i : Nat)) H (Pv (i + 1))) (hd : ∀ H, Pv n H → Q H) :
    ∃ W : Nat → Nat → Hp → Prop, (∃ m, W 0 m H0) ∧ ∀ i m H, W i m H → ((Itr 0 n).stop i H ∧ Q H) ∨ ((Itr 0 n).go i H ∧ ∃ N : Hp → Prop, (∀ H', N H' → ∃ m', m' < m ∧ W (i + 1) m' H') ∧ ∀ x H', (Itr 0 n).yld i H x H' → Bd x H' N) := by
  refine ⟨fun i m H => m + i = n ∧ Pv i H, ⟨n, rfl, h0⟩, ?_⟩
  rintro i m H ⟨hm, p⟩
  by_cases lt : i < n
  · refine .inr ⟨lt, Pv (i + 1), fun H' p' => ⟨m - 1, by omega, by omega, p'⟩, fun x H' y => ?_⟩
    obtain ⟨e1, e2⟩ := y
    subst e1
    subst e2
    rw [Int.zero_add]
    exact hs i _ lt p
  · obtain rfl : i = n := by omega
    exact .inl ⟨Nat.le_refl _, hd H p⟩
/-- key not in dict -/
def rNotInN (P : Program) (w : World) (K : PySem.W.Frag) : R2 := fun x y H Q => ∃ a p d xs, x = .ref a ∧ y = .ref p ∧ NDst P w H p xs ∧ NKeys K H xs ∧ plainK d = true ∧ (keyD d).depth ≤ 8 ∧ Dp K H (.ref a) d ∧ Q (.bl (!(nAt xs (keyD d)).isSome)) H
theorem op_notInN {X : Cx} (hu : X.A.units + 9 < cLine) : OpR X (compareOp .NotIn) (rNotInN X.prog X.w X.K) := by
  intro pins s σ H x y v u Q I rx ry h
  obtain ⟨a, p, d, xs, rfl, rfl, e, hk, pd, dd, hd, q⟩ := h
  cases rx
  cases ry
  obtain ⟨nm, ys, r, hm⟩ := Inv.nd I e hk
  obtain ⟨f1, f2⟩ := nrel_find (k := keyD d) r
  have room : (nestedKind X.prog X.w).room X.A.in1 := by
    show X.A.units + 1 + 8 < cLine
    omega
  refine wpAny_notIn_heap (k := keyD d) room ⟨dp_key I _ _ _ pd hd rfl, dd⟩ nm hm ?_
  have same : (atKey ys (keyD d)).isSome = (nAt xs (keyD d)).isSome := by
    cases z : nAt xs (keyD d) with
    | none =>
      rw [f1.mp z]
      rfl
    | some v =>
      obtain ⟨p2, z2, _⟩ := f2 v z
      rw [z2]
      rfl
  rw [same]
  exact ⟨.bl _, H, I.tok _, rfl, q⟩
mutual
theorem eqv_plain : ∀ a b : PyData, plainK a = true → plainK b = true → PyData.eqv a b = true → a = b
  | .int i, .int j, _, _, h => by
    have : i = j := by simpa [PyData.eqv] using h
    rw [this]
  | .str i, .str j, _, _, h => by
    have : i = j := by simpa [PyData.eqv] using h
    rw [this]
  | .tuple ds, .tuple es, h1, h2, h => by
    rw [eqvs_plain ds es (by simpa [plainK] using h1) (by simpa [plainK] using h2) (by simpa [PyData.eqv] using h)]
  | .int _, .str _, _, _, h => by simp [PyData.eqv] at h
  | .int _, .tuple _, _, _, h => by simp [PyData.eqv] at h
  | .str _, .int _, _, _, h => by simp [PyData.eqv] at h
  | .str _, .tuple _, _, _, h => by simp [PyData.eqv] at h
  | .tuple _, .int _, _, _, h => by simp [PyData.eqv] at h
  | .tuple _, .str _, _, _, h => by simp [PyData.eqv] at h
  | .none, _, h, _, _ => by simp [plainK] at h
  | .bool _, _, h, _, _ => by simp [plainK] at h
  | .list _, _, h, _, _ => by simp [plainK] at h
  | .dict _, _, h, _, _ => by simp [plainK] at h
  | _, .none, _, h, _ => by simp [plainK] at h
  | _, .bool _, _, h, _ => by simp [plainK] at h
  | _, .list _, _, h, _ => by simp [plainK] at h
  | _, .dict _, _, h, _ => by simp [plainK] at h
theorem eqvs_plain : ∀ a b : List PyData, plainKs a = true → plainKs b = true → PyData.eqvAll a b = true → a = b
  | [], [], _, _, _ => rfl
  | [], _ :: _, _, _, h => by simp [PyData.eqvAll] at h
  | _ :: _, [], _, _, h => by simp [PyData.eqvAll] at h
  | a :: as, b :: bs, h1, h2, h => by
    have h1' : plainK a = true ∧ plainKs as = true := by simpa [plainKs] using h1
    have h2' : plainK b = true ∧ plainKs bs = true := by simpa [plainKs] using h2
    have h' : PyData.eqv a b = true ∧ PyData.eqvAll as bs = true := by simpa [PyData.eqvAll] using h
    rw [eqv_plain a b h1'.1 h2'.1 h'.1, eqvs_plain as bs h1'.2 h2'.2 h'.2]
end
theorem cut_ints {ds : List Int} {a n : Nat} : ∃ ws : List Int, cutV (ds.map V.int) (some (a : Int)) (some ((a + n : Nat) : Int)) = ws.map V.int ∧ ws.length ≤ n ∧ (∀ w ∈ ws, w ∈ ds) ∧ (a + n ≤ ds.length → ws.length = n) := by
  unfold cutV
  rw [HT.sIx_nat, HT.sIx_nat]
  refine ⟨(ds.drop (min a (ds.map V.int).length)).take (min (a + n) (ds.map V.int).length - min a (ds.map V.int).length), by rw [List.map_take, List.map_drop], ?_, fun w h => List.mem_of_mem_drop (List.mem_of_mem_take h), fun h => ?_⟩
  · rw [List.length_take]
    omega
  · rw [List.length_take, List.length_drop, List.length_map]
    omega
theorem cut_tl {ws : List Int} : cutV (ws.map V.int) (some 1) none = (ws.drop 1).map V.int := by
  unfold cutV
  have h1 : HT.sIx (ws.map V.int).length 0 (some 1) = min 1 (ws.map V.int).length := HT.sIx_nat _ _ 1
  rw [h1]
  cases ws with
  | nil => rfl
  | cons w r =>
    have h2 : min 1 (List.map V.int (w :: r)).length = 1 := by simp
    rw [h2]
    show List.take ((List.map V.int (w :: r)).length - 1) (r.map V.int) = _
    rw [List.take_of_length_le (by simp)]
    rfl
theorem ite_nI {a : Int} {A B : Prop} (k : B) : if (!decide (a = a)) = true then A else B := by rw [decide_eq_true rfl]; exact k
theorem room65 {k : Nat} {A : Around} (r : Room k A) : A.units + 65 < cLine := by
  have := r.un
  omega
end
end Gx

set_option Elab.async false
set_option linter.all false
set_option maxRecDepth 100000
set_option maxHeartbeats 4000000
/-! Own lemmas: zip of a list and a tuple. An iterator of a builtin sequence is told by what it promises (Fed). -/
namespace Gx
open PySem PySem.Spec PyProof.Rows L2
section
variable {prog : Program} {w : World}
/-- what the iterator at `it` over the items xs (kept at l) promises in the state st h k: it stands at its k-th item -/
structure Fed (prog : Program) (w : World) (it l : Addr) (xs : Array Value) (st : Heap → Nat → Prop) : Prop where
  keep : ∀ {h g : Heap} {k : Nat}, (∀ c, c = it ∨ c = l → ∀ o, h.get? c = some o → g.get? c = some o) → st h k → st g k
  next : ∀ {A : Around} {E : Value → Shared → Prop} {s : Shared} {k : Nat} {x : Value} {Q : Value → Shared → Prop}, st s.heap k → xs[k]? = some x →
    (∀ g, st g (k + 1) → Heap.SameBut it s.heap g → Q x { s with heap := g }) → wpAny (model prog w) A (Builtin.SmallTypes.nextOf (.ref it)) Q E s
  fin : ∀ {A : Around} {E : Value → Shared → Prop} {s : Shared} {k : Nat} {Q : Value → Shared → Prop}, A.handled = none → st s.heap k → xs[k]? = none →
    (∀ g e, Heap.ExtBut it s.heap g → (∃ o, g.get? e = some o ∧ o.cls = .type "StopIteration") → E (.ref e) { s with heap := g }) → wpAny (model prog w) A (Builtin.SmallTypes.nextOf (.ref it)) Q E s
theorem at_list {h g : Heap} {l : Addr} {xs : Array Value} (x : h.IsList l xs) (e : ∀ o, h.get? l = some o → g.get? l = some o) : g.IsList l xs := let ⟨o, a, b⟩ := x; ⟨o, e _ a, b⟩
theorem at_tuple {h g : Heap} {l : Addr} {xs : Array Value} (x : h.IsTuple l xs) (e : ∀ o, h.get? l = some o → g.get? l = some o) : g.IsTuple l xs := let ⟨o, a, b⟩ := x; ⟨o, e _ a, b⟩
theorem fed_list {it l : Addr} {xs : Array Value} (ne : l ≠ it) : Fed prog w it l xs fun h k => h.IsListIter it l k ∧ h.IsList l xs :=
  ⟨fun e ⟨a, b⟩ => ⟨a.at fun o q => e it (.inl rfl) o q, at_list b fun o q => e l (.inr rfl) o q⟩,
   fun ⟨a, b⟩ hx q => wpAny_nextOf_list_item a b hx fun g g1 g2 => q g ⟨g1, b.extBut g2.extBut ne⟩ g2,
   fun hh ⟨a, b⟩ hx q => wpAny_nextOf_list_end hh a b hx q⟩
theorem fed_tuple {it l : Addr} {xs : Array Value} (ne : l ≠ it) : Fed prog w it l xs fun h k => h.IsTupleIter it l k ∧ h.IsTuple l xs :=
  ⟨fun e ⟨a, b⟩ => ⟨a.at fun o q => e it (.inl rfl) o q, at_tuple b fun o q => e l (.inr rfl) o q⟩,
   fun ⟨a, b⟩ hx q => RZ.nextOf_tuple_item a b hx fun g g1 g2 => q g ⟨g1, b.extBut g2.extBut ne⟩ g2,
   fun hh ⟨a, b⟩ hx q => RZ.nextOf_tuple_end hh a b hx q⟩
variable {A : Around} {E : Value → Shared → Prop} {s : Shared} {z TI TO i1 i2 l1 l2 : Addr} {m n : Nat} {xs ys : Array Value} {x y a b : Value} {s1 s2 : Heap → Nat → Prop}
/-- what stands outlasts but at the four places that a turn of zip writes -/
abbrev Zk (z TO i1 i2 : Addr) (h g : Heap) : Prop := ∀ c o, c ≠ z → c ≠ TO → c ≠ i1 → c ≠ i2 → h.get? c = some o → g.get? c = some o
theorem fzip_next {Q : Value → Shared → Prop} (F1 : Fed prog w i1 l1 xs s1) (F2 : Fed prog w i2 l2 ys s2) (D : ZipApart z TI TO i1 i2 l1 l2)
    (hz : IsZip s.heap z TI TO .none) (hI : IsPair s.heap TI (.ref i1) (.ref i2)) (hO : IsPair s.heap TO a b) (h1 : s1 s.heap m) (h2 : s2 s.heap n) (hx : xs[m]? = some x) (hy : ys[n]? = some y)
    (hQ : ∀ g, IsZip g z TI TO (rawInt s.heap.objs.size) → IsPair g TO x y → s1 g (m + 1) → s2 g (n + 1) → IsPair g s.heap.objs.size x y → g.objs.size = s.heap.objs.size + 1 → Zk z TO i1 i2 s.heap g → Q (.ref s.heap.objs.size) { s with heap := g }) :
    wpAny (model prog w) A (Builtin.«zip.__next__» ⟨[.ref z], []⟩) (fun fin t => ∃ v, fin = .done (.ret v) ∧ Q v t) E s := by
  have k1 : ∀ {c : Addr} {h g : Heap} {k : Nat}, Heap.SameBut c h g → i1 ≠ c → l1 ≠ c → s1 h k → s1 g k := fun sb n1 n2 st => F1.keep (fun d hd o e => sb.extBut _ _ (by rcases hd with rfl | rfl <;> assumption) e) st
  have k2 : ∀ {c : Addr} {h g : Heap} {k : Nat}, Heap.SameBut c h g → i2 ≠ c → l2 ≠ c → s2 h k → s2 g k := fun sb n1 n2 st => F2.keep (fun d hd o e => sb.extBut _ _ (by rcases hd with rfl | rfl <;> assumption) e) st
  show wpAny _ _ (field (.ref z) 2 >>= _) _ _ s
  refine wpAny_bind (wpAny_field hz rfl (x := .bool false) rfl ?_)
  show wpAny _ _ (field (.ref z) 3 >>= _) _ _ s
  refine wpAny_bind (wpAny_field hz rfl (x := .ref TI) rfl ?_)
  refine wpAny_bind (wpAny_seqItems hI rfl ?_)
  show wpAny _ _ (Builtin.SmallTypes.ownedTupleIsFree (.ref z) >>= _) _ _ s
  refine wpAny_bind ?_
  unfold
    Builtin.SmallTypes.ownedTupleIsFree
  refine wpAny_bind (wpAny_field hz rfl (x := .none) rfl (wpAny_pure ?_))
  simp only [if_true]
  refine wpAny_bind (wpAny_rule ?_)
  refine wpAny_bind (wpAny_field hz rfl (x := .ref TO) rfl ?_)
  refine wpAny_bind (wpAny_setField_rec hz (by simp) fun g1 zz1 b1 => ?_)
  replace zz1 : IsZip g1 z TI TO .ellipsis := zz1
  refine wpAny_bind ?_
  simp only [List.zipIdx_cons, List.zipIdx_nil,
    List.forIn_cons, List.forIn_nil]
  refine wpAny_bind (wpAny_bind (wpAny_onRaise ?_))
  show wpAny _ _ (Builtin.SmallTypes.nextOf (.ref i1) >>= _) _ _ { s with heap := g1 }
  refine wpAny_bind (F1.next (s := { s with heap := g1 }) (k1 b1 D.i1z D.l1z h1) hx fun g2 p1 b2 => wpAny_pure ?_)
  have O2 : IsPair g2 TO a b := b2.extBut _ _ D.TOi1 (b1.extBut _ _ D.TOz hO)
  refine wpAny_bind (wpAny_seqItems O2 rfl ?_)
  refine wpAny_bind (wpAny_updateSeq_pair O2 fun g3 O3 b3 => ?_)
  replace O3 : IsPair g3 TO x b := O3
  refine wpAny_bind (wpAny_letGo (wpAny_pure ?_))
  refine wpAny_bind (wpAny_bind (wpAny_onRaise ?_))
  show wpAny _ _ (Builtin.SmallTypes.nextOf (.ref i2) >>= _) _ _ { s with heap := g3 }
  refine wpAny_bind (F2.next (s := { s with heap := g3 }) (k2 b3 D.TOi2.symm D.l2TO (k2 b2 D.i12.symm D.l2i1 (k2 b1 D.i2z D.l2z h2))) hy fun g4 p2 b4 => wpAny_pure ?_)
  have O4 : IsPair g4 TO x b := b4.extBut _ _ D.TOi2 O3
  refine wpAny_bind (wpAny_seqItems O4 rfl ?_)
  refine wpAny_bind (wpAny_updateSeq_pair O4 fun g5 O5 b5 => ?_)
  replace O5 : IsPair g5 TO x y := O5
  refine wpAny_bind (wpAny_letGo (wpAny_pure (wpAny_pure ?_)))
  refine wpAny_bind (wpAny_seqItems O5 rfl ?_)
  refine wpAny_bind (wpAny_newTuple ?_)
  have sz : g5.objs.size = s.heap.objs.size := by rw [b5.1, b4.1, b3.1, b2.1, b1.1]
  have zz5 : IsZip g5 z TI TO .ellipsis := b5.extBut _ _ D.TOz.symm (b4.extBut _ _ D.i2z.symm (b3.extBut _ _ D.TOz.symm (b2.extBut _ _ D.i1z.symm zz1)))
  have kk : Zk z TO i1 i2 s.heap g5 := fun c o c1 c2 c3 c4 e => b5.extBut _ _ c2 (b4.extBut _ _ c4 (b3.extBut _ _ c2 (b2.extBut _ _ c3 (b1.extBut _ _ c1 e))))
  have q1 : s1 g5 (m + 1) := k1 b5 D.TOi1.symm D.l1TO (k1 b4 D.i12 D.l1i2 (k1 b3 D.TOi1.symm D.l1TO p1))
  have q2 : s2 g5 (n + 1) := k2 b5 D.TOi2.symm D.l2TO p2
  have zlt : z < g5.objs.size := Heap.lt_size zz5
  show wpAny _ _ (Builtin.SmallTypes.ownedTupleHandOut (.ref z) (.ref g5.objs.size) >>= _) _ _ _
  refine wpAny_bind ?_
  unfold
    Builtin.SmallTypes.ownedTupleHandOut
  have zz6 : IsZip (g5.push { cls := .type "tuple", data := .seq #[x, y] }) z TI TO .ellipsis := Heap.get?_push_of_some _ zz5
  refine wpAny_bind (wpAny_setField_rec zz6 (by simp) fun g7 zz7 b7 => ?_)
  replace zz7 : IsZip g7 z TI TO (rawInt g5.objs.size) := zz7
  refine wpAny_setField_rec zz7 (by simp) fun g8 zz8 b8 => ?_
  replace zz8 : IsZip g8 z TI TO (rawInt g5.objs.size) := zz8
  have up : ∀ c o, c ≠ z → g5.get? c = some o → g8.get? c = some o := fun c o c1 e => b8.extBut _ _ c1 (b7.extBut _ _ c1 (Heap.get?_push_of_some _ e))
  have T8 : IsPair g8 g5.objs.size x y := b8.extBut _ _ (Nat.ne_of_gt zlt) (b7.extBut _ _ (Nat.ne_of_gt zlt) (Heap.get?_push_size _ rfl))
  have sz8 : g8.objs.size = g5.objs.size + 1 := by rw [b8.1, b7.1, Heap.size_push]
  rw [sz] at zz8 T8 sz8
  refine wpAny_pure ⟨_, rfl, ?_⟩
  show Q (.ref g5.objs.size) _
  rw [sz]
  exact hQ g8 zz8 (up _ _ D.TOz O5) (F1.keep (fun c hc o e => up c o (by rcases hc with rfl | rfl; exact D.i1z; exact D.l1z) e) q1) (F2.keep (fun c hc o e => up c o (by rcases hc with rfl | rfl; exact D.i2z; exact D.l2z) e) q2) T8 sz8 fun c o c1 c2 c3 c4 e => up c o c1 (kk c o c1 c2 c3 c4 e)
theorem fzip_end {Q : Fin → Shared → Prop} (hh : A.handled = none) (F1 : Fed prog w i1 l1 xs s1) (F2 : Fed prog w i2 l2 ys s2) (D : ZipApart z TI TO i1 i2 l1 l2)
    (hz : IsZip s.heap z TI TO .none) (hI : IsPair s.heap TI (.ref i1) (.ref i2)) (hO : IsPair s.heap TO a b) (h1 : s1 s.heap m) (h2 : s2 s.heap n) (hend : xs[m]? = none ∨ ys[n]? = none)
    (hE : ∀ g e, Zk z TO i1 i2 s.heap g → (∃ o, g.get? e = some o ∧ o.cls = .type "StopIteration") → E (.ref e) { s with heap := g }) :
    wpAny (model prog w) A (Builtin.«zip.__next__» ⟨[.ref z], []⟩) Q E s := by
  have k1 : ∀ {c : Addr} {h g : Heap} {k : Nat}, Heap.SameBut c h g → i1 ≠ c → l1 ≠ c → s1 h k → s1 g k := fun sb n1 n2 st => F1.keep (fun d hd o e => sb.extBut _ _ (by rcases hd with rfl | rfl <;> assumption) e) st
  have k2 : ∀ {c : Addr} {h g : Heap} {k : Nat}, Heap.SameBut c h g → i2 ≠ c → l2 ≠ c → s2 h k → s2 g k := fun sb n1 n2 st => F2.keep (fun d hd o e => sb.extBut _ _ (by rcases hd with rfl | rfl <;> assumption) e) st
  show wpAny _ _ (field (.ref z) 2 >>= _) _ _ s
  refine wpAny_bind (wpAny_field hz rfl (x := .bool false) rfl ?_)
  show wpAny _ _ (field (.ref z) 3 >>= _) _ _ s
  refine wpAny_bind (wpAny_field hz rfl (x := .ref TI) rfl ?_)
  refine wpAny_bind (wpAny_seqItems hI rfl ?_)
  show wpAny _ _ (Builtin.SmallTypes.ownedTupleIsFree (.ref z) >>= _) _ _ s
  refine wpAny_bind ?_
  unfold
    Builtin.SmallTypes.ownedTupleIsFree
  refine wpAny_bind (wpAny_field hz rfl (x := .none) rfl (wpAny_pure ?_))
  simp only [if_true]
  refine wpAny_bind (wpAny_rule ?_)
  refine wpAny_bind (wpAny_field hz rfl (x := .ref TO) rfl ?_)
  refine wpAny_bind (wpAny_setField_rec hz (by simp) fun g1 zz1 b1 => ?_)
  replace zz1 : IsZip g1 z TI TO .ellipsis := zz1
  refine wpAny_bind ?_
  simp only [List.zipIdx_cons, List.zipIdx_nil,
    List.forIn_cons, List.forIn_nil]
  refine wpAny_bind (wpAny_bind (wpAny_onRaise ?_))
  show wpAny _ _ (Builtin.SmallTypes.nextOf (.ref i1) >>= _) _ _ { s with heap := g1 }
  cases hx : xs[m]? with
  | none =>
    refine wpAny_bind (F1.fin (s := { s with heap := g1 }) hh (k1 b1 D.i1z D.l1z h1) hx fun g2 e b2 ex => ?_)
    obtain ⟨oe, he, hc⟩ := ex
    have zz2 : IsZip g2 z TI TO .ellipsis := b2 _ _ D.i1z.symm zz1
    have ez : e ≠ z := fun q => by
      subst q
      rw [zz2] at he
      cases he
      simp at hc
    refine wpAny_setField_rec zz2 (by simp) fun g3 _ b3 => ?_
    exact hE g3 e (fun c o c1 _ c3 _ q => b3.extBut _ _ c1 (b2 _ _ c3 (b1.extBut _ _ c1 q))) ⟨oe, b3.extBut _ _ ez he, hc⟩
  | some x =>
    have hy : ys[n]? = none := hend.resolve_left (by rw [hx]; exact fun q => nomatch q)
    refine wpAny_bind (F1.next (s := { s with heap := g1 }) (k1 b1 D.i1z D.l1z h1) hx fun g2 p1 b2 => wpAny_pure ?_)
    have O2 : IsPair g2 TO a b := b2.extBut _ _ D.TOi1 (b1.extBut _ _ D.TOz hO)
    refine wpAny_bind (wpAny_seqItems O2 rfl ?_)
    refine wpAny_bind (wpAny_updateSeq_pair O2 fun g3 O3 b3 => ?_)
    refine wpAny_bind (wpAny_letGo (wpAny_pure ?_))
    refine wpAny_bind (wpAny_bind (wpAny_onRaise ?_))
    show wpAny _ _ (Builtin.SmallTypes.nextOf (.ref i2) >>= _) _ _ { s with heap := g3 }
    refine wpAny_bind (F2.fin (s := { s with heap := g3 }) hh (k2 b3 D.TOi2.symm D.l2TO (k2 b2 D.i12.symm D.l2i1 (k2 b1 D.i2z D.l2z h2))) hy fun g4 e b4 ex => ?_)
    obtain ⟨oe, he, hc⟩ := ex
    have zz4 : IsZip g4 z TI TO .ellipsis := b4 _ _ D.i2z.symm (b3.extBut _ _ D.TOz.symm (b2.extBut _ _ D.i1z.symm zz1))
    have ez : e ≠ z := fun q => by
      subst q
      rw [zz4] at he
      cases he
      simp at hc
    refine wpAny_setField_rec zz4 (by simp) fun g5 _ b5 => ?_
    exact hE g5 e (fun c o c1 c2 c3 c4 q => b5.extBut _ _ c1 (b4 _ _ c4 (b3.extBut _ _ c2 (b2.extBut _ _ c3 (b1.extBut _ _ c1 q))))) ⟨oe, b5.extBut _ _ ez he, hc⟩
theorem py_fzip {Q : Option Value → Shared → Prop} (F1 : Fed prog w i1 l1 xs s1) (F2 : Fed prog w i2 l2 ys s2) (D : ZipApart z TI TO i1 i2 l1 l2)
    (hz : IsZip s.heap z TI TO .none) (hI : IsPair s.heap TI (.ref i1) (.ref i2)) (hO : IsPair s.heap TO a b) (h1 : s1 s.heap m) (h2 : s2 s.heap n) (hx : xs[m]? = some x) (hy : ys[n]? = some y)
    (hQ : ∀ g, IsZip g z TI TO (rawInt s.heap.objs.size) → IsPair g TO x y → s1 g (m + 1) → s2 g (n + 1) → IsPair g s.heap.objs.size x y → g.objs.size = s.heap.objs.size + 1 → Zk z TO i1 i2 s.heap g → Q (some (.ref s.heap.objs.size)) { s with heap := g }) :
    wpAny (model prog w) A (pyNext (.ref z)) Q E s := by
  have ty : s.TypeIs (.ref z) "zip" := ⟨_, hz, rfl⟩
  unfold pyNext
  refine wpAny_bind (wpAny_attempt (wpAny_callSpecial?_slot (name := Str.ofString "__next__") ty F.slot_zip_next ?_))
  refine wpAny_call_entry F.slot_zip_next ty F.entry_zip_next ?_ (F.args_zip_next_1 _)
  exact fzip_next F1 F2 D hz hI hO h1 h2 hx hy fun g a1 a2 a3 a4 a5 a6 a7 => wpAny_pure (hQ g a1 a2 a3 a4 a5 a6 a7)
theorem py_fzip_end {Q : Option Value → Shared → Prop} (hh : A.handled = none) (F1 : Fed prog w i1 l1 xs s1) (F2 : Fed prog w i2 l2 ys s2) (D : ZipApart z TI TO i1 i2 l1 l2)
    (hz : IsZip s.heap z TI TO .none) (hI : IsPair s.heap TI (.ref i1) (.ref i2)) (hO : IsPair s.heap TO a b) (h1 : s1 s.heap m) (h2 : s2 s.heap n) (hend : xs[m]? = none ∨ ys[n]? = none)
    (hQ : ∀ g, Zk z TO i1 i2 s.heap g → Q none { s with heap := g }) : wpAny (model prog w) A (pyNext (.ref z)) Q E s := by
  have ty : s.TypeIs (.ref z) "zip" := ⟨_, hz, rfl⟩
  unfold pyNext
  refine wpAny_bind (wpAny_attempt (wpAny_callSpecial?_slot (name := Str.ofString "__next__") ty F.slot_zip_next ?_))
  refine wpAny_call_entry F.slot_zip_next ty F.entry_zip_next ?_ (F.args_zip_next_1 _)
  refine fzip_end hh F1 F2 D hz hI hO h1 h2 hend fun g e hk he => ?_
  obtain ⟨o, ho, hc⟩ := he
  refine wpAny_bind (wpAny_isInstance (T := "StopIteration") (b := true) ⟨o, ho, hc⟩ isSubtype_stop ?_)
  exact wpAny_pure (hQ _ hk)
end
/-! ### zip(list, tuple) -/
abbrev zlt1 (h : Heap) (l : Addr) : Heap := h.push { cls := .type "list_iterator", data := .fields #[.ref l, .int 0 0] }
abbrev zlt2 (h : Heap) (l t : Addr) : Heap := (zlt1 h l).push { cls := .type "tuple_iterator", data := .fields #[.ref t, .int 0 0] }
abbrev zlt3 (h : Heap) (l t : Addr) : Heap := (zlt2 h l t).push { cls := .type "tuple", data := .seq #[.ref h.objs.size, .ref (zlt1 h l).objs.size] }
abbrev zlt4 (h : Heap) (l t : Addr) : Heap := (zlt3 h l t).push { cls := .type "tuple", data := .seq #[.none, .none] }
abbrev zlt5 (h : Heap) (l t : Addr) : Heap := (zlt4 h l t).push { cls := .type "zip", data := .fields #[.none, .bool false, .bool false, .ref (zlt2 h l t).objs.size, .ref (zlt3 h l t).objs.size] }
theorem meets_zlt (l t : Addr) (xs ys : Array Value) :
    Meets (Builtin.«zip.__new__» ⟨[.type "zip", .ref l, .ref t], []⟩) (fun _ R s => s.heap.IsList l xs ∧ s.heap.IsTuple t ys ∧ R (.ok (.ret (.ref (zlt4 s.heap l t).objs.size))) { s with heap := zlt5 s.heap l t }) :=
  .of_wp fun prog w A R s h => by
    obtain ⟨hp, g, d, tk, os⟩ := s
    obtain ⟨q1, q2, h⟩ := h
    have hsub := sub_zip
    have hA : Heap.IsList (Shared.heap ⟨hp, g, d, tk, os⟩) l xs := q1
    have hB : Heap.IsTuple (Shared.heap ⟨hp.push { cls := .type "list_iterator", data := .fields #[.ref l, .int 0 0] }, g, d, tk, os⟩) t ys := Heap.IsTuple.push q2 _
    wp_walk using wpAny_pyIter_list hA, wpAny_pyIter_tuple hB
    exact ⟨_, rfl, h⟩
section
variable {prog : Program} {w : World} {A : Around} {E : Value → Shared → Prop} {s : Shared}
theorem call_zlt {l t : Addr} {xs ys : Array Value} {Q : Value → Shared → Prop} (q1 : s.heap.IsList l xs) (q2 : s.heap.IsTuple t ys)
    (h : ∀ g, IsZip g (s.heap.objs.size + 4) (s.heap.objs.size + 2) (s.heap.objs.size + 3) .none → IsPair g (s.heap.objs.size + 2) (.ref s.heap.objs.size) (.ref (s.heap.objs.size + 1)) →
      IsPair g (s.heap.objs.size + 3) .none .none → g.IsListIter s.heap.objs.size l 0 → g.IsTupleIter (s.heap.objs.size + 1) t 0 → (∀ c o, s.heap.get? c = some o → g.get? c = some o) → Q (.ref (s.heap.objs.size + 4)) { s with heap := g }) :
    wpAny (model prog w) A (call (.type "zip") [.ref l, .ref t]) Q E s := by
  have made := meets_zlt l t xs ys
  refine callType_new F.called_zip (by decide) (F.typeCall_zip_2 _ _) (F.newCall_zip_2 _ _) (fun obj => F.args_object_init_3 obj _ _) F.entry_zip_new made ⟨q1, q2, ?_⟩
  have e1 : (zlt1 s.heap l).objs.size = s.heap.objs.size + 1 := Heap.size_push ..
  have e2 : (zlt2 s.heap l t).objs.size = s.heap.objs.size + 2 := by rw [Heap.size_push, e1]
  have e3 : (zlt3 s.heap l t).objs.size = s.heap.objs.size + 3 := by rw [Heap.size_push, e2]
  have e4 : (zlt4 s.heap l t).objs.size = s.heap.objs.size + 4 := by rw [Heap.size_push, e3]
  have p5 : (zlt5 s.heap l t).get? (zlt4 s.heap l t).objs.size = some _ := Heap.get?_push_size _ rfl
  have p4 : (zlt5 s.heap l t).get? (zlt3 s.heap l t).objs.size = some _ := Heap.get?_push_of_some _ (Heap.get?_push_size _ rfl)
  have up4 : ∀ {c o}, (zlt3 s.heap l t).get? c = some o → (zlt5 s.heap l t).get? c = some o := fun q => Heap.get?_push_of_some _ (Heap.get?_push_of_some _ q)
  have p3 : (zlt5 s.heap l t).get? (zlt2 s.heap l t).objs.size = some _ := up4 (Heap.get?_push_size _ rfl)
  have p2 : (zlt5 s.heap l t).get? (zlt1 s.heap l).objs.size = some _ := up4 (Heap.get?_push_of_some _ (Heap.get?_push_size _ rfl))
  have p1 : (zlt5 s.heap l t).get? s.heap.objs.size = some _ := up4 (Heap.get?_push_of_some _ (Heap.get?_push_of_some _ (Heap.get?_push_size _ rfl)))
  show _ ∧ _
  rw [e2, e3, e4] at p5
  rw [e3] at p4
  rw [e1, e2] at p3
  rw [e1] at p2
  rw [e4]
  exact ⟨⟨_, p5, rfl⟩, h _ p5 p3 p4 ⟨_, p1, rfl, rfl⟩ ⟨_, p2, rfl, rfl⟩ fun c o q => up4 (Heap.get?_push_of_some _ (Heap.get?_push_of_some _ (Heap.get?_push_of_some _ q)))⟩
end
/-- the list at a and the tuple at b as they stand at each turn -/
def ItzM (K : PySem.W.Frag) (a b : Addr) : It :=
  ⟨fun i H => ∃ (xs ys : List V) (x y : V), SqL K H a xs ∧ SqT K H b ys ∧ xs[i]? = some x ∧ ys[i]? = some y,
    fun i H v H' => ∃ T x y, v = .ref T ∧ H T = none ∧ H' = upd H T (.tup [x, y]) ∧ (∀ xs, SqL K H a xs → xs[i]? = some x) ∧ ∀ ys, SqT K H b ys → ys[i]? = some y,
    fun i H => ∃ xs ys : List V, SqL K H a xs ∧ SqT K H b ys ∧ (xs.length ≤ i ∨ ys.length ≤ i)⟩
theorem five {c z TI TO i1 i2 : Addr} (h : c ∈ [z, TI, TO, i1, i2]) : c = z ∨ c = TI ∨ c = TO ∨ c = i1 ∨ c = i2 := by simpa using h
theorem turn_zipM {P : Program} {w : World} {K : PySem.W.Frag} {elts : List Expr} {kk : Nat} {tpos : Pos} {a b z TI TO i1 i2 : Addr} (D : ZipApart z TI TO i1 i2 a b) :
    L2.Turn P w K (.Tuple elts kk tpos) (ItzM K a b) [z, TI, TO, i1, i2] z (fun i h => IsZip h z TI TO .none ∧ IsPair h TI (.ref i1) (.ref i2) ∧ (∃ x y, IsPair h TO x y) ∧ h.IsListIter i1 a i ∧ h.IsTupleIter i2 b i) where
  mem := List.mem_cons_self
  obj := fun i h st c hc => by
    obtain ⟨w1, w2, ⟨x, y, w3⟩, ⟨o1, u1, _, v1⟩, ⟨o2, u2, _, v2⟩⟩ := st
    rcases five hc with rfl | rfl | rfl | rfl | rfl
    · exact ⟨_, w1, fun v => nofun⟩
    · exact ⟨_, w2, fun v => nofun⟩
    · exact ⟨_, w3, fun v => nofun⟩
    · exact ⟨o1, u1, fun v q => by rw [v1] at q; exact nomatch q⟩
    · exact ⟨o2, u2, fun v q => by rw [v2] at q; exact nomatch q⟩
  keep := fun i h g st k => by
    obtain ⟨w1, w2, ⟨x, y, w3⟩, w4, w5⟩ := st
    exact ⟨k _ (by simp) _ w1, k _ (by simp) _ w2, ⟨x, y, k _ (by simp) _ w3⟩, w4.at (k _ (by simp)), w5.at (k _ (by simp))⟩
  item := by
    intro X rP rw' rK calm i pins s σ H E I hf st hg
    subst rP rw' rK
    obtain ⟨w1, w2, ⟨x0, y0, w3⟩, w4, w5⟩ := st
    obtain ⟨xs, ys, x, y, qx, qy, hx, hy⟩ := hg
    obtain ⟨us, rv, pu, _⟩ := I.list qx
    obtain ⟨vs, rv2, pv, _⟩ := I.tuple qy
    obtain ⟨u, hu, ru⟩ := rv.get hx
    obtain ⟨v, hv, rv3⟩ := rv2.get hy
    have zlt : z < s.heap.objs.size := Heap.lt_size w1
    refine py_fzip (fed_list D.l1i1) (fed_tuple D.l2i2) D w1 w2 w3 ⟨w4, pu.isList⟩ ⟨w5, pv⟩ (x := u) (y := v) (by simpa using hu) (by simpa using hv) fun g zz OO f1 f2 TT szz kk => ?_
    refine ⟨_, rfl, wpAny_letOwnedTupleGo_zip (s := { s with heap := g }) zz fun g' zz' sb => ?_⟩
    have T2 : g'.get? s.heap.objs.size = some { cls := .type "tuple", data := .seq #[u, v] } := (sb.2 _ (Nat.ne_of_gt zlt)).trans TT
    have new : ObjOk X.prog X.w (upd H s.heap.objs.size (.tup [x, y])) g' s.heap.objs.size (.tup [x, y]) := ⟨by show 2 ≤ sizeLine; decide, [u, v], .cons ru (.cons rv3 .nil), ⟨_, T2, rfl, _, rfl⟩⟩
    have out : ∀ c o, c ∉ [z, TI, TO, i1, i2] → s.heap.get? c = some o → g'.get? c = some o := fun c o nb q => by
      have n1 : c ≠ z := fun q' => nb (by simp [q'])
      have n2 : c ≠ TO := fun q' => nb (by simp [q'])
      have n3 : c ≠ i1 := fun q' => nb (by simp [q'])
      have n4 : c ≠ i2 := fun q' => nb (by simp [q'])
      exact (sb.2 c n1).trans (kk c o n1 n2 n3 n4 q)
    have I1 : Inv X pins σ (upd H s.heap.objs.size (.tup [x, y])) { s with heap := g' } := I.turnedNew (t' := s.toks) (ch := [z, TI, TO, i1, i2]) (fun c o hb q => out c o hb q) hf (Nat.le_refl _) new
    refine ⟨.ref s.heap.objs.size, _, I1, rfl, ⟨_, x, y, rfl, I.hok.fresh (Nat.le_refl _), rfl, fun l hl => by rw [I.list_inj hl qx]; exact hx, fun l hl => by rw [I.tuple_inj hl qy]; exact hy⟩, ⟨zz', ?_, ⟨u, v, ?_⟩, ?_, ?_⟩, fun c hc => ?_⟩
    · exact (sb.2 _ D.TIz).trans (kk _ _ D.TIz D.TITO D.TIi1 D.TIi2 w2)
    · exact (sb.2 _ D.TOz).trans OO
    · exact f1.1.at fun o q => (sb.2 _ D.i1z).trans q
    · exact f2.1.at fun o q => (sb.2 _ D.i2z).trans q
    · have lt : c < s.heap.objs.size := by
        rcases five hc with rfl | rfl | rfl | rfl | rfl
        · exact zlt
        · exact Heap.lt_size w2
        · exact Heap.lt_size w3
        · obtain ⟨_, e, _⟩ := w4; exact Heap.lt_size e
        · obtain ⟨_, e, _⟩ := w5; exact Heap.lt_size e
      rw [upd_ne (Nat.ne_of_lt lt)]
      exact (hf c hc).1
  done := by
    intro X rP rw' rK calm i pins s σ H E I hf st hg
    subst rP rw' rK
    obtain ⟨w1, w2, ⟨x0, y0, w3⟩, w4, w5⟩ := st
    obtain ⟨xs, ys, qx, qy, hend⟩ := hg
    obtain ⟨us, rv, pu, _⟩ := I.list qx
    obtain ⟨vs, rv2, pv, _⟩ := I.tuple qy
    have n1 := rv.length
    have n2 := rv2.length
    have none' : us.toArray[i]? = none ∨ vs.toArray[i]? = none := hend.imp (fun q => by simp; omega) (fun q => by simp; omega)
    refine py_fzip_end (I.ok.hd calm) (fed_list D.l1i1) (fed_tuple D.l2i2) D w1 w2 w3 ⟨w4, pu.isList⟩ ⟨w5, pv⟩ none' fun g kk => ⟨rfl, ?_⟩
    refine I.turnedL (t' := s.toks) (ch := [z, TI, TO, i1, i2]) (fun c o nb q => ?_) hf
    exact kk c o (fun q' => nb (by simp [q'])) (fun q' => nb (by simp [q'])) (fun q' => nb (by simp [q'])) (fun q' => nb (by simp [q'])) q
  self := fun A i s Q E st h => wpAny_pyIter_zip st.1 h
def iZipM (K : PySem.W.Frag) (ta : TA) : TI := fun σ H R => ta σ H fun vs H1 => ∃ a b xs ys, vs = [.ref a, .ref b] ∧ SqL K H1 a xs ∧ SqT K H1 b ys ∧ R (ItzM K a b) H1
theorem pi_zipM {X : Cx} {e e2 : Expr} {ta : TA} {p pos tpos : Pos} {elts : List Expr} {kk : Nat} (hg : Gl X "zip") (hm : X.mg "zip" = none) (ha : PA X [e, e2] ta)
    (hs : starEach [e, e2] X.env = (false, eval e X.env) :: starEach [e2] X.env := by rfl) (hpl : (backTo pos (starEach [e2] X.env)).any (·.1) = false := by rfl) :
    PI X (.Tuple elts kk tpos) (.Call (.Name "zip" p) [e, e2] [] pos) (iZipM X.K ta) := by
  refine ⟨fun pins s σ H R I h => ?_⟩
  have args := ha.run pos pins s σ H _ I h
  refine Call_ (ld_blt I hg hm PyProof.Rows.boot_zip (PyProof.Rows.callWith_type1 (thn args fun us s1 ⟨vs, H1, I1, r1, q1⟩ => ?_) hs hpl))
  obtain ⟨a, b, xs, ys, rfl, qx, qy, q⟩ := q1
  obtain ⟨u1, u2, rfl, ra, rb⟩ := vals2 r1
  cases ra
  cases rb
  obtain ⟨its, rv, p1, _⟩ := I1.list qx
  obtain ⟨its2, rv2, p2, _⟩ := I1.tuple qy
  have lb : b < s1.heap.objs.size := by
    obtain ⟨o, e, _⟩ := p2
    exact Heap.lt_size e
  refine call_zlt p1.isList p2 fun g g1 g2 g3 g4 g5 kk => wpAny_pyIter_zip g1 ?_
  have I2 : Inv X pins σ H1 { s1 with heap := g } := I1.kept (t' := s1.toks) kk
  have n := s1.heap.objs.size
  refine ⟨s1.heap.objs.size + 4, [s1.heap.objs.size + 4, s1.heap.objs.size + 2, s1.heap.objs.size + 3, s1.heap.objs.size, s1.heap.objs.size + 1], _, _, H1, rfl, I2, turn_zipM (PySem.W.ktu_apart s1.heap.objs.size a b p1.lt lb), ⟨g1, g2, ⟨_, _, g3⟩, g4, g5⟩, fun c hc => ?_, q⟩
  have le : s1.heap.objs.size ≤ c := by rcases five hc with rfl | rfl | rfl | rfl | rfl <;> omega
  exact I1.fpOk le (I1.hok.fresh le)
theorem go_iZipM {K : PySem.W.Frag} {σ : L2.St} {H : Hp} {ta : TA} {R : It → Hp → Prop} (h : ta σ H fun vs H1 => ∃ a b xs ys, vs = [.ref a, .ref b] ∧ SqL K H1 a xs ∧ SqT K H1 b ys ∧ R (ItzM K a b) H1) : iZipM K ta σ H R := h
/-- for (x, y) in zip(list, tuple) of one length -/
theorem for_zipM {K : PySem.W.Frag} {a b : Addr} {xs ys : List V} {g : TG} {tb : TS} {D : Ends} {σ : L2.St} {H : Hp} (hl : xs.length = ys.length) (Pv : Nat → L2.St → Hp → Prop) (h0 : Pv 0 σ H) (hq : ∀ i σ H, Pv i σ H → SqL K H a xs ∧ SqT K H b ys)
    (hs : ∀ (i : Nat) (x y : V) (T : Addr) (σ : L2.St) (H : Hp), xs[i]? = some x → ys[i]? = some y → Pv i σ H → H T = none → g (.ref T) σ (upd H T (.tup [x, y])) fun σ2 H2 => tb { D with nx := Pv (i + 1), ct := Pv (i + 1), bk := D.nx } σ2 H2) (hd : ∀ σ H, Pv xs.length σ H → D.nx σ H) :
    ∃ W : Nat → Nat → L2.St → Hp → Prop, (∃ m, W 0 m σ H) ∧ ∀ i m σ H, W i m σ H →
      ((ItzM K a b).stop i H ∧ D.nx σ H) ∨ ((ItzM K a b).go i H ∧ ∃ N : L2.St → Hp → Prop, (∀ σ' H', N σ' H' → ∃ m', m' < m ∧ W (i + 1) m' σ' H') ∧ ∀ v H', (ItzM K a b).yld i H v H' → g v σ H' fun σ2 H2 => tb { D with nx := N, ct := N, bk := D.nx } σ2 H2) := by
  refine ⟨fun i m σ H => m + i = xs.length ∧ Pv i σ H, ⟨xs.length, rfl, h0⟩, ?_⟩
  rintro i m σ H ⟨hm, p⟩
  obtain ⟨qx, qy⟩ := hq i σ H p
  rcases Nat.lt_or_ge i xs.length with lt | ge
  · refine .inr ⟨⟨xs, ys, xs[i], ys[i]'(by omega), qx, qy, List.getElem?_eq_getElem lt, List.getElem?_eq_getElem _⟩, Pv (i + 1), fun σ' H' p' => ⟨m - 1, by omega, by omega, p'⟩, ?_⟩
    rintro v H' ⟨T, x, y, rfl, hT, rfl, f1, f2⟩
    exact hs i x y T σ H (f1 xs qx) (f2 ys qy) p hT
  · obtain rfl : i = xs.length := by omega
    exact .inl ⟨⟨xs, ys, qx, qy, .inl (Nat.le_refl _)⟩, hd σ H p⟩
/-- [e for x, y in zip(list, tuple)] of one length, behind the reading -/
theorem walkM {K : PySem.W.Frag} {a b : Addr} {xs ys : List V} {Q : Hp → Prop} {Bd : V → Hp → (Hp → Prop) → Prop} {H0 : Hp} (hl : xs.length = ys.length) (Pv : Nat → Hp → Prop) (h0 : Pv 0 H0) (hq : ∀ i H, Pv i H → SqL K H a xs ∧ SqT K H b ys)
    (hs : ∀ (i : Nat) x y (T : Addr) H, xs[i]? = some x → ys[i]? = some y → Pv i H → H T = none → Bd (.ref T) (upd H T (.tup [x, y])) (Pv (i + 1))) (hd : ∀ H, Pv xs.length H → Q H) :
    ∃ W : Nat → Nat → Hp → Prop, (∃ m, W 0 m H0) ∧ ∀ i m H, W i m H → ((ItzM K a b).stop i H ∧ Q H) ∨ ((ItzM K a b).go i H ∧ ∃ N : Hp → Prop, (∀ H', N H' → ∃ m', m' < m ∧ W (i + 1) m' H') ∧ ∀ x H', (ItzM K a b).yld i H x H' → Bd x H' N) := by
  refine ⟨fun i m H => m + i = xs.length ∧ Pv i H, ⟨xs.length, rfl, h0⟩, ?_⟩
  rintro i m H ⟨hm, p⟩
  obtain ⟨qx, qy⟩ := hq i H p
  rcases Nat.lt_or_ge i xs.length with lt | ge
  · refine .inr ⟨⟨xs, ys, xs[i], ys[i]'(by omega), qx, qy, List.getElem?_eq_getElem lt, List.getElem?_eq_getElem _⟩, Pv (i + 1), fun H' p' => ⟨m - 1, by omega, by omega, p'⟩, ?_⟩
    rintro v H' ⟨T, x, y, rfl, hT, rfl, f1, f2⟩
    exact hs i x y T H (f1 xs qx) (f2 ys qy) p hT
  · obtain rfl : i = xs.length := by omega
    exact .inl ⟨⟨xs, ys, qx, qy, .inl (Nat.le_refl _)⟩, hd H p⟩
end Gx

set_option Elab.async false
set_option linter.all false
set_option maxRecDepth 100000
set_option maxHeartbeats 4000000
/-! Own lemmas: enumerate of a tuple, in the way of LibZ. -/
namespace Gx
open PySem PySem.Spec PyProof.Rows L2
section
variable {prog : Program} {w : World} {A : Around} {E : Value → Shared → Prop} {s : Shared} {e it l : Addr} {i : Nat} {xs : Array Value} {x old : Value} {st : Heap → Nat → Prop}
/-- what stands outlasts but at the two places that a turn of enumerate writes -/
abbrev Ek (e it : Addr) (h g : Heap) : Prop := ∀ c o, c ≠ e → c ≠ it → h.get? c = some o → g.get? c = some o
theorem fenum_next {Q : Value → Shared → Prop} (F1 : Fed prog w it l xs st) (ne : e ≠ it) (nl : l ≠ e) (r0 : IsEnum s.heap e it i old) (h1 : st s.heap i) (hx : xs[i]? = some x)
    (hQ : ∀ g, IsEnumOut g e it ((i : Int) + 1) x s.heap.objs.size → st g (i + 1) → g.get? s.heap.objs.size = some { cls := .type "tuple", data := .seq #[.int i s.toks, x] } → Ek e it s.heap g → Q (.ref s.heap.objs.size) { s with heap := g, toks := s.toks + 1 }) :
    wpAny (model prog w) A (Builtin.«enumerate.__next__» ⟨[.ref e], []⟩) (fun fin t => ∃ v, fin = .done (.ret v) ∧ Q v t) E s := by
  have k1 : ∀ {h g : Heap} {k : Nat}, Heap.SameBut e h g → st h k → st g k := fun sb p => F1.keep (fun d hd o q => sb.extBut _ _ (by rcases hd with rfl | rfl; exact ne.symm; exact nl) q) p
  show wpAny _ _ (field (.ref e) 2 >>= _) _ _ s
  refine wpAny_bind (wpAny_field r0 rfl (x := .ref it) rfl ?_)
  refine wpAny_bind (F1.next h1 hx fun g1 p1 b1 => ?_)
  have r1 : IsEnum g1 e it i old := b1.extBut _ _ ne r0
  show wpAny _ _ (field (.ref e) 3 >>= _) _ _ { s with heap := g1 }
  refine wpAny_bind (wpAny_field r1 rfl (x := rawInt i) rfl ?_)
  show wpAny _ _ (field (.ref e) 4 >>= _) _ _ { s with heap := g1 }
  refine wpAny_bind (wpAny_field r1 rfl (x := .none) rfl ?_)
  show wpAny _ _ (mkInt i >>= _) _ _ { s with heap := g1 }
  refine wpAny_bind (wpAny_mkInt ?_)
  show wpAny _ _ (setField (.ref e) 3 (rawInt ((i : Int) + 1)) >>= _) _ _ { s with heap := g1, toks := s.toks + 1 }
  refine wpAny_bind (wpAny_setField_rec r1 (by simp) fun g2 r2 b2 => ?_)
  replace r2 : IsEnum g2 e it ((i : Int) + 1) old := r2
  show wpAny _ _ (setField (.ref e) 4 .none >>= _) _ _ { s with heap := g2, toks := s.toks + 1 }
  refine wpAny_bind (wpAny_setField_rec r2 (by simp) fun g3 r3 b3 => ?_)
  replace r3 : IsEnum g3 e it ((i : Int) + 1) old := r3
  show wpAny _ _ (newTuple [.int i s.toks, x] >>= _) _ _ { s with heap := g3, toks := s.toks + 1 }
  refine wpAny_bind (wpAny_newTuple ?_)
  have r4 : IsEnum (g3.push { cls := .type "tuple", data := .seq #[.int i s.toks, x] }) e it ((i : Int) + 1) old := Heap.get?_push_of_some _ r3
  have T4 : (g3.push { cls := .type "tuple", data := .seq #[.int i s.toks, x] }).get? g3.objs.size = some { cls := .type "tuple", data := .seq #[.int i s.toks, x] } := Heap.get?_push_size _ rfl
  have p3 : st g3 (i + 1) := k1 b3 (k1 b2 p1)
  have up3 : ∀ c o, c ≠ e → c ≠ it → s.heap.get? c = some o → g3.get? c = some o := fun c o c1 c2 q => b3.extBut _ _ c1 (b2.extBut _ _ c1 (b1.extBut _ _ c2 q))
  have lt : e < g3.objs.size := Heap.lt_size r3
  have sz : g3.objs.size = s.heap.objs.size := by rw [b3.1, b2.1, b1.1]
  show wpAny _ _ (Builtin.SmallTypes.ownedTupleIsFree (.ref e) >>= _) _ _ { s with heap := g3.push { cls := .type "tuple", data := .seq #[.int i s.toks, x] }, toks := s.toks + 1 }
  have p4 : ∀ c o, g3.get? c = some o → (g3.push { cls := .type "tuple", data := .seq #[.int i s.toks, x] }).get? c = some o := fun c o q => Heap.get?_push_of_some _ q
  generalize (g3.push { cls := .type "tuple", data := .seq #[.int i s.toks, x] }) = g4 at *
  refine wpAny_bind ?_
  unfold
    Builtin.SmallTypes.ownedTupleIsFree
  refine wpAny_bind (wpAny_field r4 rfl (x := .none) rfl (wpAny_pure ?_))
  simp only [if_true]
  refine wpAny_bind (wpAny_rule ?_)
  refine wpAny_bind (wpAny_field r4 rfl (x := old) rfl ?_)
  refine wpAny_bind (wpAny_setField_rec r4 (by simp) fun g5 r5 b5 => ?_)
  replace r5 : IsEnum g5 e it ((i : Int) + 1) x := r5
  show wpAny _ _ (Builtin.SmallTypes.ownedTupleHandOut (.ref e) (.ref g3.objs.size) >>= _) _ _ { s with heap := g5, toks := s.toks + 1 }
  refine wpAny_bind ?_
  unfold
    Builtin.SmallTypes.ownedTupleHandOut
  refine wpAny_bind (wpAny_setField_rec r5 (by simp) fun g6 r6 b6 => ?_)
  replace r6 : IsEnumOut g6 e it ((i : Int) + 1) x g3.objs.size := r6
  refine wpAny_setField_rec r6 (by simp) fun g7 r7 b7 => ?_
  replace r7 : IsEnumOut g7 e it ((i : Int) + 1) x g3.objs.size := r7
  have up : ∀ c o, c ≠ e → g4.get? c = some o → g7.get? c = some o := fun c o c1 q => b7.extBut _ _ c1 (b6.extBut _ _ c1 (b5.extBut _ _ c1 q))
  rw [sz] at r7 T4 lt
  refine wpAny_bind (wpAny_letGo (wpAny_pure ⟨_, rfl, ?_⟩))
  rw [sz]
  exact hQ g7 r7 (k1 b7 (k1 b6 (k1 b5 (F1.keep (fun d _ o q => p4 d o q) p3)))) (up _ _ (Nat.ne_of_gt lt) T4) fun c o c1 c2 q => up c o c1 (p4 c o (up3 c o c1 c2 q))
theorem py_fenum {Q : Option Value → Shared → Prop} (F1 : Fed prog w it l xs st) (ne : e ≠ it) (nl : l ≠ e) (r0 : IsEnum s.heap e it i old) (h1 : st s.heap i) (hx : xs[i]? = some x)
    (hQ : ∀ g, IsEnumOut g e it ((i : Int) + 1) x s.heap.objs.size → st g (i + 1) → g.get? s.heap.objs.size = some { cls := .type "tuple", data := .seq #[.int i s.toks, x] } → Ek e it s.heap g → Q (some (.ref s.heap.objs.size)) { s with heap := g, toks := s.toks + 1 }) :
    wpAny (model prog w) A (pyNext (.ref e)) Q E s := by
  have ty : s.TypeIs (.ref e) "enumerate" := ⟨_, r0, rfl⟩
  unfold pyNext
  refine wpAny_bind (wpAny_attempt (wpAny_callSpecial?_slot (name := Str.ofString "__next__") ty F.slot_enumerate_next ?_))
  refine wpAny_call_entry F.slot_enumerate_next ty F.entry_enumerate_next ?_ (F.args_enumerate_next_1 _)
  exact fenum_next F1 ne nl r0 h1 hx fun g a1 a2 a3 a4 => wpAny_pure (hQ g a1 a2 a3 a4)
theorem py_fenum_end {Q : Option Value → Shared → Prop} (hh : A.handled = none) (F1 : Fed prog w it l xs st) (r0 : IsEnum s.heap e it i old) (h1 : st s.heap i) (hx : xs[i]? = none)
    (hQ : ∀ g, Heap.ExtBut it s.heap g → Q none { s with heap := g }) : wpAny (model prog w) A (pyNext (.ref e)) Q E s := by
  have ty : s.TypeIs (.ref e) "enumerate" := ⟨_, r0, rfl⟩
  unfold pyNext
  refine wpAny_bind (wpAny_attempt (wpAny_callSpecial?_slot (name := Str.ofString "__next__") ty F.slot_enumerate_next ?_))
  refine wpAny_call_entry F.slot_enumerate_next ty F.entry_enumerate_next ?_ (F.args_enumerate_next_1 _)
  show wpAny _ _ (field (.ref e) 2 >>= _) _ _ s
  refine wpAny_bind (wpAny_field r0 rfl (x := .ref it) rfl ?_)
  refine wpAny_bind (F1.fin hh h1 hx fun g y b ex => ?_)
  obtain ⟨o, ho, hc⟩ := ex
  refine wpAny_bind (wpAny_isInstance (T := "StopIteration") (b := true) ⟨o, ho, hc⟩ isSubtype_stop ?_)
  exact wpAny_pure (hQ g b)
end
abbrev ent1 (h : Heap) (t : Addr) : Heap := h.push { cls := .type "tuple_iterator", data := .fields #[.ref t, .int 0 0] }
abbrev ent2 (h : Heap) (t : Addr) : Heap := (ent1 h t).push { cls := .type "enumerate", data := .fields #[.none, .bool false, .ref h.objs.size, rawInt 0, .none, .none] }
theorem meets_ent (t : Addr) (ys : Array Value) :
    Meets (Builtin.«enumerate.__new__» ⟨[.type "enumerate", .ref t], []⟩) (fun _ R s => s.heap.IsTuple t ys ∧ R (.ok (.ret (.ref (ent1 s.heap t).objs.size))) { s with heap := ent2 s.heap t }) :=
  .of_wp fun prog w A R s h => by
    obtain ⟨hp, g, d, tk, os⟩ := s
    obtain ⟨q1, h⟩ := h
    have hsub := sub_enumerate
    have hB : Heap.IsTuple (Shared.heap ⟨hp, g, d, tk, os⟩) t ys := q1
    obtain ⟨ob, hob, hrest⟩ := id q1
    wp_walk using AutoSeq1.wpAny_loadPart' hob
    refine wpAny_stack_any fun sk => wpAny_pure ?_
    split
    · rename_i c _ _ _ _ _
      cases (c == Value.type "enumerate")
      · wp_walk using AutoSeq1.wpAny_loadPart' hob, wpAny_pyIter_tuple hB
        exact ⟨_, rfl, h⟩
      · wp_walk using AutoSeq1.wpAny_loadPart' hob, wpAny_pyIter_tuple hB
        exact ⟨_, rfl, h⟩
    · wp_walk using AutoSeq1.wpAny_loadPart' hob, wpAny_pyIter_tuple hB
      exact ⟨_, rfl, h⟩
section
variable {prog : Program} {w : World} {A : Around} {E : Value → Shared → Prop} {s : Shared}
theorem call_ent {t : Addr} {ys : Array Value} {Q : Value → Shared → Prop} (q1 : s.heap.IsTuple t ys)
    (h : ∀ g, IsEnum g (s.heap.objs.size + 1) s.heap.objs.size 0 .none → g.IsTupleIter s.heap.objs.size t 0 → (∀ c o, s.heap.get? c = some o → g.get? c = some o) → Q (.ref (s.heap.objs.size + 1)) { s with heap := g }) :
    wpAny (model prog w) A (call (.type "enumerate") [.ref t]) Q E s := by
  have made := meets_ent t ys
  refine callType_new F.called_enumerate (by decide) (F.typeCall_enumerate_1 _) (F.newCall_enumerate_1 _) (fun obj => F.args_object_init_2 obj _) F.entry_enumerate_new made ⟨q1, ?_⟩
  have e1 : (ent1 s.heap t).objs.size = s.heap.objs.size + 1 := Heap.size_push ..
  have p2 : (ent2 s.heap t).get? (ent1 s.heap t).objs.size = some _ := Heap.get?_push_size _ rfl
  have p1 : (ent2 s.heap t).get? s.heap.objs.size = some _ := Heap.get?_push_of_some _ (Heap.get?_push_size _ rfl)
  show _ ∧ _
  rw [e1] at p2
  rw [e1]
  exact ⟨⟨_, p2, rfl⟩, h _ p2 ⟨_, p1, rfl, rfl⟩ fun c o q => Heap.get?_push_of_some _ (Heap.get?_push_of_some _ q)⟩
end
/-- the tuple at a, each item in a new pair -/
def IteT (K : PySem.W.Frag) (a : Addr) : It :=
  ⟨fun i H => ∃ (ys : List V) (y : V), SqT K H a ys ∧ ys[i]? = some y, fun i H v H' => ∃ T y, v = .ref T ∧ H T = none ∧ H' = upd H T (.tup [.int (i : Nat), y]) ∧ ∀ ys, SqT K H a ys → ys[i]? = some y, fun i H => ∃ ys : List V, SqT K H a ys ∧ ys.length ≤ i⟩
theorem turn_enumT {P : Program} {w : World} {K : PySem.W.Frag} {elts : List Expr} {kk : Nat} {tpos : Pos} {a e it : Addr} (n1 : a ≠ e) (n2 : a ≠ it) (n3 : e ≠ it) :
    L2.Turn P w K (.Tuple elts kk tpos) (IteT K a) [e, it] e (fun i h => (∃ old, IsEnum h e it ((i : Nat) : Int) old) ∧ h.IsTupleIter it a i) where
  mem := List.mem_cons_self
  obj := fun i h st c hc => by
    obtain ⟨⟨old, w1⟩, ⟨o1, u1, _, v1⟩⟩ := st
    rcases (show c = e ∨ c = it by simpa using hc) with rfl | rfl
    · exact ⟨_, w1, fun v => nofun⟩
    · exact ⟨o1, u1, fun v q => by rw [v1] at q; exact nomatch q⟩
  keep := fun i h g st k => by
    obtain ⟨⟨old, w1⟩, w2⟩ := st
    exact ⟨⟨old, k _ (by simp) _ w1⟩, w2.at (k _ (by simp))⟩
  item := by
    intro X rP rw' rK calm i pins s σ H E I hf st hg
    subst rP rw' rK
    obtain ⟨⟨old, w1⟩, w2⟩ := st
    obtain ⟨ys, y, qy, hy⟩ := hg
    obtain ⟨vs, rv, pv, _⟩ := I.tuple qy
    obtain ⟨u, hu, ru⟩ := rv.get hy
    have elt : e < s.heap.objs.size := Heap.lt_size w1
    refine py_fenum (fed_tuple n2) n3 n1 w1 ⟨w2, pv⟩ (x := u) (by simpa using hu) fun g out f1 TT kk => ?_
    refine ⟨_, rfl, wpAny_letOwnedTupleGo_enum (s := { s with heap := g, toks := s.toks + 1 }) out fun g' e' sb => ?_⟩
    have T2 : g'.get? s.heap.objs.size = some { cls := .type "tuple", data := .seq #[.int i s.toks, u] } := (sb.2 _ (Nat.ne_of_gt elt)).trans TT
    have new : ObjOk X.prog X.w (upd H s.heap.objs.size (.tup [.int (i : Nat), y])) g' s.heap.objs.size (.tup [.int (i : Nat), y]) := ⟨by show 2 ≤ sizeLine; decide, [.int i s.toks, u], .cons ⟨_, rfl⟩ (.cons ru .nil), ⟨_, T2, rfl, _, rfl⟩⟩
    have outs : ∀ c o, c ∉ [e, it] → s.heap.get? c = some o → g'.get? c = some o := fun c o nb q => by
      have m1 : c ≠ e := fun q' => nb (by simp [q'])
      have m2 : c ≠ it := fun q' => nb (by simp [q'])
      exact (sb.2 c m1).trans (kk c o m1 m2 q)
    have I1 : Inv X pins σ (upd H s.heap.objs.size (.tup [.int (i : Nat), y])) { s with heap := g', toks := s.toks + 1 } := I.turnedNew (ch := [e, it]) (fun c o hb q => outs c o hb q) hf (Nat.le_refl _) new
    refine ⟨.ref s.heap.objs.size, _, I1, rfl, ⟨_, y, rfl, I.hok.fresh (Nat.le_refl _), rfl, fun l hl => by rw [I.tuple_inj hl qy]; exact hy⟩, ⟨⟨u, ?_⟩, ?_⟩, fun c hc => ?_⟩
    · rw [show ((i + 1 : Nat) : Int) = (i : Int) + 1 by omega]
      exact e'
    · exact f1.1.at fun o q => (sb.2 _ n3.symm).trans q
    · have lt : c < s.heap.objs.size := by
        rcases (show c = e ∨ c = it by simpa using hc) with rfl | rfl
        · exact elt
        · obtain ⟨_, q, _⟩ := w2; exact Heap.lt_size q
      rw [upd_ne (Nat.ne_of_lt lt)]
      exact (hf c hc).1
  done := by
    intro X rP rw' rK calm i pins s σ H E I hf st hg
    subst rP rw' rK
    obtain ⟨⟨old, w1⟩, w2⟩ := st
    obtain ⟨ys, qy, hend⟩ := hg
    obtain ⟨vs, rv, pv, _⟩ := I.tuple qy
    have m1 := rv.length
    obtain ⟨f0, f1, f2, f3, f4, f5⟩ := hf it (by simp)
    exact py_fenum_end (I.ok.hd calm) (fed_tuple n2) w1 ⟨w2, pv⟩ (by simp; omega) fun g eb => ⟨rfl, I.turned (t' := s.toks) (fun b o hb q => eb b o hb q) f0 f1 f3 f4 f5⟩
  self := fun A i s Q E st h => let ⟨⟨_, w1⟩, _⟩ := st; wpAny_pyIter_enum w1 h
def iEnumT (K : PySem.W.Frag) (ta : TA) : TI := fun σ H R => ta σ H fun vs H1 => ∃ a ys, vs = [.ref a] ∧ SqT K H1 a ys ∧ R (IteT K a) H1
theorem pi_enumT {X : Cx} {e : Expr} {ta : TA} {p pos tpos : Pos} {elts : List Expr} {kk : Nat} (hg : Gl X "enumerate") (hm : X.mg "enumerate" = none) (ha : PA X [e] ta) (hs : starEach [e] X.env = [(false, eval e X.env)] := by rfl) :
    PI X (.Tuple elts kk tpos) (.Call (.Name "enumerate" p) [e] [] pos) (iEnumT X.K ta) := by
  refine ⟨fun pins s σ H R I h => ?_⟩
  have args := ha.run pos pins s σ H _ I h
  refine Call_ (ld_blt I hg hm boot_enumerate (PyProof.Rows.callWith_type1 (thn args fun us s1 ⟨vs, H1, I1, r1, q1⟩ => ?_) hs rfl))
  obtain ⟨a, ys, rfl, qy, q⟩ := q1
  obtain ⟨u1, rfl, ra⟩ : ∃ u, us = [u] ∧ RelV (.ref a) u := by
    cases r1 with
    | cons r rr =>
      cases rr
      exact ⟨_, rfl, r⟩
  cases ra
  obtain ⟨its, rv, p1, _⟩ := I1.tuple qy
  have la : a < s1.heap.objs.size := by
    obtain ⟨o, q', _⟩ := p1
    exact Heap.lt_size q'
  refine call_ent p1 fun g g1 g2 kk => wpAny_pyIter_enum g1 ?_
  have I2 : Inv X pins σ H1 { s1 with heap := g } := I1.kept (t' := s1.toks) kk
  refine ⟨s1.heap.objs.size + 1, [s1.heap.objs.size + 1, s1.heap.objs.size], _, _, H1, rfl, I2, turn_enumT (a := a) (Nat.ne_of_lt (Nat.lt_succ_of_lt la)) (Nat.ne_of_lt la) (Nat.succ_ne_self _), ⟨⟨.none, g1⟩, g2⟩, fun c hc => ?_, q⟩
  have le : s1.heap.objs.size ≤ c := by
    rcases (show c = s1.heap.objs.size + 1 ∨ c = s1.heap.objs.size by simpa using hc) with rfl | rfl <;> omega
  exact I1.fpOk le (I1.hok.fresh le)
theorem go_iEnumT {K : PySem.W.Frag} {σ : L2.St} {H : Hp} {ta : TA} {R : It → Hp → Prop} (h : ta σ H fun vs H1 => ∃ a ys, vs = [.ref a] ∧ SqT K H1 a ys ∧ R (IteT K a) H1) : iEnumT K ta σ H R := h
/-- for (i, x) in enumerate(a tuple), behind the reading -/
theorem foEnT {K : PySem.W.Frag} {σ : L2.St} {H1 : Hp} {g : TG} {D : Ends} {tb : TS} {a : Addr} (xs : List V) (Pv : Nat → L2.St → Hp → Prop) (h0 : Pv 0 σ H1) (hl : ∀ i σ H, i ≤ xs.length → Pv i σ H → SqT K H a xs)
    (hs : ∀ (i : Nat) x T σ H, xs[i]? = some x → Pv i σ H → H T = none → g (.ref T) σ (upd H T (.tup [.int (i : Nat), x])) fun σ2 H2 => tb { D with nx := Pv (i + 1), ct := Pv (i + 1), bk := D.nx } σ2 H2)
    (hd : ∀ σ H, Pv xs.length σ H → D.nx σ H) :
    ∃ W : Nat → Nat → L2.St → Hp → Prop, (∃ m, W 0 m σ H1) ∧ ∀ i m σ H, W i m σ H →
      ((IteT K a).stop i H ∧ D.nx σ H) ∨ ((IteT K a).go i H ∧ ∃ N : L2.St → Hp → Prop, (∀ σ' H', N σ' H' → ∃ m', m' < m ∧ W (i + 1) m' σ' H') ∧ ∀ x H', (IteT K a).yld i H x H' → g x σ H' fun σ2 H2 => tb { D with nx := N, ct := N, bk := D.nx } σ2 H2) := by
  refine ⟨fun i m σ H => i ≤ xs.length ∧ m + i = xs.length ∧ Pv i σ H, ⟨xs.length, Nat.zero_le _, rfl, h0⟩, ?_⟩
  rintro i m σ H ⟨hi, hm, hp⟩
  have here := hl i σ H hi hp
  rcases Nat.lt_or_ge i xs.length with h | h
  · refine .inr ⟨⟨xs, xs[i], here, List.getElem?_eq_getElem h⟩, Pv (i + 1), fun σ' H' hp' => ⟨m - 1, by omega, by omega, by omega, hp'⟩, ?_⟩
    rintro x H' ⟨T, y, rfl, hT, rfl, at_⟩
    exact hs i y T σ H (at_ xs here) hp hT
  · obtain rfl : i = xs.length := by omega
    exact .inl ⟨⟨xs, here, Nat.le_refl _⟩, hd σ H hp⟩
end Gx

local macro_rules | `(tactic| walk_at "side") => `(tactic| first | decide | omega | assumption | exact Or.inl ⟨by decide, by decide⟩ | exact Or.inr ⟨by decide, by decide⟩ | exact Or.inl ⟨by omega, by omega⟩ | exact Or.inr ⟨by omega, by omega⟩ | (refine ⟨?_, ?_⟩ <;> first | decide | omega | assumption))
local macro_rules | `(tactic| walk_at "go1") => `(tactic| first
  | with_reducible refine Gx.go_seq ?_
  | with_reducible refine Gx.go_asg ?_
  | with_reducible refine Gx.go_name ?_
  | with_reducible refine Gx.go_var rfl ?_
  | with_reducible refine Gx.go_c ?_
  | with_reducible refine Gx.go_op ?_
  | with_reducible refine Gx.go_rI0 ?_
  | ((with_reducible refine Gx.go_rI ?k1 ?k2); (case k1 => walk_at "side"))
  | with_reducible refine Gx.go_test ?_
  | with_reducible refine Gx.go_if ?_
  | with_reducible refine Gx.go_cons ?_
  | with_reducible refine Gx.go_nil ?_
  | with_reducible refine Gx.go_CB ?_
  | with_reducible refine Gx.go_call ?_
  | with_reducible refine Gx.go_eqI ?_
  | with_reducible refine Gx.go_neI ?_
  | with_reducible refine Gx.go_eqS ?_
  | with_reducible refine Gx.go_neS ?_
  | with_reducible refine Gx.go_eqB ?_
  | with_reducible refine Gx.go_neB ?_
  | with_reducible refine Gx.go_eqN ?_
  | with_reducible refine Gx.ite_dt ?_
  | with_reducible refine Gx.go_ret ?_
  | with_reducible refine Gx.go_retN ?_
  | with_reducible refine Gx.go_next ?_
  | with_reducible refine Gx.go_drop ?_
  | with_reducible refine Gx.go_un ?_
  | with_reducible refine Gx.go_rU ?_
  | with_reducible refine Gx.go_and ?_
  | with_reducible refine Gx.go_or ?_
  | with_reducible refine Gx.go_not ?_
  | with_reducible refine Gx.go_andV ?_
  | with_reducible refine Gx.go_orV ?_
  | with_reducible refine Gx.go_notV ?_
  | with_reducible refine Gx.go_blA ?_
  | with_reducible refine L2.iteT ?_
  | with_reducible refine L2.iteF ?_
  | with_reducible refine Gx.ite_nt ?_
  | with_reducible refine Gx.ite_nf ?_
  | with_reducible refine Gx.go_ifE ?_
  | with_reducible refine Gx.go_chain ?_
  | with_reducible refine Gx.go_B ?_
  | with_reducible refine Gx.go_int1 ?_
  | with_reducible refine Gx.go_intB ?_
  | with_reducible refine Gx.go_lst ?_
  | with_reducible refine Gx.go_tup ?_
  | with_reducible refine Gx.go_sl ?_
  | with_reducible refine Gx.go_noPart ?_
  | with_reducible refine Gx.go_part ?_
  | with_reducible refine Gx.go_partI ?_
  | with_reducible refine Gx.isi_int_int ?_
  | with_reducible refine Gx.isi_int_bool ?_
  | with_reducible refine Gx.isi_int_str ?_
  | with_reducible refine Gx.isi_int_list ?_
  | with_reducible refine Gx.isi_int_tuple ?_
  | with_reducible refine Gx.isi_bool_int ?_
  | with_reducible refine Gx.isi_bool_bool ?_
  | with_reducible refine Gx.isi_bool_str ?_
  | with_reducible refine Gx.isi_bool_list ?_
  | with_reducible refine Gx.isi_bool_tuple ?_
  | with_reducible refine Gx.isi_str_int ?_
  | with_reducible refine Gx.isi_str_bool ?_
  | with_reducible refine Gx.isi_str_str ?_
  | with_reducible refine Gx.isi_str_list ?_
  | with_reducible refine Gx.isi_str_tuple ?_
  | with_reducible refine Gx.isi_NoneType_int ?_
  | with_reducible refine Gx.isi_NoneType_bool ?_
  | with_reducible refine Gx.isi_NoneType_str ?_
  | with_reducible refine Gx.isi_NoneType_list ?_
  | with_reducible refine Gx.isi_NoneType_tuple ?_
  | with_reducible refine Gx.go_bool1 ?_
  | with_reducible refine Gx.go_boolB ?_
  | with_reducible refine Gx.go_abs ?_
  | with_reducible refine Gx.go_max2 ?_
  | with_reducible refine Gx.go_min2 ?_
  | with_reducible refine Gx.go_ord ?_
  | with_reducible refine Gx.go_isN0 ?_
  | with_reducible refine Gx.go_isNI ?_
  | with_reducible refine Gx.go_isNS ?_
  | with_reducible refine Gx.go_isNB ?_
  | with_reducible refine Gx.go_isNR ?_
  | with_reducible refine Gx.go_notN0 ?_
  | with_reducible refine Gx.go_notNI ?_
  | with_reducible refine Gx.go_notNS ?_
  | with_reducible refine Gx.go_notNB ?_
  | with_reducible refine Gx.go_notNR ?_
  | with_reducible refine Gx.go_ltS ?_
  | with_reducible refine Gx.go_leS ?_
  | with_reducible refine Gx.go_BM ?_
  | with_reducible refine Gx.go_BM0 ?_
  | with_reducible refine Gx.go_not_t ?_
  | with_reducible refine Gx.go_not_f ?_
  | with_reducible refine Gx.go_iList ?_
  | with_reducible refine Gx.go_iRng1 ?_
  | with_reducible refine Gx.go_iRng2 ?_
  | with_reducible refine Gx.go_lc ?_
  | with_reducible refine Gx.go_for ?_
  | with_reducible refine Gx.go_sub ?_
  | with_reducible refine Gx.go_setL2 (by with_unfolding_all rfl) ?_
  | with_reducible refine Gx.go_ixL2 (by with_unfolding_all rfl) ?_
  | with_reducible refine Gx.go_setL (by assumption) (by with_unfolding_all rfl) ?_
  | with_reducible refine Gx.go_ixL1 (by assumption) (by with_unfolding_all rfl) ?_
  | with_reducible refine Gx.go_ixT1 (by assumption) (by with_unfolding_all rfl) ?_
  | with_reducible refine Gx.go_M1 ?_
  | with_reducible refine Gx.go_M0 ?_
  | with_reducible refine Gx.go_isS ?_
  | with_reducible refine Gx.go_iStr ?_
  | with_reducible refine Gx.sq_list_int (by assumption) ?_
  | with_reducible refine Gx.sq_list_bool (by assumption) ?_
  | with_reducible refine Gx.sq_list_str (by assumption) ?_
  | with_reducible refine Gx.sq_list_list (by assumption) ?_
  | with_reducible refine Gx.sq_list_tuple (by assumption) ?_
  | with_reducible refine Gx.sq_tuple_int (by assumption) ?_
  | with_reducible refine Gx.sq_tuple_bool (by assumption) ?_
  | with_reducible refine Gx.sq_tuple_str (by assumption) ?_
  | with_reducible refine Gx.sq_tuple_list (by assumption) ?_
  | with_reducible refine Gx.sq_tuple_tuple (by assumption) ?_
  | with_reducible refine Gx.go_fld ?_
  | with_reducible refine Gx.go_rnum (by assumption) (by assumption) (by assumption) ?_
  | with_reducible refine Gx.go_rden (by assumption) (by assumption) (by assumption) ?_
  | with_reducible refine Gx.go_make ?_
  | with_reducible refine Gx.go_meth ?_
  | with_reducible refine Gx.go_sfld ?_
  | with_reducible refine Gx.go_own (by assumption) (by assumption) ?_
  | with_reducible refine Gx.go_uOwn (by assumption) ?_
  | with_reducible refine Gx.go_gcons ?_
  | with_reducible refine Gx.go_gnil ?_
  | with_reducible refine Gx.go_brk ?_
  | with_reducible refine Gx.go_cont ?_)
local macro_rules | `(tactic| walk_at "go") => `(tactic| repeat walk_at "go1")
local macro_rules | `(tactic| walk_at "br") => `(tactic| first
  | with_reducible refine Gx.ite_d ?_ ?_
  | with_reducible refine Gx.ite_nd ?_ ?_
  | with_reducible refine Gx.ite_b ?_ ?_)
local macro_rules | `(tactic| walk_at "go1") => `(tactic| first
  | with_reducible refine Gx.go_iRng3 ?_
  | with_reducible refine Gx.go_revL ?_)
local macro_rules | `(tactic| walk_at "go1") => `(tactic| first
  | with_reducible refine Gx.go_dnewN ?_)
local macro_rules | `(tactic| walk_at "go1") => `(tactic| first
  | with_reducible refine Gx.go_iTp ?_)
local macro_rules | `(tactic| walk_at "go1") => `(tactic| first
  | with_reducible refine Gx.go_iZipM ?_)
local macro_rules | `(tactic| walk_at "go1") => `(tactic| first
  | with_reducible refine Gx.go_iEnumT ?_)
namespace K35
open PySem PySem.Spec PyProof.Rows L2 Gx
def top (i : Nat) : Stmt := PySem.Challenge.pw_sureplay_k35_trees_that_do_not_remember.main.body.getD i (.Pass ⟨0, 0, 0, 0⟩)
abbrev s_End___init__ : Stmt := inClass (top 1) 0
abbrev s_Lot___init__ : Stmt := inClass (top 2) 0
abbrev s_Turn___init__ : Stmt := inClass (top 3) 0
abbrev s_last_row : Stmt := top 5
abbrev s__keeps : Stmt := top 6
abbrev s_remembers : Stmt := top 7
abbrev s__law_cell : Stmt := top 9
abbrev s__law_row : Stmt := top 11
abbrev s__law_stages : Stmt := top 12
abbrev s__law_paths : Stmt := top 13
abbrev s__law_view : Stmt := top 14
abbrev s__law_asked : Stmt := top 15
abbrev s__law_changed : Stmt := top 17
abbrev s__law_last : Stmt := top 18
abbrev s__law_keeps : Stmt := top 19
abbrev s__law_spoilt : Stmt := top 20
abbrev s__law_bool : Stmt := top 21
abbrev s_law : Stmt := top 22
/-- where the defs and classes stand -/
structure Ad where
  f_End___init__ : Addr
  d_End___init__ : FuncData
  f_Lot___init__ : Addr
  d_Lot___init__ : FuncData
  f_Turn___init__ : Addr
  d_Turn___init__ : FuncData
  f_last_row : Addr
  d_last_row : FuncData
  f__keeps : Addr
  d__keeps : FuncData
  f_remembers : Addr
  d_remembers : FuncData
  f__law_cell : Addr
  d__law_cell : FuncData
  f__law_row : Addr
  d__law_row : FuncData
  f__law_stages : Addr
  d__law_stages : FuncData
  f__law_paths : Addr
  d__law_paths : FuncData
  f__law_view : Addr
  d__law_view : FuncData
  f__law_asked : Addr
  d__law_asked : FuncData
  f__law_changed : Addr
  d__law_changed : FuncData
  f__law_last : Addr
  d__law_last : FuncData
  f__law_keeps : Addr
  d__law_keeps : FuncData
  f__law_spoilt : Addr
  d__law_spoilt : FuncData
  f__law_bool : Addr
  d__law_bool : FuncData
  f_law : Addr
  d_law : FuncData
  c_End : Addr
  c_Lot : Addr
  c_Turn : Addr
/-- what the top has left -/
structure Txt (P : Program) (K : PySem.W.Frag) (mg : Str → Option Value) (A : Ad) : Prop where
  F_End___init__ : Fun K "__init__" "End.__init__" s_End___init__ A.f_End___init__ A.d_End___init__
  b_End___init__ : Binds K A.d_End___init__ ["self", "paid"] []
  mk_End : Mk K A.c_End A.f_End___init__
  F_Lot___init__ : Fun K "__init__" "Lot.__init__" s_Lot___init__ A.f_Lot___init__ A.d_Lot___init__
  b_Lot___init__ : Binds K A.d_Lot___init__ ["self", "parts"] []
  mk_Lot : Mk K A.c_Lot A.f_Lot___init__
  F_Turn___init__ : Fun K "__init__" "Turn.__init__" s_Turn___init__ A.f_Turn___init__ A.d_Turn___init__
  b_Turn___init__ : Binds K A.d_Turn___init__ ["self", "player", "view", "parts"] []
  mk_Turn : Mk K A.c_Turn A.f_Turn___init__
  F_last_row : Fun K "last_row" "last_row" s_last_row A.f_last_row A.d_last_row
  b_last_row : Binds K A.d_last_row ["view"] []
  m_last_row : mg "last_row" = some (.ref A.f_last_row)
  F__keeps : Fun K "_keeps" "_keeps" s__keeps A.f__keeps A.d__keeps
  b__keeps : Binds K A.d__keeps ["tree", "rows"] []
  m__keeps : mg "_keeps" = some (.ref A.f__keeps)
  F_remembers : Fun K "remembers" "remembers" s_remembers A.f_remembers A.d_remembers
  b_remembers : Binds K A.d_remembers ["tree"] []
  m_remembers : mg "remembers" = some (.ref A.f_remembers)
  F__law_cell : Fun K "_law_cell" "_law_cell" s__law_cell A.f__law_cell A.d__law_cell
  b__law_cell : Binds K A.d__law_cell ["_law_script", "_law_k"] []
  m__law_cell : mg "_law_cell" = some (.ref A.f__law_cell)
  F__law_row : Fun K "_law_row" "_law_row" s__law_row A.f__law_row A.d__law_row
  b__law_row : Binds K A.d__law_row ["_law_cell_here", "_law_count", "_law_size"] []
  m__law_row : mg "_law_row" = some (.ref A.f__law_row)
  F__law_stages : Fun K "_law_stages" "_law_stages" s__law_stages A.f__law_stages A.d__law_stages
  b__law_stages : Binds K A.d__law_stages ["_law_script", "_law_most"] []
  m__law_stages : mg "_law_stages" = some (.ref A.f__law_stages)
  F__law_paths : Fun K "_law_paths" "_law_paths" s__law_paths A.f__law_paths A.d__law_paths
  b__law_paths : Binds K A.d__law_paths ["_law_stages_here"] []
  m__law_paths : mg "_law_paths" = some (.ref A.f__law_paths)
  F__law_view : Fun K "_law_view" "_law_view" s__law_view A.f__law_view A.d__law_view
  b__law_view : Binds K A.d__law_view ["_law_stages_here", "_law_path", "_law_player"] []
  m__law_view : mg "_law_view" = some (.ref A.f__law_view)
  F__law_asked : Fun K "_law_asked" "_law_asked" s__law_asked A.f__law_asked A.d__law_asked
  b__law_asked : Binds K A.d__law_asked ["_law_stages_here", "_law_path"] []
  m__law_asked : mg "_law_asked" = some (.ref A.f__law_asked)
  F__law_changed : Fun K "_law_changed" "_law_changed" s__law_changed A.f__law_changed A.d__law_changed
  b__law_changed : Binds K A.d__law_changed ["_law_stages_here", "_law_path", "_law_place", "_law_view_here"] []
  m__law_changed : mg "_law_changed" = some (.ref A.f__law_changed)
  F__law_last : Fun K "_law_last" "_law_last" s__law_last A.f__law_last A.d__law_last
  b__law_last : Binds K A.d__law_last ["_law_view_here"] []
  m__law_last : mg "_law_last" = some (.ref A.f__law_last)
  F__law_keeps : Fun K "_law_keeps" "_law_keeps" s__law_keeps A.f__law_keeps A.d__law_keeps
  b__law_keeps : Binds K A.d__law_keeps ["_law_stages_here", "_law_place", "_law_view_here"] []
  m__law_keeps : mg "_law_keeps" = some (.ref A.f__law_keeps)
  F__law_spoilt : Fun K "_law_spoilt" "_law_spoilt" s__law_spoilt A.f__law_spoilt A.d__law_spoilt
  b__law_spoilt : Binds K A.d__law_spoilt ["_law_view_here", "_law_cell_here"] []
  m__law_spoilt : mg "_law_spoilt" = some (.ref A.f__law_spoilt)
  F__law_bool : Fun K "_law_bool" "_law_bool" s__law_bool A.f__law_bool A.d__law_bool
  b__law_bool : Binds K A.d__law_bool ["_law_actual", "_law_due"] []
  m__law_bool : mg "_law_bool" = some (.ref A.f__law_bool)
  F_law : Fun K "law" "law" s_law A.f_law A.d_law
  b_law : Binds K A.d_law ["_law_script"] []
  m_law : mg "law" = some (.ref A.f_law)
  m_End : mg "End" = some (.ref A.c_End)
  cl_End : Cls K A.c_End
  na_End_paid : NoAttr K A.c_End "paid"
  ic_End : C8.InsC K A.c_End
  m_Lot : mg "Lot" = some (.ref A.c_Lot)
  cl_Lot : Cls K A.c_Lot
  na_Lot_parts : NoAttr K A.c_Lot "parts"
  ic_Lot : C8.InsC K A.c_Lot
  m_Turn : mg "Turn" = some (.ref A.c_Turn)
  cl_Turn : Cls K A.c_Turn
  na_Turn_player : NoAttr K A.c_Turn "player"
  na_Turn_view : NoAttr K A.c_Turn "view"
  na_Turn_parts : NoAttr K A.c_Turn "parts"
  ic_Turn : C8.InsC K A.c_Turn
  ki_End_End : PySem.W.kitOne K (.ref A.c_End) (.ref A.c_End) = some true
  ki_End_Lot : PySem.W.kitOne K (.ref A.c_End) (.ref A.c_Lot) = some false
  ki_End_Turn : PySem.W.kitOne K (.ref A.c_End) (.ref A.c_Turn) = some false
  ki_Lot_End : PySem.W.kitOne K (.ref A.c_Lot) (.ref A.c_End) = some false
  ki_Lot_Lot : PySem.W.kitOne K (.ref A.c_Lot) (.ref A.c_Lot) = some true
  ki_Lot_Turn : PySem.W.kitOne K (.ref A.c_Lot) (.ref A.c_Turn) = some false
  ki_Turn_End : PySem.W.kitOne K (.ref A.c_Turn) (.ref A.c_End) = some false
  ki_Turn_Lot : PySem.W.kitOne K (.ref A.c_Turn) (.ref A.c_Lot) = some false
  ki_Turn_Turn : PySem.W.kitOne K (.ref A.c_Turn) (.ref A.c_Turn) = some true
  n_range : mg "range" = none
  n_len : mg "len" = none
  n_isinstance : mg "isinstance" = none
  n_enumerate : mg "enumerate" = none
  n_all : mg "all" = none
  n_int : mg "int" = none
  n_bool : mg "bool" = none
  n_tuple : mg "tuple" = none
theorem sc_End___init__ : FnScope ["self", "paid"] ["self", "paid"] (defScope s_End___init__) := ⟨rfl, rfl, rfl, by decide +kernel, rfl, by decide +kernel, by decide +kernel⟩
theorem sc_Lot___init__ : FnScope ["self", "parts"] ["self", "parts"] (defScope s_Lot___init__) := ⟨rfl, rfl, rfl, by decide +kernel, rfl, by decide +kernel, by decide +kernel⟩
theorem sc_Turn___init__ : FnScope ["self", "player", "view", "parts"] ["self", "player", "view", "parts"] (defScope s_Turn___init__) := ⟨rfl, rfl, rfl, by decide +kernel, rfl, by decide +kernel, by decide +kernel⟩
theorem sc_last_row : FnScope ["view", "index"] ["view"] (defScope s_last_row) := ⟨rfl, rfl, rfl, by decide +kernel, rfl, by decide +kernel, by decide +kernel⟩
theorem sc__keeps : FnScope ["tree", "rows", "k", "part", "after"] ["tree", "rows"] (defScope s__keeps) := ⟨rfl, rfl, rfl, by decide +kernel, rfl, by decide +kernel, by decide +kernel⟩
theorem sc_remembers : FnScope ["tree"] ["tree"] (defScope s_remembers) := ⟨rfl, rfl, rfl, by decide +kernel, rfl, by decide +kernel, by decide +kernel⟩
theorem sc__law_cell : FnScope ["_law_script", "_law_k"] ["_law_script", "_law_k"] (defScope s__law_cell) := ⟨rfl, rfl, rfl, by decide +kernel, rfl, by decide +kernel, by decide +kernel⟩
theorem sc__law_row : FnScope ["_law_cell_here", "_law_count", "_law_size", "_law_state", "_law_row_here", "_law_k"] ["_law_cell_here", "_law_count", "_law_size"] (defScope s__law_row) := ⟨rfl, rfl, rfl, by decide +kernel, rfl, by decide +kernel, by decide +kernel⟩
theorem sc__law_stages : FnScope ["_law_script", "_law_most", "_law_stages_here", "_law_count", "_law_digits", "_law_k", "_law_size", "_law_show"] ["_law_script", "_law_most"] (defScope s__law_stages) := ⟨rfl, rfl, rfl, by decide +kernel, rfl, by decide +kernel, by decide +kernel⟩
theorem sc__law_paths : FnScope ["_law_stages_here", "_law_paths_here", "_law_stage", "_law_longer", "_law_path", "_law_k"] ["_law_stages_here"] (defScope s__law_paths) := ⟨rfl, rfl, rfl, by decide +kernel, rfl, by decide +kernel, by decide +kernel⟩
theorem sc__law_view : FnScope ["_law_stages_here", "_law_path", "_law_player", "_law_view_here", "_law_number", "_law_k", "_law_stage"] ["_law_stages_here", "_law_path", "_law_player"] (defScope s__law_view) := ⟨rfl, rfl, rfl, by decide +kernel, rfl, by decide +kernel, by decide +kernel⟩
theorem sc__law_asked : FnScope ["_law_stages_here", "_law_path", "_law_number", "_law_k", "_law_stage"] ["_law_stages_here", "_law_path"] (defScope s__law_asked) := ⟨rfl, rfl, rfl, by decide +kernel, rfl, by decide +kernel, by decide +kernel⟩
theorem sc__law_changed : FnScope ["_law_stages_here", "_law_path", "_law_place", "_law_view_here", "_law_stage", "_law_parts", "_law_k"] ["_law_stages_here", "_law_path", "_law_place", "_law_view_here"] (defScope s__law_changed) := ⟨rfl, rfl, rfl, by decide +kernel, rfl, by decide +kernel, by decide +kernel⟩
theorem sc__law_last : FnScope ["_law_view_here", "_law_k", "_law_at"] ["_law_view_here"] (defScope s__law_last) := ⟨rfl, rfl, rfl, by decide +kernel, rfl, by decide +kernel, by decide +kernel⟩
theorem sc__law_keeps : FnScope ["_law_stages_here", "_law_place", "_law_view_here", "_law_path", "_law_last_here", "_law_k", "_law_player", "_law_seen"] ["_law_stages_here", "_law_place", "_law_view_here"] (defScope s__law_keeps) := ⟨rfl, rfl, rfl, by decide +kernel, rfl, by decide +kernel, by decide +kernel⟩
theorem sc__law_spoilt : FnScope ["_law_view_here", "_law_cell_here", "_law_at", "_law_k"] ["_law_view_here", "_law_cell_here"] (defScope s__law_spoilt) := ⟨rfl, rfl, rfl, by decide +kernel, rfl, by decide +kernel, by decide +kernel⟩
theorem sc__law_bool : FnScope ["_law_actual", "_law_due"] ["_law_actual", "_law_due"] (defScope s__law_bool) := ⟨rfl, rfl, rfl, by decide +kernel, rfl, by decide +kernel, by decide +kernel⟩
theorem sc_law : FnScope ["_law_script", "_law_stages_here", "_law_turns", "_law_path", "_law_k", "_law_cell_here", "_law_place", "_law_view_here", "_law_other"] ["_law_script"] (defScope s_law) := ⟨rfl, rfl, rfl, by decide +kernel, rfl, by decide +kernel, by decide +kernel⟩
def F_End (x0 : V) : List (Str × V) := [("paid", x0)]
theorem F_End_paid {x0 : V} : (F_End x0).lookup ("paid" : Str) = some x0 := by
  unfold F_End;  rw [List.lookup_cons, beq_self_eq_true]
theorem go_F_End_paid {K : PySem.W.Frag} {H : Hp} {Q : VK} {a C dx : Addr} {x0 : V} (e : H a = some (.ins C dx (F_End x0))) (c : Cls K C) (n : NoAttr K C "paid") (h : Q x0 H) : qFld K "paid" Q (.ref a) H := go_fldV e c n F_End_paid h
theorem F_End_put_paid {x0 y : V} : putF "paid" y (F_End x0) = F_End y := by
  unfold F_End
  simp only [putF, if_true]
theorem F_End_made {x0 : V} : (putF "paid" x0 []) = F_End x0 := by
  unfold F_End
  simp only [putF]
theorem F_End_no___init__ {x0 : V} : (F_End x0).lookup ("__init__" : Str) = none := by
  unfold F_End; rw [List.lookup_cons, show ((PySem.Str.ofString "__init__") == (PySem.Str.ofString "paid")) = false by decide +kernel]; rfl
def F_Lot (x0 : V) : List (Str × V) := [("parts", x0)]
theorem F_Lot_parts {x0 : V} : (F_Lot x0).lookup ("parts" : Str) = some x0 := by
  unfold F_Lot;  rw [List.lookup_cons, beq_self_eq_true]
theorem go_F_Lot_parts {K : PySem.W.Frag} {H : Hp} {Q : VK} {a C dx : Addr} {x0 : V} (e : H a = some (.ins C dx (F_Lot x0))) (c : Cls K C) (n : NoAttr K C "parts") (h : Q x0 H) : qFld K "parts" Q (.ref a) H := go_fldV e c n F_Lot_parts h
theorem F_Lot_put_parts {x0 y : V} : putF "parts" y (F_Lot x0) = F_Lot y := by
  unfold F_Lot
  simp only [putF, if_true]
theorem F_Lot_made {x0 : V} : (putF "parts" x0 []) = F_Lot x0 := by
  unfold F_Lot
  simp only [putF]
theorem F_Lot_no___init__ {x0 : V} : (F_Lot x0).lookup ("__init__" : Str) = none := by
  unfold F_Lot; rw [List.lookup_cons, show ((PySem.Str.ofString "__init__") == (PySem.Str.ofString "parts")) = false by decide +kernel]; rfl
def F_Turn (x0 x1 x2 : V) : List (Str × V) := [("player", x0), ("view", x1), ("parts", x2)]
theorem F_Turn_player {x0 x1 x2 : V} : (F_Turn x0 x1 x2).lookup ("player" : Str) = some x0 := by
  unfold F_Turn;  rw [List.lookup_cons, beq_self_eq_true]
theorem go_F_Turn_player {K : PySem.W.Frag} {H : Hp} {Q : VK} {a C dx : Addr} {x0 x1 x2 : V} (e : H a = some (.ins C dx (F_Turn x0 x1 x2))) (c : Cls K C) (n : NoAttr K C "player") (h : Q x0 H) : qFld K "player" Q (.ref a) H := go_fldV e c n F_Turn_player h
theorem F_Turn_put_player {x0 x1 x2 y : V} : putF "player" y (F_Turn x0 x1 x2) = F_Turn y x1 x2 := by
  unfold F_Turn
  simp only [putF, if_true]
theorem F_Turn_view {x0 x1 x2 : V} : (F_Turn x0 x1 x2).lookup ("view" : Str) = some x1 := by
  unfold F_Turn; rw [List.lookup_cons, show ((PySem.Str.ofString "view") == (PySem.Str.ofString "player")) = false by decide +kernel]; rw [List.lookup_cons, beq_self_eq_true]
theorem go_F_Turn_view {K : PySem.W.Frag} {H : Hp} {Q : VK} {a C dx : Addr} {x0 x1 x2 : V} (e : H a = some (.ins C dx (F_Turn x0 x1 x2))) (c : Cls K C) (n : NoAttr K C "view") (h : Q x1 H) : qFld K "view" Q (.ref a) H := go_fldV e c n F_Turn_view h
theorem F_Turn_put_view {x0 x1 x2 y : V} : putF "view" y (F_Turn x0 x1 x2) = F_Turn x0 y x2 := by
  unfold F_Turn
  simp only [putF, if_true, show ¬ ((PySem.Str.ofString "player") = (PySem.Str.ofString "view")) by decide +kernel, if_false]
theorem F_Turn_parts {x0 x1 x2 : V} : (F_Turn x0 x1 x2).lookup ("parts" : Str) = some x2 := by
  unfold F_Turn; rw [List.lookup_cons, show ((PySem.Str.ofString "parts") == (PySem.Str.ofString "player")) = false by decide +kernel]; rw [List.lookup_cons, show ((PySem.Str.ofString "parts") == (PySem.Str.ofString "view")) = false by decide +kernel]; rw [List.lookup_cons, beq_self_eq_true]
theorem go_F_Turn_parts {K : PySem.W.Frag} {H : Hp} {Q : VK} {a C dx : Addr} {x0 x1 x2 : V} (e : H a = some (.ins C dx (F_Turn x0 x1 x2))) (c : Cls K C) (n : NoAttr K C "parts") (h : Q x2 H) : qFld K "parts" Q (.ref a) H := go_fldV e c n F_Turn_parts h
theorem F_Turn_put_parts {x0 x1 x2 y : V} : putF "parts" y (F_Turn x0 x1 x2) = F_Turn x0 x1 y := by
  unfold F_Turn
  simp only [putF, if_true, show ¬ ((PySem.Str.ofString "player") = (PySem.Str.ofString "parts")) by decide +kernel, show ¬ ((PySem.Str.ofString "view") = (PySem.Str.ofString "parts")) by decide +kernel, if_false]
theorem F_Turn_made {x0 x1 x2 : V} : (putF "parts" x2 (putF "view" x1 (putF "player" x0 []))) = F_Turn x0 x1 x2 := by
  unfold F_Turn
  simp only [putF, show ¬ ((PySem.Str.ofString "player") = (PySem.Str.ofString "view")) by decide +kernel, show ¬ ((PySem.Str.ofString "player") = (PySem.Str.ofString "parts")) by decide +kernel, show ¬ ((PySem.Str.ofString "view") = (PySem.Str.ofString "parts")) by decide +kernel, if_false]
theorem F_Turn_no___init__ {x0 x1 x2 : V} : (F_Turn x0 x1 x2).lookup ("__init__" : Str) = none := by
  unfold F_Turn; rw [List.lookup_cons, show ((PySem.Str.ofString "__init__") == (PySem.Str.ofString "player")) = false by decide +kernel]; rw [List.lookup_cons, show ((PySem.Str.ofString "__init__") == (PySem.Str.ofString "view")) = false by decide +kernel]; rw [List.lookup_cons, show ((PySem.Str.ofString "__init__") == (PySem.Str.ofString "parts")) = false by decide +kernel]; rfl

theorem sq_nn (w : Int) : 0 ≤ w * w := by
  rcases Int.lt_trichotomy w 0 with z | z | z
  · exact Int.le_of_lt (Int.mul_pos_of_neg_of_neg z z)
  · rw [z]; decide
  · exact Int.le_of_lt (Int.mul_pos z z)
theorem fst_neg {p w : Int} (hw : w ≠ 0) : (0 ≤ rN p w) = ¬ (p * w < 0) := by
  have c := r_cross (a := p) hw
  have d := rD_pos (a := p) hw
  generalize rN p w = n at *
  generalize rD p w = m at *
  refine propext ⟨fun h h2 => ?_, fun h => ?_⟩
  · have e : n * (w * w) = p * w * m := by rw [← Int.mul_assoc, c]; ac_rfl
    have h3 : 0 ≤ n * (w * w) := Int.mul_nonneg h (sq_nn w)
    have h4 : p * w * m < 0 := Int.mul_neg_of_neg_of_pos h2 d
    omega
  · by_cases q : 0 ≤ n
    · exact q
    · exfalso
      have e : n * (w * w) = p * w * m := by rw [← Int.mul_assoc, c]; ac_rfl
      have h5 : 0 < w * w := by
        rcases Int.lt_trichotomy w 0 with z | z | z
        · exact Int.mul_pos_of_neg_of_neg z z
        · exact absurd z hw
        · exact Int.mul_pos z z
      have h3 : n * (w * w) < 0 := Int.mul_neg_of_neg_of_pos (by omega) h5
      have h4 : 0 ≤ p * w * m := Int.mul_nonneg (by omega) (by omega)
      omega
/-- the terms of the law's ratios -/
def terms (ps : List Int) (w : Int) : List (Int × Int) := ps.map fun p => (rN p w, rD p w)
theorem sum_terms {L w : Int} (hw : w ≠ 0) : ∀ (ps : List Int), (∀ p ∈ ps, rD p w ∣ L) → ((terms ps w).map fun r => r.1 * (L / r.2)).sum * w = ps.sum * L
  | [], _ => by simp [terms]
  | p :: t, h => by
    have c := r_cross (a := p) hw
    have d := rD_pos (a := p) hw
    have ih := sum_terms hw t fun z hz => h z (List.mem_cons_of_mem _ hz)
    have hd := h p List.mem_cons_self
    unfold terms at ih ⊢
    rw [List.map_cons, List.map_cons, List.sum_cons, List.sum_cons, Int.add_mul, Int.add_mul, ih]
    congr 1
    show rN p w * (L / rD p w) * w = p * L
    have : rD p w * (L / rD p w) = L := Int.mul_ediv_cancel' hd
    calc rN p w * (L / rD p w) * w = rN p w * w * (L / rD p w) := by ac_rfl
      _ = p * rD p w * (L / rD p w) := by rw [c]
      _ = p * (rD p w * (L / rD p w)) := by ac_rfl
      _ = p * L := by rw [this]
/-- what the law expects -/
def due0 (ps : List Int) (w : Int) : Bool := decide (0 < ps.length) && decide (ps.sum = w)
theorem lots_due {ps : List Int} {w : Int} (hw : w ≠ 0) (ex : List (Int × Int)) (hex : ex = [] ∨ ex = [(0, 1)]) :
    (decide ((cnum (terms ps w ++ ex)).sum = (cden (terms ps w ++ ex) : Int)) && (cnum (terms ps w ++ ex)).all (fun n => decide (0 ≤ n))) = (due0 ps w && !(ps.any fun p => decide (p * w < 0))) := by
  have hpos : ∀ r ∈ terms ps w ++ ex, 0 < r.2 := by
    intro r hr
    rcases List.mem_append.mp hr with h | h
    · obtain ⟨p, _, rfl⟩ := List.mem_map.mp h
      exact rD_pos hw
    · rcases hex with e | e
      · rw [e] at h; exact nomatch h
      · rw [e] at h
        rw [List.mem_singleton.mp h]
        decide
  have hL := cden_pos hpos
  have hdv : ∀ r ∈ terms ps w ++ ex, r.2 ∣ (cden (terms ps w ++ ex) : Int) := fun r hr => Int.natAbs_dvd_natAbs.mp (by rw [Int.natAbs_natCast]; exact cden_dvd hr)
  generalize hLe : (cden (terms ps w ++ ex) : Int) = L at hdv
  have hL2 : 0 < L := by omega
  have e1 : (cnum (terms ps w ++ ex)).sum * w = ps.sum * L := by
    unfold cnum
    rw [hLe, List.map_append, List.sum_append, Int.add_mul, sum_terms hw ps fun p hp => hdv (rN p w, rD p w) (List.mem_append_left _ (List.mem_map_of_mem hp))]
    have : (List.map (fun r : Int × Int => r.1 * (L / r.2)) ex).sum = 0 := by
      rcases hex with e | e <;> rw [e] <;> simp
    rw [this]
    simp
  have e2 : (cnum (terms ps w ++ ex)).all (fun n => decide (0 ≤ n)) = !(ps.any fun p => decide (p * w < 0)) := by
    rw [List.not_any_eq_all_not]
    unfold cnum
    rw [hLe, List.all_map, List.all_append]
    have : List.all ex ((fun n => decide (0 ≤ n)) ∘ fun r : Int × Int => r.1 * (L / r.2)) = true := by
      rcases hex with e | e <;> rw [e] <;> simp
    rw [this, Bool.and_true]
    unfold terms
    rw [List.all_map]
    rw [Bool.eq_iff_iff, List.all_eq_true, List.all_eq_true]
    have key : ∀ p ∈ ps, (((fun n => decide (0 ≤ n)) ∘ fun r : Int × Int => r.1 * (L / r.2)) ∘ fun p => (rN p w, rD p w)) p = !decide (p * w < 0) := by
      intro p hp
      show decide (0 ≤ rN p w * (L / rD p w)) = _
      have d := rD_pos (a := p) hw
      have hd : rD p w ∣ L := hdv (rN p w, rD p w) (List.mem_append_left _ (List.mem_map_of_mem hp))
      have hq : 0 < L / rD p w := by
        have h1 : rD p w * (L / rD p w) = L := Int.mul_ediv_cancel' hd
        rcases Int.lt_trichotomy (L / rD p w) 0 with z | z | z
        · have := Int.mul_neg_of_pos_of_neg d z
          omega
        · rw [z, Int.mul_zero] at h1
          omega
        · exact z
      have : (0 ≤ rN p w * (L / rD p w)) = (0 ≤ rN p w) := propext ⟨fun h => by
        by_cases q : 0 ≤ rN p w
        · exact q
        · have := Int.mul_neg_of_neg_of_pos (show rN p w < 0 by omega) hq
          omega, fun h => Int.mul_nonneg h (by omega)⟩
      rw [decide_eq_decide.mpr (show (0 ≤ rN p w * (L / rD p w)) ↔ ¬ (p * w < 0) by rw [this, fst_neg hw]), decide_not]
    exact ⟨fun h p hp => by rw [← key p hp]; exact h p hp, fun h p hp => by rw [key p hp]; exact h p hp⟩
  rw [e2]
  congr 1
  unfold due0
  cases ps with
  | nil =>
    simp only [List.length_nil, Nat.lt_irrefl, decide_false, Bool.false_and]
    have : (cnum (terms [] w ++ ex)).sum = 0 := by
      rw [List.sum_nil, Int.zero_mul] at e1
      exact (Int.mul_eq_zero.mp e1).resolve_right hw
    rw [this, decide_eq_false (by omega)]
  | cons p t =>
    rw [show decide (0 < (p :: t).length) = true by simp, Bool.true_and]
    refine decide_eq_decide.mpr ⟨fun h => ?_, fun h => ?_⟩
    · rw [h, Int.mul_comm] at e1
      exact (Int.eq_of_mul_eq_mul_right (by omega) e1).symm
    · rw [h, Int.mul_comm w L] at e1
      exact Int.eq_of_mul_eq_mul_right hw e1
theorem ratios_ok {ps : List Int} {w : Int} (hw : w ≠ 0) (hp : ∀ p ∈ ps, p.natAbs ≤ 10) (hz : w.natAbs ≤ 1000) : ∀ r ∈ terms ps w, 0 < r.2 ∧ r.2.natAbs < 2 ^ 100 ∧ r.1.natAbs < 2 ^ 100 := by
  intro r hr
  obtain ⟨p, hm, rfl⟩ := List.mem_map.mp hr
  have := hp p hm
  exact ⟨rD_pos hw, Nat.lt_of_le_of_lt (rD_le p w hw) (Nat.lt_of_le_of_lt hz (by decide)), Nat.lt_of_le_of_lt (rN_le p w hw) (Nat.lt_of_le_of_lt this (by decide))⟩
theorem sum_le : ∀ (ps : List Int), (∀ p ∈ ps, p.natAbs ≤ 10) → ps.sum.natAbs ≤ 10 * ps.length
  | [], _ => by simp
  | p :: t, h => by
    have h1 := h p List.mem_cons_self
    have h2 := sum_le t fun z hz => h z (List.mem_cons_of_mem _ hz)
    rw [List.sum_cons, List.length_cons]
    omega
theorem any_take {ps : List Int} {w : Int} {i : Nat} {p : Int} (h : ps[i]? = some p) : ((ps.take (i + 1)).any fun p => decide (p * w < 0)) = (((ps.take i).any fun p => decide (p * w < 0)) || decide (p * w < 0)) := by
  rw [List.take_add_one, h, List.any_append]
  simp
/-- a row that is given to the maker of a plan -/
structure PRow where
  d : PyData
  ka : Addr
  la : Addr
  xs : List V
  rs : List (Int × Int)
def lotsB (rs : List (Int × Int)) : Bool := decide ((cnum rs).sum = (cden rs : Int)) && (cnum rs).all (fun n => decide (0 ≤ n))
/-- the k-th entry is fine -/
def goodP (ps : List PRow) (k : Nat) (r : PRow) : Bool := !((ps.take k).any fun q => decide (keyD q.d = keyD r.d)) && (!r.rs.isEmpty && lotsB r.rs)
structure PIn (K : PySem.W.Frag) (C : Addr) (H : Hp) (r : PRow) (x : V) : Prop where
  t : ∃ t, x = .ref t ∧ SqT K H t [.ref r.ka, .ref r.la]
  kp : plainK r.d = true
  kd : (keyD r.d).depth ≤ 8
  kk : Dp K H (.ref r.ka) r.d
  li : H r.la = some (.lst r.xs)
  ra : RatsAt C H r.xs r.rs
  le : r.rs.length ≤ 60
  bd : ∀ z ∈ r.rs, 0 < z.2 ∧ z.2.natAbs < 2 ^ 100 ∧ z.1.natAbs < 2 ^ 100
def nrows (ps : List PRow) (ls : List Addr) : List NRow := (ps.zip ls).map fun x => (x.1.d, x.1.ka, .ref x.2)
theorem nrows_snoc {ps : List PRow} {i : Nat} {r : PRow} {ls : List Addr} {a : Addr} (h : ps[i]? = some r) (hl : ls.length = i) : nrows (ps.take (i + 1)) (ls ++ [a]) = nrows (ps.take i) ls ++ [(r.d, r.ka, .ref a)] := by
  have hi := (List.getElem?_eq_some_iff.mp h).1
  unfold nrows
  rw [List.take_add_one, h, Option.toList_some, List.zip_append (by rw [List.length_take]; omega), List.map_append]
  rfl
theorem nrows_any {k : NestedKey} : ∀ {ps : List PRow} {ls : List Addr}, ps.length = ls.length → ((nrows ps ls).any fun x => decide (keyD x.1 = k)) = ps.any fun q => decide (keyD q.d = k)
  | [], [], _ => rfl
  | p :: ps, l :: ls, h => by
    have ih := nrows_any (k := k) (ps := ps) (ls := ls) (by simpa using h)
    unfold nrows at ih ⊢
    rw [List.zip_cons_cons, List.map_cons, List.any_cons, List.any_cons, ih]
  | [], _ :: _, h => by simp at h
  | _ :: _, [], h => by simp at h
theorem nrows_mem {ps : List PRow} {ls : List Addr} {x : NRow} (h : x ∈ nrows ps ls) : ∃ r ∈ ps, x.1 = r.d ∧ x.2.1 = r.ka := by
  unfold nrows at h
  obtain ⟨⟨r, a⟩, hm, rfl⟩ := List.mem_map.mp h
  exact ⟨r, (List.of_mem_zip hm).1, rfl, rfl⟩
theorem ratsAt_but {C : Addr} {H H' : Hp} {p CP dx : Addr} {xs : List V} {rs : List (Int × Int)} (hp : H p = some (.ins CP dx [])) (B : But p H H') (h : RatsAt C H xs rs) : RatsAt C H' xs rs := ⟨h.1, fun i x r hx hr => by
  obtain ⟨q, dq, e, eq⟩ := h.2 i x r hx hr
  exact ⟨q, dq, e, B _ _ (ne_of eq hp (by intro z; cases z)) eq⟩⟩
theorem ratsAt_off {C : Addr} {S : Addr → Prop} {H H' : Hp} {xs : List V} {rs : List (Int × Int)} (o : Off S H H') (n : ∀ c C dx fs, S c → H c ≠ some (.ins C dx fs)) (h : RatsAt C H xs rs) : RatsAt C H' xs rs := ⟨h.1, fun i x r hx hr => by
  obtain ⟨q, dq, e, eq⟩ := h.2 i x r hx hr
  exact ⟨q, dq, e, o _ _ (fun z => n _ _ _ _ z eq) eq⟩⟩

structure Stg where
  w : Int
  n : Int
  s : Int
/-- the stages' list and tuples -/
structure StAt (H : Hp) (l : Addr) (st : List Stg) : Prop where
  ex : ∃ xs : List V, H l = some (.lst xs) ∧ xs.length = st.length ∧ ∀ (k : Nat) (s : Stg), st[k]? = some s → ∃ t, xs[k]? = some (.ref t) ∧ H t = some (.tup [.int s.w, .int s.n, .int s.s])
  le : st.length ≤ 4
  ok : ∀ s ∈ st, 0 ≤ s.w ∧ s.w ≤ 2 ∧ 1 ≤ s.n ∧ s.n ≤ 3 ∧ 0 ≤ s.s ∧ s.s ≤ 3
theorem StAt.same {H H' : Hp} {l : Addr} {st : List Stg} (h : StAt H l st) (s : Same H H') : StAt H' l st := by
  obtain ⟨xs, e, hl, f⟩ := h.ex
  exact ⟨⟨xs, s _ _ e, hl, fun k x hx => let ⟨t, a, b⟩ := f k x hx; ⟨t, a, s _ _ b⟩⟩, h.le, h.ok⟩
theorem StAt.get {H : Hp} {l : Addr} {st : List Stg} (h : StAt H l st) {k : Nat} {s : Stg} (hs : st[k]? = some s) : ∃ xs t, H l = some (.lst xs) ∧ xs.length = st.length ∧ atI xs (k : Int) = some (.ref t) ∧ H t = some (.tup [.int s.w, .int s.n, .int s.s]) := by
  obtain ⟨xs, e, hl, f⟩ := h.ex
  obtain ⟨t, a, b⟩ := f k s hs
  exact ⟨xs, t, e, hl, atI_nat a, b⟩
def prodN : List Stg → Int
  | [] => 1
  | s :: r => s.n * prodN r
theorem prodN_snoc {s : Stg} : ∀ {st : List Stg}, prodN (st ++ [s]) = prodN st * s.n
  | [] => by simp [prodN]
  | x :: r => by
    show x.n * prodN (r ++ [s]) = x.n * prodN r * s.n
    rw [prodN_snoc, Int.mul_assoc]
def p3 : Nat → Int
  | 0 => 1
  | k + 1 => 3 * p3 k
theorem p3_pos : ∀ k, 1 ≤ p3 k
  | 0 => by decide
  | k + 1 => by
    have := p3_pos k
    show 1 ≤ 3 * p3 k
    omega
theorem p3_le {k : Nat} (h : k ≤ 4) : p3 k ≤ 81 := by
  rcases (by omega : k = 0 ∨ k = 1 ∨ k = 2 ∨ k = 3 ∨ k = 4) with rfl | rfl | rfl | rfl | rfl <;> decide
theorem show_at {j : Int} (h0 : 0 ≤ j) (h1 : j < 5) : ∃ v : Int, atI [V.int 0, V.int 0, V.int 1, V.int 2, V.int 3] j = some (.int v) ∧ 0 ≤ v ∧ v ≤ 3 := by
  rcases (by omega : j = (0 : Nat) ∨ j = (1 : Nat) ∨ j = (2 : Nat) ∨ j = (3 : Nat) ∨ j = (4 : Nat)) with rfl | rfl | rfl | rfl | rfl
  · exact ⟨0, atI_nat rfl, by decide, by decide⟩
  · exact ⟨0, atI_nat rfl, by decide, by decide⟩
  · exact ⟨1, atI_nat rfl, by decide, by decide⟩
  · exact ⟨2, atI_nat rfl, by decide, by decide⟩
  · exact ⟨3, atI_nat rfl, by decide, by decide⟩
def dRound (k : Int) : PyData := .tuple [.str "round", .int k]
def dMove (n k : Int) : PyData := .tuple [.str "move", .int n, .int k]
def dDid (x : Int) : PyData := .tuple [.str "did", .int x]
def dTold (x : Int) : PyData := .tuple [.str "told", .int x]
/-- moves asked before the k-th stage -/
def nStep (st : List Stg) : Nat → Int
  | 0 => 0
  | k + 1 => match st[k]? with
    | some s => if s.w = 0 then nStep st k else nStep st k + 1
    | none => nStep st k
/-- what a player sees of the first k stages of a path -/
def vStep (st : List Stg) (path : List Int) (pl : Int) : Nat → List PyData
  | 0 => [dRound 0]
  | k + 1 => match st[k]?, path[k]? with
    | some s, some x => (vStep st path pl k ++ (if s.w = pl then [dMove (nStep st k) s.n, dDid x] else [])) ++ (if s.s = pl ∨ s.s = 3 then [dTold x] else [])
    | _, _ => vStep st path pl k
def viewD (st : List Stg) (path : List Int) (pl : Int) : List PyData := vStep st path pl path.length
def askD (st : List Stg) (path : List Int) (s : Stg) : List PyData := viewD st path s.w ++ [dMove (nStep st path.length) s.n]
theorem vStep_len (st : List Stg) (path : List Int) (pl : Int) : ∀ k, (vStep st path pl k).length ≤ 1 + 3 * k
  | 0 => by simp [vStep]
  | k + 1 => by
    have ih := vStep_len st path pl k
    unfold vStep
    split
    · rw [List.length_append, List.length_append]
      split <;> split <;> simp <;> omega
    · omega
/-- an item of a view -/
structure Itm (d : PyData) : Prop where
  k : plainK d = true
  c : d.canLay0 = true
  e : d.depth ≤ 1
  n : (keyD d).depth ≤ 1
theorem itm_round (k : Int) : Itm (dRound k) := ⟨rfl, by simp only [dRound, PyData.canLay0, PyData.canLayAll0, Bool.and_true]; decide +kernel, by simp [dRound, PyData.depth, PyData.depthAll], by simp [dRound, keyD, keyDs, NestedKey.depth, NestedKey.depthAll]⟩
theorem itm_move (n k : Int) : Itm (dMove n k) := ⟨rfl, by simp only [dMove, PyData.canLay0, PyData.canLayAll0, Bool.and_true]; decide +kernel, by simp [dMove, PyData.depth, PyData.depthAll], by simp [dMove, keyD, keyDs, NestedKey.depth, NestedKey.depthAll]⟩
theorem itm_did (k : Int) : Itm (dDid k) := ⟨rfl, by simp only [dDid, PyData.canLay0, PyData.canLayAll0, Bool.and_true]; decide +kernel, by simp [dDid, PyData.depth, PyData.depthAll], by simp [dDid, keyD, keyDs, NestedKey.depth, NestedKey.depthAll]⟩
theorem itm_told (k : Int) : Itm (dTold k) := ⟨rfl, by simp only [dTold, PyData.canLay0, PyData.canLayAll0, Bool.and_true]; decide +kernel, by simp [dTold, PyData.depth, PyData.depthAll], by simp [dTold, keyD, keyDs, NestedKey.depth, NestedKey.depthAll]⟩
theorem vStep_itm (st : List Stg) (path : List Int) (pl : Int) : ∀ k, ∀ d ∈ vStep st path pl k, Itm d
  | 0 => fun d h => by
    rw [List.mem_singleton.mp h]
    exact itm_round 0
  | k + 1 => fun d h => by
    have ih := vStep_itm st path pl k
    unfold vStep at h
    split at h
    · rcases List.mem_append.mp h with h | h
      · rcases List.mem_append.mp h with h | h
        · exact ih d h
        · split at h
          · rcases List.mem_cons.mp h with h | h
            · rw [h]; exact itm_move _ _
            · rw [List.mem_singleton.mp h]; exact itm_did _
          · exact nomatch h
      · split at h
        · rw [List.mem_singleton.mp h]; exact itm_told _
        · exact nomatch h
    · exact ih d h
theorem vStep_head (st : List Stg) (path : List Int) (pl : Int) : ∀ k, ∃ r, vStep st path pl k = dRound 0 :: r
  | 0 => ⟨[], rfl⟩
  | k + 1 => by
    obtain ⟨r, e⟩ := vStep_head st path pl k
    unfold vStep
    split
    · rw [e]; exact ⟨_, rfl⟩
    · exact ⟨r, e⟩
structure Itms (ds : List PyData) : Prop where
  k : plainKs ds = true
  c : PyData.canLayAll0 ds = true
  d : PyData.depthAll ds ≤ 1
  n : NestedKey.depthAll (keyDs ds) ≤ 1
theorem itms : ∀ {ds : List PyData}, (∀ d ∈ ds, Itm d) → Itms ds
  | [], _ => ⟨rfl, rfl, by simp [PyData.depthAll], by simp [keyDs, NestedKey.depthAll]⟩
  | d :: ds, h => by
    have h1 := h d List.mem_cons_self
    have h2 := itms fun x hx => h x (List.mem_cons_of_mem _ hx)
    refine ⟨?_, ?_, ?_, ?_⟩
    · simp only [plainKs, h1.k, h2.k, Bool.true_and]
    · simp only [PyData.canLayAll0, h1.c, h2.c, Bool.true_and]
    · have := h1.e
      have := h2.d
      simp only [PyData.depthAll]
      omega
    · have := h1.n
      have := h2.n
      simp only [keyDs, NestedKey.depthAll]
      omega
/-- a view and a number of moves -/
abbrev Met := List PyData × Int
def mD (m : Met) : PyData := .tuple [.tuple m.1, .int m.2]
structure MOk (m : Met) : Prop where
  i : ∀ d ∈ m.1, Itm d
  h : ∃ r, m.1 = dRound 0 :: r
  l : ∃ r n, m.1 = r ++ [dMove n m.2]
  z : m.1.length ≤ 20
  n : 1 ≤ m.2 ∧ m.2 ≤ 3
theorem MOk.view {m : Met} (h : MOk m) : plainK (.tuple m.1) = true ∧ (PyData.tuple m.1).canLay0 = true ∧ (PyData.tuple m.1).depth ≤ 2 ∧ (keyD (.tuple m.1)).depth ≤ 2 := by
  have k := itms h.i
  refine ⟨by simp only [plainK, k.k], by simp only [PyData.canLay0, k.c], ?_, ?_⟩
  · have := k.d
    simp only [PyData.depth]
    omega
  · have := k.n
    simp only [keyD, NestedKey.depth]
    omega
theorem MOk.vshaped {m : Met} (h : MOk m) : SeqAt.shaped (.tuple m.1) = true := by
  obtain ⟨_, h2, h3, _⟩ := h.view
  unfold SeqAt.shaped
  rw [h2, Bool.true_and]
  exact decide_eq_true (by omega)
theorem MOk.lay {m : Met} (h : MOk m) : plainK (mD m) = true ∧ (mD m).canLay0 = true ∧ (mD m).depth ≤ 3 := by
  obtain ⟨h1, h2, h3, _⟩ := h.view
  refine ⟨by simp only [mD, plainK, plainKs, Bool.and_true] at h1 ⊢; exact h1, by simp only [mD, PyData.canLay0, PyData.canLayAll0, Bool.and_true] at h2 ⊢; exact h2, ?_⟩
  simp only [mD, PyData.depth, PyData.depthAll] at h3 ⊢
  omega
theorem MOk.shaped {m : Met} (h : MOk m) : SeqAt.shaped (mD m) = true := by
  obtain ⟨_, h2, h3⟩ := h.lay
  unfold SeqAt.shaped
  rw [h2, Bool.true_and]
  exact decide_eq_true (by omega)
theorem mets_lay : ∀ {ms : List Met}, (∀ m ∈ ms, MOk m) → plainKs (ms.map mD) = true ∧ PyData.canLayAll0 (ms.map mD) = true ∧ PyData.depthAll (ms.map mD) ≤ 3
  | [], _ => ⟨rfl, rfl, by simp [PyData.depthAll]⟩
  | m :: ms, h => by
    obtain ⟨a1, a2, a3⟩ := mets_lay fun x hx => h x (List.mem_cons_of_mem _ hx)
    obtain ⟨b1, b2, b3⟩ := (h m List.mem_cons_self).lay
    rw [List.map_cons]
    simp only [plainKs, PyData.canLayAll0, PyData.depthAll, a1, a2, b1, b2, Bool.true_and]
    exact ⟨trivial, trivial, by omega⟩
theorem mets_shaped {ms : List Met} (h : ∀ m ∈ ms, MOk m) : SeqAt.shaped (.list (ms.map mD)) = true := by
  obtain ⟨_, a2, a3⟩ := mets_lay h
  unfold SeqAt.shaped
  simp only [PyData.canLay0, PyData.depth, a2, Bool.true_and]
  exact decide_eq_true (by omega)
/-- the paths through the first k stages -/
def pStep (st : List Stg) : Nat → List (List Int)
  | 0 => [[]]
  | k + 1 => match st[k]? with
    | some s => (pStep st k).flatMap fun p => (List.range s.n.toNat).map fun (j : Nat) => p ++ [(j : Int)]
    | none => pStep st k
def pathsD (st : List Stg) : List (List Int) := pStep st st.length
theorem pStep_at {st : List Stg} {k : Nat} {s : Stg} (h : st[k]? = some s) : pStep st (k + 1) = (pStep st k).flatMap fun p => (List.range s.n.toNat).map fun (j : Nat) => p ++ [(j : Int)] := by
  show (match st[k]? with | some s => _ | none => _) = _
  rw [h]
theorem flat_len {s : Int} (hs : s ≤ 3) : ∀ l : List (List Int), (l.flatMap fun p => (List.range s.toNat).map fun (j : Nat) => p ++ [(j : Int)]).length ≤ 3 * l.length
  | [] => by simp
  | p :: l => by
    have := flat_len hs l
    rw [List.flatMap_cons, List.length_append, List.length_map, List.length_range, List.length_cons]
    omega
theorem pStep_len {st : List Stg} (h : ∀ s ∈ st, s.n ≤ 3) : ∀ k, ((pStep st k).length : Int) ≤ p3 k
  | 0 => by simp [pStep, p3]
  | k + 1 => by
    have ih := pStep_len h k
    unfold pStep p3
    split
    · rename_i s e
      have := flat_len (h s (List.mem_of_getElem? e)) (pStep st k)
      omega
    · have := p3_pos k
      omega
theorem pStep_mem {st : List Stg} : ∀ {k : Nat}, k ≤ st.length → ∀ p ∈ pStep st k, p.length = k
  | 0, _, p, h => by
    rw [List.mem_singleton.mp h]
    rfl
  | k + 1, hk, p, h => by
    have e : st[k]? = some st[k] := List.getElem?_eq_getElem (by omega)
    rw [pStep_at e] at h
    obtain ⟨q, hq, hp⟩ := List.mem_flatMap.mp h
    obtain ⟨j, _, rfl⟩ := List.mem_map.mp hp
    rw [List.length_append, pStep_mem (by omega) q hq]
    rfl
/-- lists of ints in a list that grows at L; all are newer than B -/
structure LsAt (B H : Hp) (L : Addr) (ys : List V) (ps : List (List Int)) : Prop where
  n : ys.length = ps.length
  f : ∀ (k : Nat) p, ps[k]? = some p → ∃ q, ys[k]? = some (.ref q) ∧ q ≠ L ∧ B q = none ∧ H q = some (.lst (p.map V.int))
theorem LsAt.same {B H H' : Hp} {L : Addr} {ys : List V} {ps : List (List Int)} (h : LsAt B H L ys ps) (s : Same H H') : LsAt B H' L ys ps := ⟨h.n, fun k p hp => let ⟨q, a, b, d, c⟩ := h.f k p hp; ⟨q, a, b, d, s _ _ c⟩⟩
theorem LsAt.put {B H : Hp} {L : Addr} {ys zs : List V} {ps : List (List Int)} (h : LsAt B H L ys ps) : LsAt B (upd H L (.lst zs)) L ys ps := ⟨h.n, fun k p hp => let ⟨q, a, b, d, c⟩ := h.f k p hp; ⟨q, a, b, d, by rw [upd_ne b]; exact c⟩⟩
theorem LsAt.nil {B H : Hp} {L : Addr} : LsAt B H L [] [] := ⟨rfl, fun k p h => by simp at h⟩
theorem LsAt.snoc {B H : Hp} {L q : Addr} {ys : List V} {ps : List (List Int)} {p : List Int} (h : LsAt B H L ys ps) (ne : q ≠ L) (nb : B q = none) (e : H q = some (.lst (p.map V.int))) : LsAt B H L (ys ++ [.ref q]) (ps ++ [p]) := by
  refine ⟨by rw [List.length_append, List.length_append, h.n]; rfl, fun k r hr => ?_⟩
  rcases Nat.lt_or_ge k ps.length with z | z
  · rw [List.getElem?_append_left z] at hr
    obtain ⟨q', a, b, d, c⟩ := h.f k r hr
    exact ⟨q', by rw [List.getElem?_append_left (by rw [h.n]; exact z)]; exact a, b, d, c⟩
  · have hk := (List.getElem?_eq_some_iff.mp hr).1
    rw [List.length_append, List.length_singleton] at hk
    obtain rfl : k = ps.length := by omega
    rw [List.getElem?_append_right (Nat.le_refl _), Nat.sub_self] at hr
    cases hr
    exact ⟨q, by rw [List.getElem?_append_right (by rw [h.n]; exact Nat.le_refl _), h.n, Nat.sub_self]; rfl, ne, nb, e⟩
structure PsAt (B H : Hp) (l : Addr) (ps : List (List Int)) : Prop where
  nb : B l = none
  ex : ∃ xs : List V, H l = some (.lst xs) ∧ xs.length = ps.length ∧ ∀ (k : Nat) p, ps[k]? = some p → ∃ q, xs[k]? = some (.ref q) ∧ B q = none ∧ H q = some (.lst (p.map V.int))
theorem PsAt.same {B H H' : Hp} {l : Addr} {ps : List (List Int)} (h : PsAt B H l ps) (s : Same H H') : PsAt B H' l ps := by
  obtain ⟨xs, a, b, c⟩ := h.ex
  exact ⟨h.nb, xs, s _ _ a, b, fun k p hp => let ⟨q, d, f, e⟩ := c k p hp; ⟨q, d, f, s _ _ e⟩⟩
def mItem (st : List Stg) (pl : Int) (p : List Int) (k : Nat) : Option Met := match st[k]? with
  | some s => if s.w = pl then some (askD st (p.take k) s, s.n) else none
  | none => none
def mAdd (acc : List Met) : Option Met → List Met
  | none => acc
  | some m => if acc.any (fun z => PyData.eqv (mD z) (mD m)) then acc else acc ++ [m]
def mRow (st : List Stg) (pl : Int) (p : List Int) (acc : List Met) (n : Nat) : List Met := (List.range n).foldl (fun a k => mAdd a (mItem st pl p k)) acc
def mRows (st : List Stg) (pl : Int) (ps : List (List Int)) : List Met := ps.foldl (fun a p => mRow st pl p a st.length) []
/-- the views at which a player is asked, each once -/
def metD (st : List Stg) (pl : Int) : List Met := mRows st pl (pathsD st)
theorem mAdd_old {acc : List Met} {m : Met} (h : (acc.any fun z => PyData.eqv (mD z) (mD m)) = true) : mAdd acc (some m) = acc := by
  show (if _ then _ else _) = _
  rw [if_pos h]
theorem mAdd_new {acc : List Met} {m : Met} (h : (acc.any fun z => PyData.eqv (mD z) (mD m)) = false) : mAdd acc (some m) = acc ++ [m] := by
  show (if _ then _ else _) = _
  rw [if_neg (by rw [h]; decide)]
theorem mRow_succ {st : List Stg} {pl : Int} {p : List Int} {acc : List Met} {n : Nat} : mRow st pl p acc (n + 1) = mAdd (mRow st pl p acc n) (mItem st pl p n) := by
  unfold mRow
  rw [List.range_succ, List.foldl_append]
  rfl
theorem mRows_snoc {st : List Stg} {pl : Int} {ps : List (List Int)} {p : List Int} : mRows st pl (ps ++ [p]) = mRow st pl p (mRows st pl ps) st.length := by
  unfold mRows
  rw [List.foldl_append]
  rfl
theorem mItem_ok {st : List Stg} {pl : Int} {p : List Int} {k : Nat} {m : Met} (hl : st.length ≤ 4) (ok : ∀ s ∈ st, 1 ≤ s.n ∧ s.n ≤ 3) (hp : k ≤ p.length) (h : mItem st pl p k = some m) : MOk m := by
  unfold mItem at h
  split at h
  · rename_i s e
    have hk := (List.getElem?_eq_some_iff.mp e).1
    split at h
    · cases h
      have tl : (p.take k).length = k := by rw [List.length_take]; omega
      refine ⟨fun d hd => ?_, ?_, ⟨_, _, rfl⟩, ?_, ok s (List.mem_of_getElem? e)⟩
      · rcases List.mem_append.mp hd with hd | hd
        · exact vStep_itm _ _ _ _ d hd
        · rw [List.mem_singleton.mp hd]
          exact itm_move _ _
      · obtain ⟨r, e2⟩ := vStep_head st (p.take k) s.w (p.take k).length
        exact ⟨r ++ _, by show vStep st (p.take k) s.w (p.take k).length ++ _ = _; rw [e2]; rfl⟩
      · have := vStep_len st (p.take k) s.w (p.take k).length
        show (vStep st (p.take k) s.w (p.take k).length ++ _).length ≤ 20
        rw [List.length_append]
        simp only [List.length_singleton]
        omega
    · cases h
  · cases h
/-- each view once -/
structure Mets (ms : List Met) : Prop where
  ok : ∀ m ∈ ms, MOk m
  ne : ms.Pairwise fun a b => PyData.eqv (mD a) (mD b) = false
theorem Mets.add {ms : List Met} (h : Mets ms) {o : Option Met} (ho : ∀ m, o = some m → MOk m) : Mets (mAdd ms o) := by
  cases o with
  | none => exact h
  | some m =>
    unfold mAdd
    show Mets (if _ then _ else _)
    split
    · exact h
    · rename_i n
      have n2 : ∀ x ∈ ms, PyData.eqv (mD x) (mD m) = false := fun x hx => by
        cases z : PyData.eqv (mD x) (mD m) with
        | false => rfl
        | true => exact absurd (List.any_eq_true.mpr ⟨x, hx, z⟩) n
      refine ⟨fun x hx => ?_, List.pairwise_append.mpr ⟨h.ne, List.pairwise_singleton _ _, fun a ha b hb => ?_⟩⟩
      · rcases List.mem_append.mp hx with hx | hx
        · exact h.ok x hx
        · rw [List.mem_singleton.mp hx]; exact ho m rfl
      · rw [List.mem_singleton.mp hb]
        exact n2 a ha
theorem mAdd_len {ms : List Met} {o : Option Met} : (mAdd ms o).length ≤ ms.length + 1 := by
  cases o with
  | none => exact Nat.le_succ _
  | some m =>
    show (if _ then _ else _ : List Met).length ≤ _
    split
    · exact Nat.le_succ _
    · rw [List.length_append]; exact Nat.le_refl _
theorem mets_keys {ms : List Met} (h : Mets ms) : ms.Pairwise fun a b => keyD (.tuple a.1) ≠ keyD (.tuple b.1) := by
  refine List.Pairwise.imp_of_mem ?_ h.ne
  intro a b ha hb n e
  have k := keyD_inj _ _ (h.ok a ha).view.1 (h.ok b hb).view.1 e
  have e1 : a.1 = b.1 := by injection k
  obtain ⟨r, x, ea⟩ := (h.ok a ha).l
  obtain ⟨r', x', eb⟩ := (h.ok b hb).l
  have e2 : dMove x a.2 = dMove x' b.2 := by
    have : (r ++ [dMove x a.2]).getLast? = (r' ++ [dMove x' b.2]).getLast? := by rw [← ea, ← eb, e1]
    simpa using this
  have e3 : a.2 = b.2 := by
    simp only [dMove, PyData.tuple.injEq, List.cons.injEq, PyData.int.injEq] at e2
    exact e2.2.2.1
  have e4 : a = b := Prod.ext e1 e3
  rw [e4, SeqAt.eqv_refl _ (h.ok b hb).lay.2.1] at n
  cases n
structure MetAt (K : PySem.W.Frag) (H : Hp) (l : Addr) (ms : List Met) : Prop where
  ex : ∃ xs : List V, H l = some (.lst xs) ∧ DpAll K H xs (ms.map mD)
  ok : Mets ms
theorem MetAt.same {K : PySem.W.Frag} {H H' : Hp} {l : Addr} {ms : List Met} (h : MetAt K H l ms) (s : Same H H') : MetAt K H' l ms := by
  obtain ⟨xs, a, b⟩ := h.ex
  exact ⟨⟨xs, s _ _ a, dpAll_same s _ _ b⟩, h.ok⟩
/-- the k-th view's objects -/
theorem MetAt.get {K : PySem.W.Frag} {H : Hp} {l : Addr} {ms : List Met} (h : MetAt K H l ms) {k : Nat} {m : Met} (e : ms[k]? = some m) : ∃ xs t v, H l = some (.lst xs) ∧ xs.length = ms.length ∧ xs[k]? = some (.ref t) ∧ SqT K H t [.ref v, .int m.2] ∧ Dp K H (.ref v) (.tuple m.1) := by
  obtain ⟨xs, a, b⟩ := h.ex
  obtain ⟨x, hx, hd⟩ := dpAll_get b (show (ms.map mD)[k]? = some (mD m) by rw [List.getElem?_map, e]; rfl)
  obtain ⟨t, ys, rfl, h1, h2⟩ := dp_tup hd
  cases h2 with
  | cons g1 g2 =>
    cases g2 with
    | cons g3 g4 =>
      cases g3
      cases g4
      obtain ⟨v, vs, rfl, _⟩ := dp_tup g1
      exact ⟨xs, t, v, a, by have := dpAll_len b; rw [this, List.length_map], hx, h1, g1⟩

/-- an entry of a plan as the law has it -/
structure Ent where
  m : Met
  v : Addr
  l : Addr
  ws : List Int
structure EntOk (K : PySem.W.Frag) (H : Hp) (L : Addr) (e : Ent) (x : V) : Prop where
  t : ∃ t, x = .ref t ∧ H t = some (.tup [.ref e.v, .ref e.l])
  v : Dp K H (.ref e.v) (.tuple e.m.1)
  n : e.l ≠ L
  l : H e.l = some (.lst (e.ws.map V.int))
  b : e.ws.length ≤ 4
  w : ∀ w ∈ e.ws, 0 ≤ w ∧ w ≤ 3
  p : 0 < e.ws.sum
theorem EntOk.same {K : PySem.W.Frag} {H H' : Hp} {L : Addr} {e : Ent} {x : V} (h : EntOk K H L e x) (s : Same H H') : EntOk K H' L e x := by
  obtain ⟨t, a, b⟩ := h.t
  exact ⟨⟨t, a, s _ _ b⟩, dp_same s _ _ h.v, h.n, s _ _ h.l, h.b, h.w, h.p⟩
theorem EntOk.put {K : PySem.W.Frag} {H : Hp} {L : Addr} {ys zs : List V} {e : Ent} {x : V} (h : EntOk K H L e x) (hv : plainK (.tuple e.m.1) = true) (eL : H L = some (.lst ys)) : EntOk K (upd H L (.lst zs)) L e x := by
  obtain ⟨t, a, b⟩ := h.t
  exact ⟨⟨t, a, by rw [upd_ne (ne_of b eL (by intro z; cases z))]; exact b⟩, dp_off (But.off ((But.refl L H).upd)) (noT_lst eL) _ _ hv h.v, h.n, by rw [upd_ne h.n]; exact h.l, h.b, h.w, h.p⟩
structure EntAt (K : PySem.W.Frag) (H : Hp) (L : Addr) (es : List Ent) : Prop where
  ex : ∃ xs : List V, H L = some (.lst xs) ∧ xs.length = es.length ∧ ∀ (k : Nat) e x, es[k]? = some e → xs[k]? = some x → EntOk K H L e x
  ok : ∀ e ∈ es, MOk e.m
theorem EntAt.same {K : PySem.W.Frag} {H H' : Hp} {L : Addr} {es : List Ent} (h : EntAt K H L es) (s : Same H H') : EntAt K H' L es := by
  obtain ⟨xs, a, b, c⟩ := h.ex
  exact ⟨⟨xs, s _ _ a, b, fun k e x h1 h2 => (c k e x h1 h2).same s⟩, h.ok⟩
theorem EntAt.nil {K : PySem.W.Frag} {H : Hp} {L : Addr} (e : H L = some (.lst [])) : EntAt K H L [] := ⟨⟨[], e, rfl, fun k e x h => by simp at h⟩, fun e h => nomatch h⟩
theorem EntAt.snoc {K : PySem.W.Frag} {H : Hp} {L : Addr} {es : List Ent} {xs : List V} {e : Ent} {x : V} (h : EntAt K H L es) (eL : H L = some (.lst xs)) (ok : MOk e.m) (he : EntOk K H L e x) : EntAt K (upd H L (.lst (xs ++ [x]))) L (es ++ [e]) := by
  obtain ⟨xs', a, b, c⟩ := h.ex
  rw [eL] at a
  cases a
  refine ⟨⟨_, upd_same, by rw [List.length_append, List.length_append, b]; rfl, fun k e' x' h1 h2 => ?_⟩, fun e' h' => ?_⟩
  · rcases Nat.lt_or_ge k es.length with z | z
    · rw [List.getElem?_append_left (by omega)] at h1 h2
      exact (c k e' x' h1 h2).put (h.ok e' (List.mem_of_getElem? h1)).view.1 eL
    · have hk := (List.getElem?_eq_some_iff.mp h1).1
      rw [List.length_append, List.length_singleton] at hk
      obtain rfl : k = es.length := by omega
      rw [List.getElem?_append_right (Nat.le_refl _), Nat.sub_self] at h1
      rw [List.getElem?_append_right (by omega), b, Nat.sub_self] at h2
      cases h1
      cases h2
      exact he.put ok.view.1 eL
  · rcases List.mem_append.mp h' with h' | h'
    · exact h.ok e' h'
    · rw [List.mem_singleton.mp h']; exact ok
/-- no view twice -/
def Once (es : List Ent) : Prop := es.Pairwise fun a b => keyD (.tuple a.m.1) ≠ keyD (.tuple b.m.1)
def dflt (n : Int) : List (Int × Int) := (List.range n.toNat).map fun k => (if k = 0 then 1 else 0, 1)
/-- the plan that was made of entries -/
structure PlanAt (P : Program) (w : World) (K : PySem.W.Frag) (C CP : Addr) (H : Hp) (p : Addr) (es : List Ent) : Prop where
  ex : ∃ (dx D : Addr) (ps : List PRow) (ls : List Addr), H p = some (.ins CP dx [("table", .ref D)]) ∧ H D = some (ndO P w D (nrows ps ls)) ∧ ps.length = ls.length ∧ ps.length = es.length ∧
    (∀ (k : Nat) r a, ps[k]? = some r → ls[k]? = some a → ∃ e, es[k]? = some e ∧ r.d = .tuple e.m.1 ∧ r.rs = terms e.ws e.ws.sum ∧ Dp K H (.ref r.ka) r.d ∧ H a = some (.lst r.xs) ∧ RatsAt C H r.xs r.rs)
  ok : ∀ e ∈ es, MOk e.m
  n : es.length ≤ 1000
  b : ∀ e ∈ es, e.ws.length ≤ 4 ∧ (∀ w ∈ e.ws, 0 ≤ w ∧ w ≤ 3) ∧ 0 < e.ws.sum
theorem PlanAt.same {P : Program} {w : World} {K : PySem.W.Frag} {C CP : Addr} {H H' : Hp} {p : Addr} {es : List Ent} (h : PlanAt P w K C CP H p es) (s : Same H H') : PlanAt P w K C CP H' p es := by
  obtain ⟨dx, D, ps, ls, a, b, c, d, f⟩ := h.ex
  exact ⟨⟨dx, D, ps, ls, s _ _ a, s _ _ b, c, d, fun k r x h1 h2 => let ⟨e, e1, e2, e3, e4, e5, e6⟩ := f k r x h1 h2; ⟨e, e1, e2, e3, dp_same s _ _ e4, s _ _ e5, e6.same s⟩⟩, h.ok, h.n, h.b⟩
theorem nAt_nrows {key : NestedKey} : ∀ {ps : List PRow} {ls : List Addr}, ps.length = ls.length →
    (∃ (k : Nat) (r : PRow) (a : Addr), ps[k]? = some r ∧ ls[k]? = some a ∧ keyD r.d = key ∧ nAt (nrows ps ls) key = some (.ref a)) ∨ ((∀ r ∈ ps, keyD r.d ≠ key) ∧ nAt (nrows ps ls) key = none)
  | [], [], _ => .inr ⟨fun _ h => (nomatch h), rfl⟩
  | p :: ps, l :: ls, h => by
    by_cases e : keyD p.d = key
    · exact .inl ⟨0, p, l, rfl, rfl, e, by simp [nAt, nrows, e]⟩
    · have step : nAt (nrows (p :: ps) (l :: ls)) key = nAt (nrows ps ls) key := by simp [nAt, nrows, e]
      rcases nAt_nrows (key := key) (ps := ps) (ls := ls) (by simpa using h) with ⟨k, r, a, h1, h2, h3, h4⟩ | ⟨h1, h2⟩
      · exact .inl ⟨k + 1, r, a, h1, h2, h3, by rw [step]; exact h4⟩
      · refine .inr ⟨fun r hr => ?_, by rw [step]; exact h2⟩
        rcases List.mem_cons.mp hr with hr | hr
        · rw [hr]; exact e
        · exact h1 r hr
  | [], _ :: _, h => by simp at h
  | _ :: _, [], h => by simp at h
/-- the lots that the plan of these entries has at a view -/
def LotsIs (es : List Ent) (vd : List PyData) (c : Int) (rs : List (Int × Int)) : Prop :=
  (∃ (k : Nat) (e : Ent), es[k]? = some e ∧ keyD (.tuple e.m.1) = keyD (.tuple vd) ∧ (((e.ws.length : Int) = c ∧ rs = terms e.ws e.ws.sum) ∨ ((e.ws.length : Int) ≠ c ∧ rs = dflt c))) ∨ ((∀ e ∈ es, keyD (.tuple e.m.1) ≠ keyD (.tuple vd)) ∧ rs = dflt c)
structure LotOk (z : Int × Int) : Prop where
  p : 0 < z.2
  r : rD z.1 z.2 = z.2
  a : 0 ≤ z.1 ∧ z.1 ≤ 1099511627776
  b : z.2 ≤ 1099511627776
theorem sum_bd : ∀ {ws : List Int}, (∀ w ∈ ws, 0 ≤ w ∧ w ≤ 3) → 0 ≤ ws.sum ∧ ws.sum ≤ 3 * ws.length
  | [], _ => by simp
  | w :: ws, h => by
    have h1 := h w List.mem_cons_self
    have h2 := sum_bd fun x hx => h x (List.mem_cons_of_mem _ hx)
    rw [List.sum_cons, List.length_cons]
    omega
theorem rD_fix {a b : Int} (hb : 0 < b) : rD (rN a b) (rD a b) = rD a b := by
  have p := rD_pos (a := a) (b := b) (by omega)
  exact (r_congr (by omega) (by omega) (r_cross (a := a) (b := b) (by omega))).2
theorem rN_nn {a b : Int} (ha : 0 ≤ a) (hb : 0 < b) : 0 ≤ rN a b := by
  have c := r_cross (a := a) (b := b) (by omega)
  have p := rD_pos (a := a) (b := b) (by omega)
  by_cases q : 0 ≤ rN a b
  · exact q
  · have h1 : rN a b * b < 0 := Int.mul_neg_of_neg_of_pos (by omega) hb
    have h2 : 0 ≤ a * rD a b := Int.mul_nonneg ha (by omega)
    omega
theorem terms_lot {ws : List Int} (hl : ws.length ≤ 4) (hw : ∀ w ∈ ws, 0 ≤ w ∧ w ≤ 3) (hp : 0 < ws.sum) : ∀ z ∈ terms ws ws.sum, LotOk z := by
  intro z h
  obtain ⟨w, hm, rfl⟩ := List.mem_map.mp h
  have h1 := hw w hm
  have h2 := sum_bd hw
  have a1 := rN_le w ws.sum (by omega)
  have a2 := rD_le w ws.sum (by omega)
  have a3 := rN_nn h1.1 hp
  have a4 := rD_pos (a := w) (b := ws.sum) (by omega)
  exact ⟨a4, rD_fix hp, ⟨a3, by show rN w ws.sum ≤ 1099511627776; omega⟩, by show rD w ws.sum ≤ 1099511627776; omega⟩
theorem dflt_lot {c : Int} : ∀ z ∈ dflt c, LotOk z := by
  intro z h
  obtain ⟨k, hm, rfl⟩ := List.mem_map.mp h
  by_cases e : k = 0
  · rw [if_pos e]
    exact ⟨by decide, by decide +kernel, ⟨by decide, by decide⟩, by decide⟩
  · rw [if_neg e]
    exact ⟨by decide, by decide +kernel, ⟨by decide, by decide⟩, by decide⟩
theorem dflt_len {c : Int} : (dflt c).length = c.toNat := by unfold dflt; rw [List.length_map, List.length_range]
theorem terms_len {ws : List Int} {s : Int} : (terms ws s).length = ws.length := by unfold terms; rw [List.length_map]
theorem LotsIs.lot {es : List Ent} {vd : List PyData} {c : Int} {rs : List (Int × Int)} (h : LotsIs es vd c rs) (hc : 0 ≤ c) (b : ∀ e ∈ es, e.ws.length ≤ 4 ∧ (∀ w ∈ e.ws, 0 ≤ w ∧ w ≤ 3) ∧ 0 < e.ws.sum) : (∀ z ∈ rs, LotOk z) ∧ (rs.length : Int) = c := by
  rcases h with ⟨k, e, h1, _, ⟨h3, rfl⟩ | ⟨_, rfl⟩⟩ | ⟨_, rfl⟩
  · obtain ⟨b1, b2, b3⟩ := b e (List.mem_of_getElem? h1)
    exact ⟨terms_lot b1 b2 b3, by rw [terms_len]; exact h3⟩
  · exact ⟨dflt_lot, by rw [dflt_len]; omega⟩
  · exact ⟨dflt_lot, by rw [dflt_len]; omega⟩
structure DueAt (H : Hp) (l : Addr) (rs : List (Int × Int)) : Prop where
  ex : ∃ ts : List V, H l = some (.lst ts) ∧ ts.length = rs.length ∧ ∀ (k : Nat) z, rs[k]? = some z → ∃ t, ts[k]? = some (.ref t) ∧ H t = some (.tup [.int z.1, .int z.2])
theorem DueAt.same {H H' : Hp} {l : Addr} {rs : List (Int × Int)} (h : DueAt H l rs) (s : Same H H') : DueAt H' l rs := by
  obtain ⟨ts, a, b, c⟩ := h.ex
  exact ⟨ts, s _ _ a, b, fun k z hz => let ⟨t, d, e⟩ := c k z hz; ⟨t, d, s _ _ e⟩⟩
theorem sum_take_le : ∀ {l : List Met}, (∀ m ∈ l, 1 ≤ m.2) → ∀ k, ((l.take k).map (·.2)).sum ≤ (l.map (·.2)).sum
  | [], _, k => by simp
  | x :: l, h, 0 => by
    have h1 := h x List.mem_cons_self
    have h2 := sum_take_le (fun m hm => h m (List.mem_cons_of_mem _ hm)) 0 (l := l)
    rw [List.take_zero, List.map_nil, List.sum_nil] at h2 ⊢
    rw [List.map_cons, List.sum_cons]
    omega
  | x :: l, h, k + 1 => by
    have h2 := sum_take_le (fun m hm => h m (List.mem_cons_of_mem _ hm)) k (l := l)
    rw [List.take_succ_cons, List.map_cons, List.map_cons, List.sum_cons, List.sum_cons]
    omega
theorem lots_good {ws : List Int} (hw : ∀ w ∈ ws, 0 ≤ w ∧ w ≤ 3) (hp : 0 < ws.sum) : (!(terms ws ws.sum).isEmpty && lotsB (terms ws ws.sum)) = true := by
  have e := lots_due (ps := ws) (w := ws.sum) (by omega) [] (.inl rfl)
  rw [List.append_nil] at e
  unfold lotsB
  rw [e]
  unfold due0
  have n : (ws.any fun p => decide (p * ws.sum < 0)) = false := by
    rw [List.any_eq_false]
    intro w h
    have := hw w h
    have := Int.mul_nonneg this.1 (show 0 ≤ ws.sum by omega)
    simp only [decide_eq_true_eq]
    omega
  rw [n]
  cases ws with
  | nil => simp at hp
  | cons p t => simp [terms]
theorem once_eq {es : List Ent} (h : Once es) {k k' : Nat} {e e' : Ent} (h1 : es[k]? = some e) (h2 : es[k']? = some e') (he : keyD (.tuple e.m.1) = keyD (.tuple e'.m.1)) : e = e' := by
  obtain ⟨l1, g1⟩ := List.getElem?_eq_some_iff.mp h1
  obtain ⟨l2, g2⟩ := List.getElem?_eq_some_iff.mp h2
  rcases Nat.lt_trichotomy k k' with z | z | z
  · have := List.pairwise_iff_getElem.mp h k k' l1 l2 z
    rw [g1, g2] at this
    exact absurd he this
  · subst z
    rw [h1] at h2
    cases h2
    rfl
  · have := List.pairwise_iff_getElem.mp h k' k l2 l1 z
    rw [g1, g2] at this
    exact absurd he.symm this
def DueIs (gs : List Ent) (m : Met) (j : Nat) (ds : List (Int × Int)) : Prop :=
  (∃ (k : Nat) (e : Ent), k < j ∧ gs[k]? = some e ∧ e.m.1 = m.1 ∧ (e.ws.length : Int) = m.2 ∧ ds = terms e.ws e.ws.sum) ∨ ((∀ (k : Nat) (e : Ent), k < j → gs[k]? = some e → ¬ (e.m.1 = m.1 ∧ (e.ws.length : Int) = m.2)) ∧ ds = dflt m.2)
theorem key_view {a b : Met} (ha : MOk a) (hb : MOk b) : (keyD (.tuple a.1) = keyD (.tuple b.1)) ↔ a.1 = b.1 := ⟨fun h => by
  have := keyD_inj _ _ ha.view.1 hb.view.1 h
  injection this, fun h => by rw [h]⟩
theorem eqv_same {a b : Met} (hb : MOk b) (h : a.1 = b.1) : PyData.eqv (.tuple a.1) (.tuple b.1) = true := by
  rw [h]
  exact SeqAt.eqv_refl _ hb.view.2.1
theorem eqv_diff {a b : Met} (ha : MOk a) (hb : MOk b) (h : ¬ a.1 = b.1) : PyData.eqv (.tuple a.1) (.tuple b.1) = false := by
  cases z : PyData.eqv (.tuple a.1) (.tuple b.1) with
  | false => rfl
  | true =>
    have := eqv_plain _ _ ha.view.1 hb.view.1 z
    exact absurd (by injection this) h
theorem DueIs.uniq {gs : List Ent} {m : Met} {ds : List (Int × Int)} (h : DueIs gs m gs.length ds) (ho : Once gs) (hk : ∀ e ∈ gs, MOk e.m) (hm : MOk m) : ∀ rs, LotsIs gs m.1 m.2 rs → rs = ds := by
  intro rs hr
  rcases hr with ⟨k, e, h1, h2, h3⟩ | ⟨h1, rfl⟩
  · have e1 := (key_view (hk e (List.mem_of_getElem? h1)) hm).mp h2
    have kl := (List.getElem?_eq_some_iff.mp h1).1
    rcases h with ⟨k', e', _, g1, g2, g3, rfl⟩ | ⟨g1, rfl⟩
    · obtain rfl := once_eq ho h1 g1 (by rw [e1, g2])
      rcases h3 with ⟨_, rfl⟩ | ⟨n, _⟩
      · rfl
      · exact absurd g3 n
    · rcases h3 with ⟨n, _⟩ | ⟨_, rfl⟩
      · exact absurd ⟨e1, n⟩ (g1 k e kl h1)
      · rfl
  · rcases h with ⟨k', e', _, g1, g2, _, rfl⟩ | ⟨_, rfl⟩
    · exact absurd (by rw [g2]) (h1 e' (List.mem_of_getElem? g1))
    · rfl
theorem stays_due {ds : List (Int × Int)} : Stays fun H k y => ∃ z t, ds[k]? = some z ∧ y = .ref t ∧ H t = some (.tup [.int z.1, .int z.2]) :=
  ⟨fun H H' k y s ⟨z, t, a, b, c⟩ => ⟨z, t, a, b, s _ _ c⟩, fun H D zs zs' k y e ⟨z, t, a, b, c⟩ => ⟨z, t, a, b, by rw [upd_ne (ne_of c e (by intro z; cases z))]; exact c⟩⟩
theorem due_of {H : Hp} {D : Addr} {ys : List V} {ds : List (Int × Int)} (e : H D = some (.lst ys)) (hl : ys.length = ds.length) (h : ∀ (k : Nat) y, ys[k]? = some y → ∃ z t, ds[k]? = some z ∧ y = .ref t ∧ H t = some (.tup [.int z.1, .int z.2])) : DueAt H D ds :=
  ⟨ys, e, hl, fun k z hz => by
    obtain ⟨y, hy⟩ : ∃ y, ys[k]? = some y := ⟨_, List.getElem?_eq_getElem (by have := (List.getElem?_eq_some_iff.mp hz).1; omega)⟩
    obtain ⟨z', t, a, rfl, c⟩ := h k y hy
    rw [hz] at a
    cases a
    exact ⟨t, hy, c⟩⟩

inductive Tr where
  | fin (p : Int)
  | lot (ps : List Tr)
  | turn (pl : Int) (v : List PyData) (ps : List Tr)
mutual
inductive TrAt (K : PySem.W.Frag) (CE CL CT : Addr) (H : Hp) : V → Tr → Prop where
  | fin {a dx : Addr} {p : Int} : H a = some (.ins CE dx (F_End (.int p))) → TrAt K CE CL CT H (.ref a) (.fin p)
  | lot {a dx t : Addr} {xs : List V} {ps : List Tr} : H a = some (.ins CL dx (F_Lot (.ref t))) → H t = some (.tup xs) → TrsAt K CE CL CT H xs ps → TrAt K CE CL CT H (.ref a) (.lot ps)
  | turn {a dx v t : Addr} {pl : Int} {vd : List PyData} {xs : List V} {ps : List Tr} : H a = some (.ins CT dx (F_Turn (.int pl) (.ref v) (.ref t))) → Dp K H (.ref v) (.tuple vd) → Itms vd → H t = some (.tup xs) → TrsAt K CE CL CT H xs ps → TrAt K CE CL CT H (.ref a) (.turn pl vd ps)
inductive TrsAt (K : PySem.W.Frag) (CE CL CT : Addr) (H : Hp) : List V → List Tr → Prop where
  | nil : TrsAt K CE CL CT H [] []
  | cons {x : V} {xs : List V} {t : Tr} {ts : List Tr} : TrAt K CE CL CT H x t → TrsAt K CE CL CT H xs ts → TrsAt K CE CL CT H (x :: xs) (t :: ts)
end
theorem Itms.plain {ds : List PyData} (h : Itms ds) : plainK (.tuple ds) = true ∧ (keyD (.tuple ds)).depth ≤ 2 := by
  refine ⟨by simp only [plainK, h.k], ?_⟩
  have := h.n
  simp only [keyD, NestedKey.depth]
  omega
mutual
theorem trAt_off {K : PySem.W.Frag} {CE CL CT : Addr} {S : Addr → Prop} {H H' : Hp} (o : Off S H H') (n : NoT S H) (ni : ∀ c C dx fs, S c → H c ≠ some (.ins C dx fs)) : ∀ (t : Tr) (v : V), TrAt K CE CL CT H v t → TrAt K CE CL CT H' v t
  | .fin p, _, h => by
    cases h with
    | fin e => exact .fin (o _ _ (fun z => ni _ _ _ _ z e) e)
  | .lot ps, _, h => by
    cases h with
    | lot e e2 hs => exact .lot (o _ _ (fun z => ni _ _ _ _ z e) e) (o _ _ (fun z => (n _ _ z).1 e2) e2) (trsAt_off o n ni ps _ hs)
  | .turn pl vd ps, _, h => by
    cases h with
    | turn e dv iv e2 hs => exact .turn (o _ _ (fun z => ni _ _ _ _ z e) e) (dp_off o n _ _ iv.plain.1 dv) iv (o _ _ (fun z => (n _ _ z).1 e2) e2) (trsAt_off o n ni ps _ hs)
theorem trsAt_off {K : PySem.W.Frag} {CE CL CT : Addr} {S : Addr → Prop} {H H' : Hp} (o : Off S H H') (n : NoT S H) (ni : ∀ c C dx fs, S c → H c ≠ some (.ins C dx fs)) : ∀ (ts : List Tr) (vs : List V), TrsAt K CE CL CT H vs ts → TrsAt K CE CL CT H' vs ts
  | [], _, h => by cases h; exact .nil
  | t :: ts, _, h => by
    cases h with
    | cons h1 h2 => exact .cons (trAt_off o n ni t _ h1) (trsAt_off o n ni ts _ h2)
end
theorem trAt_same {K : PySem.W.Frag} {CE CL CT : Addr} {H H' : Hp} (s : Same H H') {t : Tr} {v : V} (h : TrAt K CE CL CT H v t) : TrAt K CE CL CT H' v t := trAt_off (S := fun _ => False) (fun c o _ e => s c o e) (fun c xs z => z.elim) (fun c C dx fs z => z.elim) t v h
theorem trsAt_same {K : PySem.W.Frag} {CE CL CT : Addr} {H H' : Hp} (s : Same H H') {t : List Tr} {v : List V} (h : TrsAt K CE CL CT H v t) : TrsAt K CE CL CT H' v t := trsAt_off (S := fun _ => False) (fun c o _ e => s c o e) (fun c xs z => z.elim) (fun c C dx fs z => z.elim) t v h
theorem trsAt_len {K : PySem.W.Frag} {CE CL CT : Addr} {H : Hp} : ∀ {ts : List Tr} {vs : List V}, TrsAt K CE CL CT H vs ts → vs.length = ts.length
  | [], _, h => by cases h; rfl
  | t :: ts, _, h => by
    cases h with
    | cons h1 h2 => rw [List.length_cons, List.length_cons, trsAt_len h2]
theorem trsAt_get {K : PySem.W.Frag} {CE CL CT : Addr} {H : Hp} : ∀ {ts : List Tr} {vs : List V} {i : Nat} {t : Tr}, TrsAt K CE CL CT H vs ts → ts[i]? = some t → ∃ v, vs[i]? = some v ∧ TrAt K CE CL CT H v t
  | [], _, _, _, _, h => by simp at h
  | t :: ts, _, 0, _, h, e => by
    cases e
    cases h with
    | cons h1 h2 => exact ⟨_, rfl, h1⟩
  | t :: ts, _, i + 1, u, h, e => by
    have e' : ts[i]? = some u := by simpa using e
    cases h with
    | cons h1 h2 =>
      obtain ⟨v, hv, hv2⟩ := trsAt_get h2 e'
      exact ⟨v, by simpa using hv, hv2⟩
theorem trsAt_snoc {K : PySem.W.Frag} {CE CL CT : Addr} {H : Hp} {t : Tr} {v : V} (h : TrAt K CE CL CT H v t) : ∀ {ts : List Tr} {vs : List V}, TrsAt K CE CL CT H vs ts → TrsAt K CE CL CT H (vs ++ [v]) (ts ++ [t])
  | [], _, k => by cases k; exact .cons h .nil
  | _ :: _, _, k => by
    cases k with
    | cons h1 h2 => exact .cons h1 (trsAt_snoc h h2)
/-- the place of a path among the payments -/
def idxD (st : List Stg) (path : List Int) : Nat → Int
  | 0 => 0
  | k + 1 => match st[k]?, path[k]? with
    | some s, some x => idxD st path k * s.n + x
    | _, _ => idxD st path k
def PathIn (st : List Stg) (path : List Int) : Prop := ∀ (j : Nat) x s, path[j]? = some x → st[j]? = some s → 0 ≤ x ∧ x < s.n
theorem idx_bd {st : List Stg} {path : List Int} (h : PathIn st path) : ∀ {k : Nat}, k ≤ path.length → k ≤ st.length → 0 ≤ idxD st path k ∧ idxD st path k < prodN (st.take k)
  | 0, _, _ => ⟨Int.le_refl _, by show (0 : Int) < 1; decide⟩
  | k + 1, hp, hs => by
    obtain ⟨h1, h2⟩ := idx_bd h (k := k) (by omega) (by omega)
    have es : st[k]? = some st[k] := List.getElem?_eq_getElem (by omega)
    have ep : path[k]? = some path[k] := List.getElem?_eq_getElem (by omega)
    have hb := h k _ _ ep es
    have e : idxD st path (k + 1) = idxD st path k * (st[k]).n + path[k] := by
      show (match st[k]?, path[k]? with | some s, some x => _ | _, _ => _) = _
      rw [es, ep]
    rw [e, List.take_add_one, es, Option.toList_some, prodN_snoc]
    have h3 := Int.mul_nonneg h1 (show 0 ≤ (st[k]).n by omega)
    have h4 : (idxD st path k + 1) * (st[k]).n ≤ prodN (st.take k) * (st[k]).n := Int.mul_le_mul_of_nonneg_right (by omega) (by omega)
    rw [Int.add_mul] at h4
    omega
/-- the tree below a path -/
def nodeD (st : List Stg) (paid : List Int) : Nat → List Int → Tr
  | 0, path => .fin (paid.getD (idxD st path path.length).toNat 0)
  | f + 1, path => match st[path.length]? with
    | some s => if s.w = 0 then .lot ((List.range s.n.toNat).map fun (j : Nat) => nodeD st paid f (path ++ [(j : Int)])) else .turn s.w (askD st path s) ((List.range s.n.toNat).map fun (j : Nat) => nodeD st paid f (path ++ [(j : Int)]))
    | none => .fin 0
theorem nodeD_at {st : List Stg} {paid : List Int} {f : Nat} {path : List Int} {s : Stg} (h : st[path.length]? = some s) : nodeD st paid (f + 1) path = if s.w = 0 then .lot ((List.range s.n.toNat).map fun (j : Nat) => nodeD st paid f (path ++ [(j : Int)])) else .turn s.w (askD st path s) ((List.range s.n.toNat).map fun (j : Nat) => nodeD st paid f (path ++ [(j : Int)])) := by
  show (match st[path.length]? with | some s => _ | none => _) = _
  rw [h]
theorem path_snoc {st : List Stg} {path : List Int} {x : Int} {s : Stg} (h : PathIn st path) (hs : st[path.length]? = some s) (hx : 0 ≤ x ∧ x < s.n) : PathIn st (path ++ [x]) := fun j y s' hy hs' => by
  rcases Nat.lt_or_ge j path.length with z | z
  · rw [List.getElem?_append_left z] at hy
    exact h j y s' hy hs'
  · have hj := (List.getElem?_eq_some_iff.mp hy).1
    rw [List.length_append, List.length_singleton] at hj
    obtain rfl : j = path.length := by omega
    rw [List.getElem?_append_right (Nat.le_refl _), Nat.sub_self] at hy
    cases hy
    rw [hs] at hs'
    cases hs'
    exact hx
theorem ask_itms {st : List Stg} {path : List Int} {s : Stg} : Itms (askD st path s) := itms fun d h => by
  rcases List.mem_append.mp h with h | h
  · exact vStep_itm _ _ _ _ d h
  · rw [List.mem_singleton.mp h]
    exact itm_move _ _
def kAdd (acc : List Met) (m : Met) : List Met := if (acc.any fun z => decide (keyD (.tuple z.1) = keyD (.tuple m.1))) = true then acc else acc ++ [m]
mutual
/-- the views of a tree, in the order in which they are met -/
def collD (pl : Int) : Tr → List Met → List Met
  | .fin _, acc => acc
  | .lot ps, acc => collsD pl ps acc
  | .turn p v ps, acc => collsD pl ps (if p = pl then kAdd acc (v, (ps.length : Int)) else acc)
def collsD (pl : Int) : List Tr → List Met → List Met
  | [], acc => acc
  | t :: ts, acc => collsD pl ts (collD pl t acc)
end
mutual
def hgt : Tr → Nat
  | .fin _ => 0
  | .lot ps => hgts ps + 1
  | .turn _ _ ps => hgts ps + 1
def hgts : List Tr → Nat
  | [] => 0
  | t :: ts => max (hgt t) (hgts ts)
end
mutual
def szT : Tr → Nat
  | .fin _ => 1
  | .lot ps => szTs ps + 1
  | .turn _ _ ps => szTs ps + 1
def szTs : List Tr → Nat
  | [] => 0
  | t :: ts => szT t + szTs ts
end
theorem collsD_snoc {pl : Int} {t : Tr} : ∀ {ts : List Tr} {acc : List Met}, collsD pl (ts ++ [t]) acc = collD pl t (collsD pl ts acc)
  | [], acc => rfl
  | u :: ts, acc => by
    show collsD pl (ts ++ [t]) (collD pl u acc) = collD pl t (collsD pl ts (collD pl u acc))
    exact collsD_snoc
theorem hgts_mem {t : Tr} : ∀ {ts : List Tr}, t ∈ ts → hgt t ≤ hgts ts
  | u :: ts, h => by
    show hgt t ≤ max (hgt u) (hgts ts)
    rcases List.mem_cons.mp h with h' | h'
    · rw [h']
      omega
    · have := hgts_mem h'
      omega
theorem szTs_take {t : Tr} : ∀ {ts : List Tr} {i : Nat}, ts[i]? = some t → szTs (ts.take i) + szT t ≤ szTs ts
  | u :: ts, 0, h => by
    have e : u = t := by simpa using h
    rw [e]
    show 0 + szT t ≤ szT t + szTs ts
    omega
  | u :: ts, i + 1, h => by
    have h' : ts[i]? = some t := by simpa using h
    have := szTs_take h'
    show szT u + szTs (ts.take i) + szT t ≤ szT u + szTs ts
    omega
theorem kAdd_len {acc : List Met} {m : Met} : (kAdd acc m).length ≤ acc.length + 1 := by
  unfold kAdd
  split
  · exact Nat.le_succ _
  · rw [List.length_append]; exact Nat.le_refl _
mutual
theorem coll_len {pl : Int} : ∀ (t : Tr) (acc : List Met), (collD pl t acc).length ≤ acc.length + szT t
  | .fin _, acc => Nat.le_succ _
  | .lot ps, acc => by
    have := colls_len (pl := pl) ps acc
    show (collsD pl ps acc).length ≤ acc.length + (szTs ps + 1)
    omega
  | .turn p v ps, acc => by
    have := colls_len (pl := pl) ps (if p = pl then kAdd acc (v, (ps.length : Int)) else acc)
    have h2 : (if p = pl then kAdd acc (v, (ps.length : Int)) else acc).length ≤ acc.length + 1 := by
      split
      · exact kAdd_len
      · exact Nat.le_succ _
    show (collsD pl ps _).length ≤ acc.length + (szTs ps + 1)
    omega
theorem colls_len {pl : Int} : ∀ (ts : List Tr) (acc : List Met), (collsD pl ts acc).length ≤ acc.length + szTs ts
  | [], acc => Nat.le_refl _
  | t :: ts, acc => by
    have h1 := coll_len (pl := pl) t acc
    have h2 := colls_len (pl := pl) ts (collD pl t acc)
    show (collsD pl ts (collD pl t acc)).length ≤ acc.length + (szT t + szTs ts)
    omega
end
/-- the dict of the views that were found -/
structure DAt (P : Program) (w : World) (K : PySem.W.Frag) (H : Hp) (d : Addr) (ms : List Met) : Prop where
  ex : ∃ xs : List NRow, H d = some (ndO P w d xs) ∧ xs.length = ms.length ∧ ∀ (k : Nat) m, ms[k]? = some m → ∃ v, xs[k]? = some (.tuple m.1, v, .int m.2) ∧ Dp K H (.ref v) (.tuple m.1)
  ok : ∀ m ∈ ms, Itms m.1
theorem DAt.row {P : Program} {w : World} {K : PySem.W.Frag} {H : Hp} {d : Addr} {ms : List Met} (h : DAt P w K H d ms) : ∃ xs : List NRow, H d = some (ndO P w d xs) ∧ xs.length = ms.length ∧ NKeys K H xs ∧ (∀ key, (nAt xs key).isSome = ms.any fun z => decide (keyD (.tuple z.1) = key)) ∧ ∀ (k : Nat) m, ms[k]? = some m → ∃ v, xs[k]? = some (.tuple m.1, v, .int m.2) ∧ Dp K H (.ref v) (.tuple m.1) := by
  obtain ⟨xs, e, hl, hf⟩ := h.ex
  have back : ∀ (k : Nat) y, xs[k]? = some y → ∃ m v, ms[k]? = some m ∧ y = (.tuple m.1, v, .int m.2) ∧ Dp K H (.ref v) (.tuple m.1) := fun k y hy => by
    obtain ⟨m, hm⟩ : ∃ m, ms[k]? = some m := ⟨_, List.getElem?_eq_getElem (by have := (List.getElem?_eq_some_iff.mp hy).1; omega)⟩
    obtain ⟨v, e1, e2⟩ := hf k m hm
    rw [hy] at e1
    cases e1
    exact ⟨m, v, hm, rfl, e2⟩
  refine ⟨xs, e, hl, fun y hy => ?_, fun key => ?_, hf⟩
  · obtain ⟨k, hk⟩ := List.mem_iff_getElem?.mp hy
    obtain ⟨m, v, e1, rfl, e2⟩ := back k y hk
    have it := (h.ok m (List.mem_of_getElem? e1)).plain
    exact ⟨it.1, by have := it.2; show (keyD (.tuple m.1)).depth ≤ 8; omega, e2⟩
  · rw [nAt_any, Bool.eq_iff_iff, List.any_eq_true, List.any_eq_true]
    constructor
    · rintro ⟨y, hy, hd⟩
      obtain ⟨k, hk⟩ := List.mem_iff_getElem?.mp hy
      obtain ⟨m, v, e1, rfl, _⟩ := back k y hk
      exact ⟨m, List.mem_of_getElem? e1, hd⟩
    · rintro ⟨m, hm, hd⟩
      obtain ⟨k, hk⟩ := List.mem_iff_getElem?.mp hm
      obtain ⟨v, e1, _⟩ := hf k m hk
      exact ⟨_, List.mem_of_getElem? e1, hd⟩
theorem noT_nd {P : Program} {w : World} {H : Hp} {d : Addr} {xs : List NRow} (e : H d = some (ndO P w d xs)) : NoT (fun c => c = d) H ∧ ∀ c C dx fs, c = d → H c ≠ some (.ins C dx fs) := ⟨fun c ys z => by
  rw [z, e]
  exact ⟨fun e => (by cases e), fun o e => (by cases e)⟩, fun c C dx fs z => by
  rw [z, e]
  intro e
  cases e⟩

/-! the views at which a player is asked -/
theorem prodN_pos : ∀ {st : List Stg}, (∀ s ∈ st, 1 ≤ s.n) → 1 ≤ prodN st
  | [], _ => by decide
  | s :: r, h => by
    have h1 := h s List.mem_cons_self
    have h2 : 1 ≤ prodN r := prodN_pos fun x hx => h x (List.mem_cons_of_mem _ hx)
    have := Int.mul_le_mul h1 h2 (by decide) (by omega)
    show 1 ≤ s.n * prodN r
    omega
theorem prodN_take : ∀ {st : List Stg}, (∀ s ∈ st, 1 ≤ s.n) → ∀ k, prodN (st.take k) ≤ prodN st
  | [], _, k => by simp
  | s :: r, h, 0 => prodN_pos h
  | s :: r, h, k + 1 => by
    have h1 := h s List.mem_cons_self
    have h2 : prodN (r.take k) ≤ prodN r := prodN_take (fun x hx => h x (List.mem_cons_of_mem _ hx)) k
    show s.n * prodN (r.take k) ≤ s.n * prodN r
    exact Int.mul_le_mul_of_nonneg_left h2 (by omega)
theorem flat_card {n : Nat} : ∀ l : List (List Int), (l.flatMap fun p => (List.range n).map fun (j : Nat) => p ++ [(j : Int)]).length = l.length * n
  | [] => by simp
  | p :: l => by
    rw [List.flatMap_cons, List.length_append, flat_card l, List.length_map, List.length_range, List.length_cons, Nat.add_mul]
    omega
theorem pStep_card {st : List Stg} (h : ∀ s ∈ st, 1 ≤ s.n) : ∀ {k : Nat}, k ≤ st.length → ((pStep st k).length : Int) = prodN (st.take k)
  | 0, _ => rfl
  | k + 1, hk => by
    have e : st[k]? = some st[k] := List.getElem?_eq_getElem (by omega)
    have h1 := h _ (List.mem_of_getElem? e)
    rw [pStep_at e, flat_card, List.take_add_one, e, Option.toList_some, prodN_snoc, ← pStep_card h (by omega), Int.natCast_mul]
    congr 1
    omega
theorem pStep_take {st : List Stg} : ∀ {n : Nat}, n ≤ st.length → ∀ {j : Nat}, j ≤ n → ∀ p ∈ pStep st n, p.take j ∈ pStep st j
  | 0, _, j, hj, p, h => by
    obtain rfl : j = 0 := by omega
    rw [List.take_zero]
    exact List.mem_singleton.mpr rfl
  | n + 1, hn, j, hj, p, h => by
    have pl := pStep_mem hn p h
    rcases Nat.lt_or_ge n j with z | z
    · obtain rfl : j = n + 1 := by omega
      rw [List.take_of_length_le (by omega)]
      exact h
    · have e : st[n]? = some st[n] := List.getElem?_eq_getElem (by omega)
      rw [pStep_at e] at h
      obtain ⟨q, hq, hp⟩ := List.mem_flatMap.mp h
      obtain ⟨i, _, rfl⟩ := List.mem_map.mp hp
      have ql := pStep_mem (by omega) q hq
      rw [List.take_append_of_le_length (by omega)]
      exact pStep_take (by omega) z q hq
theorem pStep_val {st : List Stg} : ∀ {n : Nat}, n ≤ st.length → ∀ p ∈ pStep st n, ∀ (j : Nat) x s, p[j]? = some x → st[j]? = some s → 0 ≤ x ∧ x < s.n
  | 0, _, p, h, j, x, s, hx, _ => by
    rw [List.mem_singleton.mp h] at hx
    simp at hx
  | n + 1, hn, p, h, j, x, s, hx, hs => by
    have e : st[n]? = some st[n] := List.getElem?_eq_getElem (by omega)
    rw [pStep_at e] at h
    obtain ⟨q, hq, hp⟩ := List.mem_flatMap.mp h
    obtain ⟨i, hi, rfl⟩ := List.mem_map.mp hp
    have ql := pStep_mem (by omega) q hq
    rcases Nat.lt_or_ge j n with z | z
    · rw [List.getElem?_append_left (by omega)] at hx
      exact pStep_val (by omega) q hq j x s hx hs
    · have hj := (List.getElem?_eq_some_iff.mp hx).1
      rw [List.length_append, List.length_singleton] at hj
      obtain rfl : j = n := by omega
      rw [List.getElem?_append_right (by omega), ql, Nat.sub_self] at hx
      cases hx
      rw [e] at hs
      cases hs
      have := List.mem_range.mp hi
      omega
def candL (st : List Stg) : Nat → List Met
  | 0 => []
  | k + 1 => candL st k ++ (match st[k]? with | some s => (pStep st k).map (fun p => (askD st p s, s.n)) | none => [])
theorem sum_const {n : Int} {f : List Int → List PyData} : ∀ l : List (List Int), ((l.map fun p => ((f p, n) : Met)).map (·.2)).sum = l.length * n
  | [] => by simp
  | p :: l => by
    have := sum_const (n := n) (f := f) l
    rw [List.map_cons, List.map_cons, List.sum_cons, this, List.length_cons]
    push_cast
    rw [Int.add_mul]
    omega
theorem cand_sum {st : List Stg} {M : Int} (h : ∀ s ∈ st, 1 ≤ s.n) (hM : prodN st ≤ M) : ∀ {k : Nat}, k ≤ st.length → ((candL st k).map (·.2)).sum ≤ k * M
  | 0, _ => by simp [candL]
  | k + 1, hk => by
    have ih := cand_sum h hM (k := k) (by omega)
    have e : st[k]? = some st[k] := List.getElem?_eq_getElem (by omega)
    have p := prodN_take h (k + 1)
    rw [List.take_add_one, e, Option.toList_some, prodN_snoc, ← pStep_card h (by omega)] at p
    unfold candL
    rw [e, List.map_append, List.sum_append, sum_const]
    push_cast
    rw [Int.add_mul]
    omega
theorem cand_mem {st : List Stg} {p : List Int} {s : Stg} {k : Nat} (hs : st[k]? = some s) (hp : p ∈ pStep st k) : ∀ {n : Nat}, k < n → (askD st p s, s.n) ∈ candL st n
  | n + 1, hk => by
    unfold candL
    rcases Nat.lt_or_ge k n with z | z
    · exact List.mem_append_left _ (cand_mem hs hp z)
    · obtain rfl : k = n := by omega
      refine List.mem_append_right _ ?_
      rw [hs]
      exact List.mem_map.mpr ⟨p, hp, rfl⟩
theorem sum_nn : ∀ {b : List Met}, (∀ x ∈ b, 0 ≤ x.2) → 0 ≤ (b.map (·.2)).sum
  | [], _ => by simp
  | y :: r, h => by
    have h1 := h y List.mem_cons_self
    have h2 : 0 ≤ (r.map (·.2)).sum := sum_nn fun x hx => h x (List.mem_cons_of_mem _ hx)
    rw [List.map_cons, List.sum_cons]
    omega
/-- a list without repeats sums to at most what holds all its items -/
theorem nodup_sum : ∀ {a b : List Met}, a.Pairwise (· ≠ ·) → (∀ x ∈ a, x ∈ b) → (∀ x ∈ b, 0 ≤ x.2) → (a.map (·.2)).sum ≤ (b.map (·.2)).sum
  | [], b, _, _, h => sum_nn h
  | x :: a, b, hp, hs, h => by
    obtain ⟨u, v, rfl⟩ := List.append_of_mem (hs x List.mem_cons_self)
    rw [List.pairwise_cons] at hp
    have ih := nodup_sum (a := a) (b := u ++ v) hp.2 (fun y hy => by
      rcases List.mem_append.mp (hs y (List.mem_cons_of_mem _ hy)) with z | z
      · exact List.mem_append_left _ z
      · rcases List.mem_cons.mp z with z | z
        · exact absurd z.symm (hp.1 y hy)
        · exact List.mem_append_right _ z) fun y hy => h y (by
      rcases List.mem_append.mp hy with z | z
      · exact List.mem_append_left _ z
      · exact List.mem_append_right _ (List.mem_cons_of_mem _ z))
    rw [List.map_append, List.sum_append] at ih
    rw [List.map_cons, List.sum_cons, List.map_append, List.sum_append, List.map_cons, List.sum_cons]
    omega
theorem mAdd_keep {acc : List Met} {o : Option Met} {x : Met} (h : x ∈ acc) : x ∈ mAdd acc o := by
  cases o with
  | none => exact h
  | some m =>
    show x ∈ (if _ then _ else _ : List Met)
    split
    · exact h
    · exact List.mem_append_left _ h
theorem mAdd_has {acc : List Met} {m : Met} (ok : ∀ x ∈ acc, MOk x) (hm : MOk m) : m ∈ mAdd acc (some m) := by
  cases z : acc.any fun z => PyData.eqv (mD z) (mD m) with
  | false =>
    rw [mAdd_new z]
    exact List.mem_append_right _ (List.mem_singleton.mpr rfl)
  | true =>
    rw [mAdd_old z]
    obtain ⟨x, hx, he⟩ := List.any_eq_true.mp z
    have := eqv_plain _ _ (ok x hx).lay.1 hm.lay.1 he
    have e : x = m := by
      simp only [mD, PyData.tuple.injEq, List.cons.injEq, PyData.int.injEq] at this
      exact Prod.ext this.1 this.2.1
    rw [← e]
    exact hx
theorem mAdd_sub {acc : List Met} {o : Option Met} {x : Met} (h : x ∈ mAdd acc o) : x ∈ acc ∨ o = some x := by
  cases o with
  | none => exact .inl h
  | some m =>
    have h : x ∈ (if _ then acc else acc ++ [m] : List Met) := h
    split at h
    · exact .inl h
    · rcases List.mem_append.mp h with h | h
      · exact .inl h
      · rw [List.mem_singleton.mp h]; exact .inr rfl
theorem mRow_keep {st : List Stg} {pl : Int} {p : List Int} {acc : List Met} {x : Met} (h : x ∈ acc) : ∀ n, x ∈ mRow st pl p acc n
  | 0 => h
  | n + 1 => by rw [mRow_succ]; exact mAdd_keep (mRow_keep h n)
theorem mRow_ok {st : List Stg} {pl : Int} {p : List Int} {acc : List Met} (hl : st.length ≤ 4) (ok : ∀ s ∈ st, 1 ≤ s.n ∧ s.n ≤ 3) (h : Mets acc) : ∀ {n : Nat}, n ≤ p.length → Mets (mRow st pl p acc n)
  | 0, _ => h
  | n + 1, hn => by rw [mRow_succ]; exact (mRow_ok hl ok h (by omega)).add fun m hm => mItem_ok hl ok (by omega) hm
theorem mRow_has {st : List Stg} {pl : Int} {p : List Int} {acc : List Met} {k : Nat} {m : Met} (hl : st.length ≤ 4) (ok : ∀ s ∈ st, 1 ≤ s.n ∧ s.n ≤ 3) (h : Mets acc) (hm : mItem st pl p k = some m) : ∀ {n : Nat}, n ≤ p.length → k < n → m ∈ mRow st pl p acc n
  | n + 1, hn, hk => by
    rw [mRow_succ]
    rcases Nat.lt_or_ge k n with z | z
    · exact mAdd_keep (mRow_has hl ok h hm (by omega) z)
    · obtain rfl : k = n := by omega
      rw [hm]
      exact mAdd_has (mRow_ok hl ok h (by omega)).ok (mItem_ok hl ok (by omega) hm)
theorem mRow_sub {st : List Stg} {pl : Int} {p : List Int} {acc : List Met} {x : Met} : ∀ {n : Nat}, x ∈ mRow st pl p acc n → x ∈ acc ∨ ∃ k, k < n ∧ mItem st pl p k = some x
  | 0, h => .inl h
  | n + 1, h => by
    rw [mRow_succ] at h
    rcases mAdd_sub h with h | h
    · rcases mRow_sub h with h | ⟨k, h1, h2⟩
      · exact .inl h
      · exact .inr ⟨k, by omega, h2⟩
    · exact .inr ⟨n, Nat.lt_succ_self n, h⟩
theorem mRows_all {st : List Stg} {pl : Int} (hl : st.length ≤ 4) (ok : ∀ s ∈ st, 1 ≤ s.n ∧ s.n ≤ 3) : ∀ (ps : List (List Int)) (acc : List Met), (∀ p ∈ ps, p.length = st.length) → Mets acc →
    (∀ x ∈ acc, x ∈ ps.foldl (fun a p => mRow st pl p a st.length) acc) ∧ (∀ p ∈ ps, ∀ k m, k < st.length → mItem st pl p k = some m → m ∈ ps.foldl (fun a p => mRow st pl p a st.length) acc) ∧
    (∀ x ∈ ps.foldl (fun a p => mRow st pl p a st.length) acc, x ∈ acc ∨ ∃ p k, p ∈ ps ∧ k < st.length ∧ mItem st pl p k = some x) ∧ Mets (ps.foldl (fun a p => mRow st pl p a st.length) acc)
  | [], acc, _, h => ⟨fun x hx => hx, fun p h => (nomatch h), fun x hx => .inl hx, h⟩
  | p :: ps, acc, hp, h => by
    have pl0 := hp p List.mem_cons_self
    have ok1 := mRow_ok (pl := pl) (p := p) hl ok h (n := st.length) (by omega)
    obtain ⟨a1, a2, a3, a4⟩ := mRows_all hl ok ps (mRow st pl p acc st.length) (fun q hq => hp q (List.mem_cons_of_mem _ hq)) ok1
    refine ⟨fun x hx => a1 x (mRow_keep hx _), fun q hq k m hk hm => ?_, fun x hx => ?_, a4⟩
    · rcases List.mem_cons.mp hq with rfl | hq
      · exact a1 m (mRow_has hl ok h hm (by omega) hk)
      · exact a2 q hq k m hk hm
    · rcases a3 x hx with hx | ⟨q, k, h1, h2, h3⟩
      · rcases mRow_sub hx with hx | ⟨k, h1, h2⟩
        · exact .inl hx
        · exact .inr ⟨p, k, List.mem_cons_self, h1, h2⟩
      · exact .inr ⟨q, k, List.mem_cons_of_mem _ h1, h2, h3⟩
theorem metD_has {st : List Stg} {pl : Int} (hl : st.length ≤ 4) (ok : ∀ s ∈ st, 1 ≤ s.n ∧ s.n ≤ 3) {p : List Int} (hp : p ∈ pathsD st) {k : Nat} {s : Stg} (hs : st[k]? = some s) (hw : s.w = pl) : (askD st (p.take k) s, s.n) ∈ metD st pl :=
  (mRows_all hl ok (pathsD st) [] (fun p h => pStep_mem (Nat.le_refl _) p h) ⟨fun _ h => (nomatch h), .nil⟩).2.1 p hp k _ (List.getElem?_eq_some_iff.mp hs).1 (by unfold mItem; rw [hs]; exact if_pos hw)
theorem metD_sub {st : List Stg} {pl : Int} (hl : st.length ≤ 4) (ok : ∀ s ∈ st, 1 ≤ s.n ∧ s.n ≤ 3) : ∀ m ∈ metD st pl, ∃ p k s, p ∈ pathsD st ∧ st[k]? = some s ∧ s.w = pl ∧ m = (askD st (p.take k) s, s.n) := by
  intro m hm
  rcases (mRows_all hl ok (pathsD st) [] (fun p h => pStep_mem (Nat.le_refl _) p h) ⟨fun _ h => (nomatch h), .nil⟩).2.2.1 m hm with h | ⟨p, k, h1, h2, h3⟩
  · exact nomatch h
  · unfold mItem at h3
    split at h3
    · rename_i s e
      split at h3
      · rename_i hw
        cases h3
        exact ⟨p, k, s, h1, e, hw, rfl⟩
      · cases h3
    · cases h3
theorem metD_sum {st : List Stg} {pl : Int} (hl : st.length ≤ 4) (ok : ∀ s ∈ st, 1 ≤ s.n ∧ s.n ≤ 3) (hM : prodN st ≤ 30) : ((metD st pl).map (·.2)).sum ≤ 120 := by
  have hm := (mRows_all (pl := pl) hl ok (pathsD st) [] (fun p h => pStep_mem (Nat.le_refl _) p h) ⟨fun _ h => (nomatch h), .nil⟩).2.2.2
  have ok1 : ∀ s ∈ st, 1 ≤ s.n := fun s h => (ok s h).1
  have nd : (metD st pl).Pairwise (· ≠ ·) := by
    refine List.Pairwise.imp_of_mem ?_ hm.ne
    intro a b ha hb n e
    rw [e, SeqAt.eqv_refl _ (hm.ok b hb).lay.2.1] at n
    cases n
  have pos : ∀ {n : Nat}, n ≤ st.length → ∀ x ∈ candL st n, 0 ≤ x.2 := fun {n} => by
    induction n with
    | zero => exact fun _ x h => nomatch h
    | succ n ih =>
      intro hn x hx
      have e : st[n]? = some st[n] := List.getElem?_eq_getElem (by omega)
      unfold candL at hx
      rw [e] at hx
      rcases List.mem_append.mp hx with hx | hx
      · exact ih (by omega) x hx
      · obtain ⟨p, _, rfl⟩ := List.mem_map.mp hx
        have := ok1 _ (List.mem_of_getElem? e)
        show 0 ≤ (st[n]).n
        omega
  have h1 := nodup_sum nd (b := candL st st.length) (fun m h => by
    obtain ⟨p, k, s, h1, h2, _, rfl⟩ := metD_sub hl ok m h
    have hk := (List.getElem?_eq_some_iff.mp h2).1
    exact cand_mem h2 (pStep_take (Nat.le_refl _) (by omega) p h1) hk) (pos (Nat.le_refl _))
  have h2 := cand_sum ok1 hM (Nat.le_refl st.length)
  have h3 : (st.length : Int) * 30 ≤ 120 := by omega
  omega
/-! the rows of a view -/

/-! the views of the law's tree, met in the order of the ways -/
/-- the ways below a path, the first move slowest -/
def belowP (st : List Stg) : Nat → List Int → List (List Int)
  | 0, q => [q]
  | f + 1, q => match st[q.length]? with
    | some s => (List.range s.n.toNat).flatMap fun (j : Nat) => belowP st f (q ++ [(j : Int)])
    | none => [q]
theorem below_at {st : List Stg} {f : Nat} {q : List Int} {s : Stg} (h : st[q.length]? = some s) : belowP st (f + 1) q = (List.range s.n.toNat).flatMap fun (j : Nat) => belowP st f (q ++ [(j : Int)]) := by
  show (match st[q.length]? with | some s => _ | none => _) = _
  rw [h]
theorem pStep_below {st : List Stg} : ∀ {f k : Nat}, k + f = st.length → (pStep st k).flatMap (belowP st f) = pathsD st
  | 0, k, h => by
    obtain rfl : k = st.length := by omega
    show (pStep st st.length).flatMap (fun q => [q]) = pStep st st.length
    generalize pStep st st.length = l
    induction l with
    | nil => rfl
    | cons x l ih => rw [List.flatMap_cons, ih]; rfl
  | f + 1, k, h => by
    have e : st[k]? = some st[k] := List.getElem?_eq_getElem (by omega)
    rw [← pStep_below (f := f) (k := k + 1) (by omega), pStep_at e, List.flatMap_assoc]
    have mem := pStep_mem (st := st) (k := k) (by omega)
    generalize pStep st k = l at *
    induction l with
    | nil => rfl
    | cons x l ih =>
      rw [List.flatMap_cons, List.flatMap_cons, ih fun p hp => mem p (List.mem_cons_of_mem _ hp)]
      congr 1
      have xl := mem x List.mem_cons_self
      rw [below_at (by rw [xl]; exact e), List.flatMap_map]
theorem below_take {st : List Stg} : ∀ {f : Nat} {q : List Int}, ∀ p ∈ belowP st f q, p.take q.length = q ∧ q.length ≤ p.length
  | 0, q, p, h => by
    rw [List.mem_singleton.mp h]
    exact ⟨List.take_length, Nat.le_refl _⟩
  | f + 1, q, p, h => by
    cases e : st[q.length]? with
    | none =>
      have h : p ∈ (match st[q.length]? with | some s => _ | none => _ : List (List Int)) := h
      rw [e] at h
      rw [List.mem_singleton.mp h]
      exact ⟨List.take_length, Nat.le_refl _⟩
    | some s =>
      rw [below_at e] at h
      obtain ⟨j, _, hj⟩ := List.mem_flatMap.mp h
      obtain ⟨h1, h2⟩ := below_take p hj
      rw [List.length_append, List.length_singleton] at h1 h2
      refine ⟨?_, by omega⟩
      have := congrArg (List.take q.length) h1
      rw [List.take_take, Nat.min_eq_left (by omega), List.take_left' rfl] at this
      exact this
theorem below_len {st : List Stg} : ∀ {f : Nat} {q : List Int}, q.length + f = st.length → ∀ p ∈ belowP st f q, p.length = st.length
  | 0, q, hq, p, h => by
    rw [List.mem_singleton.mp h]
    exact hq
  | f + 1, q, hq, p, h => by
    have e : st[q.length]? = some st[q.length] := List.getElem?_eq_getElem (by omega)
    rw [below_at e] at h
    obtain ⟨j, _, hj⟩ := List.mem_flatMap.mp h
    exact below_len (by rw [List.length_append, List.length_singleton]; omega) p hj
theorem below_ne {st : List Stg} (ok : ∀ s ∈ st, 1 ≤ s.n ∧ s.n ≤ 3) : ∀ {f : Nat} {q : List Int}, ∃ p ps, belowP st f q = p :: ps
  | 0, q => ⟨q, [], rfl⟩
  | f + 1, q => by
    cases e : st[q.length]? with
    | none =>
      refine ⟨q, [], ?_⟩
      show (match st[q.length]? with | some s => _ | none => _ : List (List Int)) = _
      rw [e]
    | some s =>
      rw [below_at e]
      have h1 := ok s (List.mem_of_getElem? e)
      obtain ⟨n, hn⟩ : ∃ n, s.n.toNat = n + 1 := ⟨s.n.toNat - 1, by omega⟩
      rw [hn, List.range_succ_eq_map, List.flatMap_cons]
      obtain ⟨p, ps, h⟩ := below_ne ok (f := f) (q := q ++ [((0 : Nat) : Int)])
      rw [h]
      exact ⟨p, _, rfl⟩
theorem mItem_take {st : List Stg} {pl : Int} {p q : List Int} {k n : Nat} (h : p.take n = q.take n) (hk : k ≤ n) : mItem st pl p k = mItem st pl q k := by
  have e : p.take k = q.take k := by
    have := congrArg (List.take k) h
    rw [List.take_take, List.take_take, Nat.min_eq_left hk] at this
    exact this
  unfold mItem
  rw [e]
theorem mAdd_in {acc : List Met} {m : Met} (h : m ∈ acc) (hm : MOk m) : mAdd acc (some m) = acc :=
  mAdd_old (List.any_eq_true.mpr ⟨m, h, SeqAt.eqv_refl _ hm.lay.2.1⟩)
/-- the first k items of a path are there -/
def Had (st : List Stg) (pl : Int) (acc : List Met) (k : Nat) (q : List Int) : Prop := ∀ j, j < k → ∀ m, mItem st pl q j = some m → m ∈ acc
theorem had_row {st : List Stg} {pl : Int} {acc : List Met} {p : List Int} (hl : st.length ≤ 4) (ok : ∀ s ∈ st, 1 ≤ s.n ∧ s.n ≤ 3) : ∀ {k : Nat}, k ≤ p.length → Had st pl acc k p → mRow st pl p acc k = acc
  | 0, _, _ => rfl
  | k + 1, hk, h => by
    rw [mRow_succ, had_row hl ok (by omega) fun j hj => h j (by omega)]
    cases e : mItem st pl p k with
    | none => rfl
    | some m => exact mAdd_in (h k (by omega) m e) (mItem_ok hl ok (by omega) e)
theorem had_step {st : List Stg} {pl : Int} {acc : List Met} {p : List Int} (hl : st.length ≤ 4) (ok : ∀ s ∈ st, 1 ≤ s.n ∧ s.n ≤ 3) (ha : Mets acc) {k : Nat} (hk : k ≤ p.length) (h : Had st pl acc k p) : Had st pl (mAdd acc (mItem st pl p k)) (k + 1) p := fun j hj m hm => by
  rcases Nat.lt_or_ge j k with z | z
  · exact mAdd_keep (h j z m hm)
  · obtain rfl : j = k := by omega
    rw [hm]
    exact mAdd_has ha.ok (mItem_ok hl ok hk hm)
theorem row_step {st : List Stg} {pl : Int} {acc : List Met} {p : List Int} (hl : st.length ≤ 4) (ok : ∀ s ∈ st, 1 ≤ s.n ∧ s.n ≤ 3) (ha : Mets acc) {k : Nat} (h : Had st pl acc k p) : ∀ {n : Nat}, n ≤ p.length → k < n → mRow st pl p acc n = mRow st pl p (mAdd acc (mItem st pl p k)) n
  | n + 1, hn, hk => by
    rcases Nat.lt_or_ge k n with z | z
    · rw [mRow_succ, mRow_succ, row_step hl ok ha h (by omega) z]
    · obtain rfl : k = n := by omega
      rw [had_row hl ok (by omega) (had_step hl ok ha (by omega) h), mRow_succ, had_row hl ok (by omega) h]
abbrev rowsF (st : List Stg) (pl : Int) (acc : List Met) (ps : List (List Int)) : List Met := ps.foldl (fun a p => mRow st pl p a st.length) acc
theorem kAdd_mAdd {acc : List Met} {m : Met} (ok : ∀ x ∈ acc, MOk x) (hm : MOk m) : kAdd acc m = mAdd acc (some m) := by
  have key : (acc.any fun z => decide (keyD (.tuple z.1) = keyD (.tuple m.1))) = acc.any fun z => PyData.eqv (mD z) (mD m) := by
    rw [Bool.eq_iff_iff, List.any_eq_true, List.any_eq_true]
    constructor
    · rintro ⟨x, hx, he⟩
      have he := of_decide_eq_true he
      have k := keyD_inj _ _ (ok x hx).view.1 hm.view.1 he
      have e1 : x.1 = m.1 := by injection k
      obtain ⟨r, n, ea⟩ := (ok x hx).l
      obtain ⟨r', n', eb⟩ := hm.l
      have e2 : dMove n x.2 = dMove n' m.2 := by
        have : (r ++ [dMove n x.2]).getLast? = (r' ++ [dMove n' m.2]).getLast? := by rw [← ea, ← eb, e1]
        simpa using this
      have e3 : x.2 = m.2 := by
        simp only [dMove, PyData.tuple.injEq, List.cons.injEq, PyData.int.injEq] at e2
        exact e2.2.2.1
      have e4 : x = m := Prod.ext e1 e3
      rw [e4] at hx
      exact ⟨m, hx, SeqAt.eqv_refl _ hm.lay.2.1⟩
    · rintro ⟨x, hx, he⟩
      have := eqv_plain _ _ (ok x hx).lay.1 hm.lay.1 he
      have e : x = m := by
        simp only [mD, PyData.tuple.injEq, List.cons.injEq, PyData.int.injEq] at this
        exact Prod.ext this.1 this.2.1
      exact ⟨x, hx, by rw [e]; exact decide_eq_true rfl⟩
  unfold kAdd
  rw [key]
  rfl
theorem coll_fold {st : List Stg} {pl : Int} {paid : List Int} (hl : st.length ≤ 4) (ok : ∀ s ∈ st, 1 ≤ s.n ∧ s.n ≤ 3) (hpl : pl ≠ 0) : ∀ (f : Nat) (q : List Int) (acc : List Met), q.length + f = st.length → Mets acc → Had st pl acc q.length q →
    collD pl (nodeD st paid f q) acc = rowsF st pl acc (belowP st f q)
  | 0, q, acc, hq, ha, hh => by
    show acc = mRow st pl q acc st.length
    rw [had_row hl ok (by omega) (by rw [show st.length = q.length by omega]; exact hh)]
  | f + 1, q, acc, hq, ha, hh => by
    have e : st[q.length]? = some st[q.length] := List.getElem?_eq_getElem (by omega)
    have hn := ok _ (List.mem_of_getElem? e)
    have it : mItem st pl q q.length = if (st[q.length]).w = pl then some (askD st q st[q.length], (st[q.length]).n) else none := by
      unfold mItem
      rw [e, List.take_length]
    have ha1 : Mets (mAdd acc (mItem st pl q q.length)) := ha.add fun m hm => mItem_ok hl ok (Nat.le_refl _) hm
    have hh1 := had_step hl ok ha (Nat.le_refl _) hh
    have len : (((List.range (st[q.length]).n.toNat).map fun (j : Nat) => nodeD st paid f (q ++ [(j : Int)])).length : Int) = (st[q.length]).n := by
      rw [List.length_map, List.length_range]
      omega
    have main : collD pl (nodeD st paid (f + 1) q) acc = collsD pl ((List.range (st[q.length]).n.toNat).map fun (j : Nat) => nodeD st paid f (q ++ [(j : Int)])) (mAdd acc (mItem st pl q q.length)) := by
      rw [nodeD_at e, it]
      by_cases w0 : (st[q.length]).w = 0
      · rw [if_pos w0, if_neg (by omega)]
        rfl
      · rw [if_neg w0]
        show collsD pl _ (if _ then _ else _) = _
        by_cases wp : (st[q.length]).w = pl
        · rw [if_pos wp, if_pos wp, len, kAdd_mAdd ha.ok]
          exact mItem_ok hl ok (Nat.le_refl _) (k := q.length) (p := q) (pl := pl) (by rw [it, if_pos wp])
        · rw [if_neg wp, if_neg wp]
          rfl
    have kids : ∀ (js : List Nat) (b : List Met), Mets b → (∀ x ∈ mAdd acc (mItem st pl q q.length), x ∈ b) → collsD pl (js.map fun (j : Nat) => nodeD st paid f (q ++ [(j : Int)])) b = rowsF st pl b (js.flatMap fun (j : Nat) => belowP st f (q ++ [(j : Int)])) := by
      intro js
      induction js with
      | nil => exact fun b _ _ => rfl
      | cons j js ih =>
        intro b hb hs
        have hj : Had st pl b (q ++ [(j : Int)]).length (q ++ [(j : Int)]) := fun i hi m hm => by
          rw [List.length_append, List.length_singleton] at hi
          refine hs m (hh1 i hi m ?_)
          rw [← hm]
          exact mItem_take (n := q.length) (by rw [List.take_left' rfl, List.take_length]) (by omega)
        have ql : (q ++ [(j : Int)]).length + f = st.length := by rw [List.length_append, List.length_singleton]; omega
        rw [List.map_cons, List.flatMap_cons]
        show collsD pl _ (collD pl _ b) = List.foldl _ _ (_ ++ _)
        rw [coll_fold hl ok hpl f _ b ql hb hj, List.foldl_append]
        obtain ⟨a1, _, _, a4⟩ := mRows_all (pl := pl) hl ok (belowP st f (q ++ [(j : Int)])) b (below_len ql) hb
        exact ih _ a4 fun x hx => a1 x (hs x hx)
    rw [main, kids _ _ ha1 fun x h => h, ← below_at e]
    obtain ⟨p, ps, hp⟩ := below_ne ok (f := f + 1) (q := q)
    have pt := below_take (st := st) (f := f + 1) (q := q) p (by rw [hp]; exact List.mem_cons_self)
    have pl2 := below_len hq p (by rw [hp]; exact List.mem_cons_self)
    have same : ∀ k, k ≤ q.length → mItem st pl p k = mItem st pl q k := fun k hk => mItem_take (n := q.length) (by rw [pt.1, List.take_length]) hk
    rw [hp]
    show List.foldl _ (mRow st pl p _ st.length) ps = List.foldl _ (mRow st pl p acc st.length) ps
    rw [row_step hl ok ha (k := q.length) (p := p) (fun j hj m hm => hh j hj m (by rw [← same j (by omega)]; exact hm)) (by omega) (by omega), same _ (Nat.le_refl _)]
theorem coll_met {st : List Stg} {pl : Int} {paid : List Int} (hl : st.length ≤ 4) (ok : ∀ s ∈ st, 1 ≤ s.n ∧ s.n ≤ 3) (hpl : pl ≠ 0) : collD pl (nodeD st paid st.length []) [] = metD st pl := by
  rw [coll_fold hl ok hpl st.length [] [] (by simp) ⟨fun _ h => (nomatch h), .nil⟩ fun j hj => absurd hj (Nat.not_lt_zero _)]
  have := pStep_below (st := st) (f := st.length) (k := 0) (by omega)
  have e : belowP st st.length [] = pathsD st := by
    rw [← this]
    show _ = [[]].flatMap _
    simp
  rw [e]
  rfl
theorem metD_mets {st : List Stg} {pl : Int} (hl : st.length ≤ 4) (ok : ∀ s ∈ st, 1 ≤ s.n ∧ s.n ≤ 3) : Mets (metD st pl) :=
  (mRows_all hl ok (pathsD st) [] (fun p h => pStep_mem (Nat.le_refl _) p h) ⟨fun _ h => (nomatch h), .nil⟩).2.2.2
theorem hgts_le {n : Nat} : ∀ {ts : List Tr}, (∀ t ∈ ts, hgt t ≤ n) → hgts ts ≤ n
  | [], _ => Nat.zero_le _
  | t :: ts, h => by
    have h1 := h t List.mem_cons_self
    have h2 := hgts_le fun x hx => h x (List.mem_cons_of_mem _ hx)
    show max (hgt t) (hgts ts) ≤ n
    omega
theorem node_hgt {st : List Stg} {paid : List Int} : ∀ (f : Nat) (q : List Int), hgt (nodeD st paid f q) ≤ f
  | 0, q => Nat.le_refl _
  | f + 1, q => by
    have kids : ∀ s : Stg, hgts ((List.range s.n.toNat).map fun (j : Nat) => nodeD st paid f (q ++ [(j : Int)])) ≤ f := fun s => hgts_le fun t ht => by
      obtain ⟨j, _, rfl⟩ := List.mem_map.mp ht
      exact node_hgt f _
    cases e : st[q.length]? with
    | none =>
      show hgt (match st[q.length]? with | some s => _ | none => _) ≤ _
      rw [e]
      exact Nat.zero_le _
    | some s =>
      rw [nodeD_at e]
      split
      · exact Nat.succ_le_succ (kids s)
      · exact Nat.succ_le_succ (kids s)
def trSz : Nat → Nat
  | 0 => 1
  | f + 1 => 3 * trSz f + 1
theorem szTs_le {n : Nat} : ∀ {ts : List Tr}, (∀ t ∈ ts, szT t ≤ n) → szTs ts ≤ ts.length * n
  | [], _ => Nat.zero_le _
  | t :: ts, h => by
    have h1 := h t List.mem_cons_self
    have h2 := szTs_le fun x hx => h x (List.mem_cons_of_mem _ hx)
    show szT t + szTs ts ≤ (ts.length + 1) * n
    rw [Nat.add_mul]
    omega
theorem node_sz {st : List Stg} {paid : List Int} (ok : ∀ s ∈ st, 1 ≤ s.n ∧ s.n ≤ 3) : ∀ (f : Nat) (q : List Int), szT (nodeD st paid f q) ≤ trSz f
  | 0, q => Nat.le_refl _
  | f + 1, q => by
    cases e : st[q.length]? with
    | none =>
      show szT (match st[q.length]? with | some s => _ | none => _) ≤ _
      rw [e]
      show 1 ≤ 3 * trSz f + 1
      omega
    | some s =>
      have kids : szTs ((List.range s.n.toNat).map fun (j : Nat) => nodeD st paid f (q ++ [(j : Int)])) ≤ 3 * trSz f := by
        have hn := ok s (List.mem_of_getElem? e)
        have := szTs_le (n := trSz f) (ts := (List.range s.n.toNat).map fun (j : Nat) => nodeD st paid f (q ++ [(j : Int)])) fun t ht => by
          obtain ⟨j, _, rfl⟩ := List.mem_map.mp ht
          exact node_sz ok f _
        rw [List.length_map, List.length_range] at this
        exact Nat.le_trans this (Nat.mul_le_mul_right _ (by omega))
      rw [nodeD_at e]
      split
      · exact Nat.succ_le_succ kids
      · exact Nat.succ_le_succ kids
theorem node_small {st : List Stg} {paid : List Int} (hl : st.length ≤ 4) (ok : ∀ s ∈ st, 1 ≤ s.n ∧ s.n ≤ 3) : hgt (nodeD st paid st.length []) < 6 ∧ szT (nodeD st paid st.length []) ≤ 121 := by
  have h1 := node_hgt (st := st) (paid := paid) st.length []
  have h2 := node_sz (paid := paid) ok st.length []
  refine ⟨by omega, Nat.le_trans h2 ?_⟩
  rcases (by omega : st.length = 0 ∨ st.length = 1 ∨ st.length = 2 ∨ st.length = 3 ∨ st.length = 4) with e | e | e | e | e <;> rw [e] <;> decide
theorem paths_card {st : List Stg} (ok : ∀ s ∈ st, 1 ≤ s.n ∧ s.n ≤ 3) : ((pathsD st).length : Int) = prodN st := by
  have := pStep_card (st := st) (fun s h => (ok s h).1) (Nat.le_refl _)
  rw [List.take_length] at this
  exact this

/-! fractions, told as rational numbers -/
theorem q_ne {b : Int} (h : 0 < b) : (b : Rat) ≠ 0 := by
  intro e
  have : b = 0 := by exact_mod_cast e
  omega
theorem q_nn (q : Rat) : (0 : Int) < (q.den : Int) := by
  have := q.den_pos
  omega
theorem q_self (q : Rat) : (q.num : Rat) / ((q.den : Int) : Rat) = q := by
  rw [← Rat.divInt_eq_div]
  exact Rat.num_divInt_den q
theorem q_cross {A B C D : Int} (hB : 0 < B) (hD : 0 < D) (h : (A : Rat) / (B : Rat) = (C : Rat) / (D : Rat)) : A * D = C * B := by
  have h1 := q_ne hB
  have h2 := q_ne hD
  have : (A : Rat) * D = C * B := by grind
  exact_mod_cast this
theorem rq_self (q : Rat) : rN q.num q.den = q.num ∧ rD q.num q.den = q.den := r_self (q_nn q) q.reduced
theorem rq_mk {a b : Int} (h : 0 < b) : rN a b = ((a : Rat) / (b : Rat)).num ∧ rD a b = (((a : Rat) / (b : Rat)).den : Int) := by
  have e := q_cross (q_nn _) h (q_self ((a : Rat) / (b : Rat)))
  have := r_congr (a := a) (b := b) (by omega) (Int.ne_of_gt (q_nn ((a : Rat) / (b : Rat)))) e.symm
  rw [this.1, this.2]
  exact rq_self _
theorem rq_mul (p q : Rat) : rN (p.num * q.num) (p.den * q.den) = (p * q).num ∧ rD (p.num * q.num) (p.den * q.den) = (p * q).den := by
  have e := rq_mk (a := p.num * q.num) (b := p.den * q.den) (Int.mul_pos (q_nn p) (q_nn q))
  have h1 := q_ne (q_nn p)
  have h2 := q_ne (q_nn q)
  have : ((p.num * q.num : Int) : Rat) / ((p.den * q.den : Int) : Rat) = p * q := by
    conv => rhs; rw [← q_self p, ← q_self q]
    rw [Rat.intCast_mul, Rat.intCast_mul]
    grind
  rw [this] at e
  exact e
theorem rq_add (p q : Rat) : rN (p.num * q.den + q.num * p.den) (p.den * q.den) = (p + q).num ∧ rD (p.num * q.den + q.num * p.den) (p.den * q.den) = (p + q).den := by
  have e := rq_mk (a := p.num * q.den + q.num * p.den) (b := p.den * q.den) (Int.mul_pos (q_nn p) (q_nn q))
  have h1 := q_ne (q_nn p)
  have h2 := q_ne (q_nn q)
  have : ((p.num * q.den + q.num * p.den : Int) : Rat) / ((p.den * q.den : Int) : Rat) = p + q := by
    conv => rhs; rw [← q_self p, ← q_self q]
    rw [Rat.intCast_add, Rat.intCast_mul, Rat.intCast_mul, Rat.intCast_mul]
    grind
  rw [this] at e
  exact e
theorem q_one : (1 : Rat).num = 1 ∧ (1 : Rat).den = 1 := ⟨rfl, rfl⟩
theorem q_zero : (0 : Rat).num = 0 ∧ (0 : Rat).den = 1 := ⟨rfl, rfl⟩
theorem q_int (n : Int) : (n : Rat).num = n ∧ (n : Rat).den = 1 := ⟨rfl, rfl⟩
/-- a ratio's object -/
def RatQ (C : Addr) (H : Hp) (z : Addr) (q : Rat) : Prop := RatAt C H z q.num q.den
theorem RatQ.same {C : Addr} {H H' : Hp} {z : Addr} {q : Rat} (h : RatQ C H z q) (s : Same H H') : RatQ C H' z q := RatAt.same h s
theorem RatQ.mul {C : Addr} {H : Hp} {z : Addr} {p q : Rat} (h : RatAt C H z (rN (p.num * q.num) (p.den * q.den)) (rD (p.num * q.num) (p.den * q.den))) : RatQ C H z (p * q) := by
  rw [(rq_mul p q).1, (rq_mul p q).2] at h
  exact h
theorem RatQ.add {C : Addr} {H : Hp} {z : Addr} {p q : Rat} (h : RatAt C H z (rN (p.num * q.den + q.num * p.den) (p.den * q.den)) (rD (p.num * q.den + q.num * p.den) (p.den * q.den))) : RatQ C H z (p + q) := by
  rw [(rq_add p q).1, (rq_add p q).2] at h
  exact h
theorem RatQ.mk {C : Addr} {H : Hp} {z : Addr} {a b : Int} (hb : 0 < b) (h : RatAt C H z (rN a b) (rD a b)) : RatQ C H z ((a : Rat) / (b : Rat)) := by
  rw [(rq_mk hb).1, (rq_mk hb).2] at h
  exact h
/-- a pair of a law -/
def PairQ (H : Hp) (t : Addr) (q : Rat) : Prop := H t = some (.tup [.int q.num, .int q.den])
theorem PairQ.mk {H : Hp} {t : Addr} {a b : Int} (hb : 0 < b) (h : H t = some (.tup [.int (rN a b), .int (rD a b)])) : PairQ H t ((a : Rat) / (b : Rat)) := by
  rw [(rq_mk hb).1, (rq_mk hb).2] at h
  exact h
/-- numbers of at most k bits -/
def Bt (k : Nat) (q : Rat) : Prop := q.num.natAbs < 2 ^ k ∧ q.den < 2 ^ k
theorem Bt.mono {k l : Nat} {q : Rat} (h : Bt k q) (hl : k ≤ l) : Bt l q :=
  ⟨Nat.lt_of_lt_of_le h.1 (Nat.pow_le_pow_right (by decide) hl), Nat.lt_of_lt_of_le h.2 (Nat.pow_le_pow_right (by decide) hl)⟩
theorem bt_mk {k : Nat} {a b : Int} (hb : 0 < b) (ha : a.natAbs < 2 ^ k) (h2 : b.natAbs < 2 ^ k) : Bt k ((a : Rat) / (b : Rat)) := by
  have e := rq_mk (a := a) hb
  have h1 := rN_le a b (by omega)
  have h3 := rD_le a b (by omega)
  rw [e.1] at h1
  rw [e.2] at h3
  exact ⟨by omega, by omega⟩
theorem lt_mul_pow {a b : Nat} {k l : Nat} (h1 : a < 2 ^ k) (h2 : b < 2 ^ l) : a * b < 2 ^ (k + l) := by
  rw [Nat.pow_add]
  exact Nat.mul_lt_mul'' h1 h2
theorem Bt.mul {k l : Nat} {p q : Rat} (h1 : Bt k p) (h2 : Bt l q) : Bt (k + l) (p * q) := by
  have e := rq_mul p q
  have pos := Int.mul_pos (q_nn p) (q_nn q)
  have b1 := rN_le (p.num * q.num) (p.den * q.den) (by omega)
  have b2 := rD_le (p.num * q.num) (p.den * q.den) (by omega)
  rw [e.1, Int.natAbs_mul] at b1
  rw [e.2, Int.natAbs_mul] at b2
  exact ⟨Nat.lt_of_le_of_lt b1 (lt_mul_pow h1.1 h2.1), Nat.lt_of_le_of_lt b2 (lt_mul_pow h1.2 h2.2)⟩
theorem Bt.add {k l : Nat} {p q : Rat} (h1 : Bt k p) (h2 : Bt l q) : Bt (k + l + 1) (p + q) := by
  have e := rq_add p q
  have pos := Int.mul_pos (q_nn p) (q_nn q)
  have b1 := rN_le (p.num * q.den + q.num * p.den) (p.den * q.den) (by omega)
  have b2 := rD_le (p.num * q.den + q.num * p.den) (p.den * q.den) (by omega)
  have t := Int.natAbs_add_le (p.num * q.den) (q.num * p.den)
  rw [Int.natAbs_mul, Int.natAbs_mul] at t
  rw [e.1] at b1
  rw [e.2, Int.natAbs_mul] at b2
  have c1 := lt_mul_pow h1.1 h2.2
  have c2 := lt_mul_pow h2.1 h1.2
  have c3 := lt_mul_pow h1.2 h2.2
  rw [Nat.add_comm l k] at c2
  refine ⟨?_, ?_⟩
  · rw [Nat.pow_succ]
    have t' : (p.num * q.den + q.num * p.den).natAbs ≤ p.num.natAbs * q.den + q.num.natAbs * p.den := t
    omega
  · rw [Nat.pow_succ]
    have b2' : (p + q).den ≤ p.den * q.den := b2
    omega
theorem bt_small {k : Nat} {q : Rat} (h : Bt k q) (hk : k ≤ 4000) : q.num.natAbs < 2 ^ 4000 ∧ ((q.den : Int)).natAbs < 2 ^ 4000 :=
  ⟨(h.mono hk).1, by rw [Int.natAbs_natCast]; exact (h.mono hk).2⟩
theorem bt_one : Bt 1 1 := ⟨by decide, by decide⟩
theorem bt_zero : Bt 1 0 := ⟨by decide, by decide⟩
/-- the lots of a plan at a view, as numbers -/
def dfltQ (n : Int) : List Rat := (List.range n.toNat).map fun (k : Nat) => if k = 0 then 1 else 0
def lotQ (es : List Ent) (vd : List PyData) (n : Int) : List Rat := match es.find? fun e => decide (keyD (.tuple e.m.1) = keyD (.tuple vd)) with
  | some e => if (e.ws.length : Int) = n then e.ws.map fun (w : Int) => (w : Rat) / (e.ws.sum : Rat) else dfltQ n
  | none => dfltQ n
def pq (q : Rat) : Int × Int := (q.num, (q.den : Int))
theorem terms_q {ws : List Int} (h : 0 < ws.sum) : terms ws ws.sum = (ws.map fun (w : Int) => (w : Rat) / (ws.sum : Rat)).map pq := by
  unfold terms
  rw [List.map_map]
  refine List.map_congr_left fun w _ => ?_
  show (rN w ws.sum, rD w ws.sum) = pq _
  unfold pq
  rw [(rq_mk h).1, (rq_mk h).2]
theorem dflt_q {n : Int} : dflt n = (dfltQ n).map pq := by
  unfold dflt dfltQ
  rw [List.map_map]
  refine List.map_congr_left fun k _ => ?_
  show (if k = 0 then (1 : Int) else 0, (1 : Int)) = pq (if k = 0 then 1 else 0)
  split <;> rfl
theorem lots_q {es : List Ent} {vd : List PyData} {n : Int} {rs : List (Int × Int)} (h : LotsIs es vd n rs) (ho : Once es) (b : ∀ e ∈ es, 0 < e.ws.sum) : rs = (lotQ es vd n).map pq := by
  unfold lotQ
  cases f : es.find? fun e => decide (keyD (.tuple e.m.1) = keyD (.tuple vd)) with
  | none =>
    have hn := List.find?_eq_none.mp f
    rcases h with ⟨k, e, h1, h2, _⟩ | ⟨_, rfl⟩
    · have := hn e (List.mem_of_getElem? h1)
      rw [decide_eq_true h2] at this
      exact absurd rfl this
    · exact dflt_q
  | some e =>
    have he := List.mem_of_find?_eq_some f
    have hk : keyD (.tuple e.m.1) = keyD (.tuple vd) := by
      have := List.find?_some f
      exact of_decide_eq_true this
    obtain ⟨j, hj⟩ := List.mem_iff_getElem?.mp he
    rcases h with ⟨k, e', h1, h2, h3⟩ | ⟨h1, _⟩
    · obtain rfl := once_eq ho h1 hj (by rw [h2, hk])
      rcases h3 with ⟨c, rfl⟩ | ⟨c, rfl⟩
      · show _ = (if _ then _ else _ : List Rat).map pq
        rw [if_pos c]
        exact terms_q (b e' he)
      · show _ = (if _ then _ else _ : List Rat).map pq
        rw [if_neg c]
        exact dflt_q
    · exact absurd hk (h1 e he)
theorem lotQ_len {es : List Ent} {vd : List PyData} {n : Int} (hn : 0 ≤ n) : ((lotQ es vd n).length : Int) = n := by
  have d : ((dfltQ n).length : Int) = n := by
    unfold dfltQ
    rw [List.length_map, List.length_range]
    omega
  unfold lotQ
  split
  · split
    · rename_i h
      rw [List.length_map]
      exact h
    · exact d
  · exact d
theorem sum_div {d : Rat} : ∀ ws : List Int, (ws.map fun (w : Int) => (w : Rat) / d).sum = ((ws.sum : Int) : Rat) / d
  | [] => by
    show (0 : Rat) = ((0 : Int) : Rat) / d
    rw [Rat.intCast_zero, Rat.div_def, Rat.zero_mul]
  | w :: ws => by
    rw [List.map_cons, List.sum_cons, sum_div ws, List.sum_cons, Rat.intCast_add]
    grind
theorem sum_zeros {α : Type} : ∀ l : List α, (l.map fun _ => (0 : Rat)).sum = 0
  | [] => rfl
  | _ :: l => by
    rw [List.map_cons, List.sum_cons, sum_zeros l, Rat.add_zero]
theorem dfltQ_sum {n : Int} (h : 1 ≤ n) : (dfltQ n).sum = 1 := by
  obtain ⟨m, hm⟩ : ∃ m, n.toNat = m + 1 := ⟨n.toNat - 1, by omega⟩
  unfold dfltQ
  rw [hm, List.range_succ_eq_map, List.map_cons, List.sum_cons, List.map_map]
  have e : (List.range m).map ((fun (k : Nat) => if k = 0 then (1 : Rat) else 0) ∘ Nat.succ) = (List.range m).map fun _ => (0 : Rat) := List.map_congr_left fun k _ => rfl
  rw [e, sum_zeros, Rat.add_zero, if_pos rfl]
theorem lotQ_sum {es : List Ent} {vd : List PyData} {n : Int} (hn : 1 ≤ n) (b : ∀ e ∈ es, 0 < e.ws.sum) : (lotQ es vd n).sum = 1 := by
  unfold lotQ
  split
  · rename_i e f
    have p := b e (List.mem_of_find?_eq_some f)
    split
    · rw [sum_div, Rat.div_def]
      exact Rat.mul_inv_cancel _ (q_ne p)
    · exact dfltQ_sum hn
  · exact dfltQ_sum hn
theorem lotQ_bt {es : List Ent} {vd : List PyData} {n : Int} (b : ∀ e ∈ es, e.ws.length ≤ 4 ∧ (∀ w ∈ e.ws, 0 ≤ w ∧ w ≤ 3) ∧ 0 < e.ws.sum) : ∀ q ∈ lotQ es vd n, Bt 4 q := by
  have d : ∀ q ∈ dfltQ n, Bt 4 q := fun q h => by
    obtain ⟨k, _, rfl⟩ := List.mem_map.mp h
    split
    · exact bt_one.mono (by decide)
    · exact bt_zero.mono (by decide)
  intro q h
  unfold lotQ at h
  split at h
  · rename_i e f
    obtain ⟨b1, b2, b3⟩ := b e (List.mem_of_find?_eq_some f)
    split at h
    · obtain ⟨w, hw, rfl⟩ := List.mem_map.mp h
      have w1 := b2 w hw
      have s1 := sum_bd b2
      exact bt_mk b3 (by omega) (by omega)
    · exact d q h
  · exact d q h

/-! chances of the ends -/
theorem mok_eq {a b : Met} (ha : MOk a) (hb : MOk b) (e1 : a.1 = b.1) : a = b := by
  obtain ⟨r, x, ea⟩ := ha.l
  obtain ⟨r', x', eb⟩ := hb.l
  have e2 : dMove x a.2 = dMove x' b.2 := by
    have : (r ++ [dMove x a.2]).getLast? = (r' ++ [dMove x' b.2]).getLast? := by rw [← ea, ← eb, e1]
    simpa using this
  simp only [dMove, PyData.tuple.injEq, List.cons.injEq, PyData.int.injEq] at e2
  exact Prod.ext e1 e2.2.2.1
theorem lotQ_hit {es : List Ent} {vd : List PyData} {n : Int} {e : Ent} (ho : Once es) (he : e ∈ es) (hk : keyD (.tuple e.m.1) = keyD (.tuple vd)) (hl : (e.ws.length : Int) = n) : lotQ es vd n = e.ws.map fun (w : Int) => (w : Rat) / (e.ws.sum : Rat) := by
  unfold lotQ
  cases f : es.find? fun e => decide (keyD (.tuple e.m.1) = keyD (.tuple vd)) with
  | none =>
    have := List.find?_eq_none.mp f e he
    rw [decide_eq_true hk] at this
    exact absurd rfl this
  | some e' =>
    have hk' : keyD (.tuple e'.m.1) = keyD (.tuple vd) := by
      have := List.find?_some f
      exact of_decide_eq_true this
    obtain ⟨j, hj⟩ := List.mem_iff_getElem?.mp (List.mem_of_find?_eq_some f)
    obtain ⟨k, hk2⟩ := List.mem_iff_getElem?.mp he
    obtain rfl := once_eq ho hj hk2 (by rw [hk, hk'])
    exact if_pos hl
theorem lotQ_miss {es : List Ent} {vd : List PyData} {n : Int} (h : ∀ e ∈ es, keyD (.tuple e.m.1) ≠ keyD (.tuple vd)) : lotQ es vd n = dfltQ n := by
  unfold lotQ
  have f : es.find? (fun e => decide (keyD (.tuple e.m.1) = keyD (.tuple vd))) = none := List.find?_eq_none.mpr fun e he => by
    rw [decide_eq_false (h e he)]
    decide
  rw [f]
theorem one_div {n : Int} (h : 0 < n) : (((1 : Int) : Rat) / (n : Rat)).num = 1 ∧ ((((1 : Int) : Rat) / (n : Rat)).den : Int) = n := by
  have e := rq_mk (a := 1) h
  have s := r_self (n := 1) h (by simp)
  rw [← e.1, ← e.2]
  exact s
mutual
def TOk : Tr → Prop
  | .fin _ => True
  | .lot ps => (1 ≤ ps.length ∧ ps.length ≤ 3) ∧ TOks ps
  | .turn pl _ ps => ((pl = 1 ∨ pl = 2) ∧ 1 ≤ ps.length ∧ ps.length ≤ 3) ∧ TOks ps
def TOks : List Tr → Prop
  | [] => True
  | t :: ts => TOk t ∧ TOks ts
end
theorem tOks_mem {t : Tr} : ∀ {ts : List Tr}, TOks ts → t ∈ ts → TOk t
  | _ :: _, h, m => by
    rcases List.mem_cons.mp m with rfl | m
    · exact h.1
    · exact tOks_mem h.2 m
theorem tOks_of : ∀ {ts : List Tr}, (∀ t ∈ ts, TOk t) → TOks ts
  | [], _ => trivial
  | t :: ts, h => ⟨h t List.mem_cons_self, tOks_of fun x hx => h x (List.mem_cons_of_mem _ hx)⟩
theorem node_ok {st : List Stg} {paid : List Int} (hw : ∀ s ∈ st, 0 ≤ s.w ∧ s.w ≤ 2) (ok : ∀ s ∈ st, 1 ≤ s.n ∧ s.n ≤ 3) : ∀ (f : Nat) (q : List Int), TOk (nodeD st paid f q)
  | 0, q => trivial
  | f + 1, q => by
    cases e : st[q.length]? with
    | none =>
      show TOk (match st[q.length]? with | some s => _ | none => _)
      rw [e]
      trivial
    | some s =>
      have h1 := ok s (List.mem_of_getElem? e)
      have h2 := hw s (List.mem_of_getElem? e)
      have len : ((List.range s.n.toNat).map fun (j : Nat) => nodeD st paid f (q ++ [(j : Int)])).length = s.n.toNat := by rw [List.length_map, List.length_range]
      have kids : TOks ((List.range s.n.toNat).map fun (j : Nat) => nodeD st paid f (q ++ [(j : Int)])) := tOks_of fun t ht => by
        obtain ⟨j, _, rfl⟩ := List.mem_map.mp ht
        exact node_ok hw ok f _
      rw [nodeD_at e]
      split
      · exact ⟨by rw [len]; omega, kids⟩
      · exact ⟨by rw [len]; omega, kids⟩
def halfQ (n : Int) : List Rat := (List.range n.toNat).map fun _ => ((1 : Int) : Rat) / (n : Rat)
theorem halfQ_len {n : Nat} : (halfQ n).length = n := by
  unfold halfQ
  rw [List.length_map, List.length_range]
  omega
theorem halfQ_bt {n : Int} (h : 1 ≤ n ∧ n ≤ 3) : ∀ q ∈ halfQ n, Bt 4 q := fun q hq => by
  obtain ⟨_, _, rfl⟩ := List.mem_map.mp hq
  exact bt_mk (by omega) (by decide) (by omega)
theorem halfQ_pq {n : Int} (h : 1 ≤ n) : (halfQ n).map pq = (List.range n.toNat).map fun _ => (rN 1 n, rD 1 n) := by
  unfold halfQ
  rw [List.map_map]
  refine List.map_congr_left fun _ _ => ?_
  show pq _ = _
  unfold pq
  rw [(rq_mk (a := 1) (b := n) (by omega)).1, (rq_mk (a := 1) (b := n) (by omega)).2]
theorem sum_consts {α : Type} {c : Rat} : ∀ l : List α, (l.map fun _ => c).sum = (l.length : Int) * c
  | [] => by
    show (0 : Rat) = ((0 : Int) : Rat) * c
    rw [Rat.intCast_zero, Rat.zero_mul]
  | _ :: l => by
    rw [List.map_cons, List.sum_cons, sum_consts l, List.length_cons]
    have : (((l.length + 1 : Nat) : Int) : Rat) = (((l.length : Nat) : Int) : Rat) + 1 := by
      rw [Int.natCast_add, Rat.intCast_add]
      rfl
    rw [this]
    grind
theorem halfQ_sum {n : Int} (h : 1 ≤ n) : (halfQ n).sum = 1 := by
  unfold halfQ
  rw [sum_consts, List.length_range, show ((n.toNat : Nat) : Int) = n by omega]
  have := q_ne (b := n) (by omega)
  grind
def plQ (es1 es2 : List Ent) (pl : Int) : List Ent := if pl = 1 then es1 else es2
mutual
/-- the chances and the payments of the ends -/
def spreadD (es1 es2 : List Ent) : Tr → Rat → List (Rat × Int)
  | .fin p, q => [(q, p)]
  | .lot ps, q => spreadsD es1 es2 ps (halfQ ps.length) q
  | .turn pl v ps, q => spreadsD es1 es2 ps (lotQ (plQ es1 es2 pl) v ps.length) q
def spreadsD (es1 es2 : List Ent) : List Tr → List Rat → Rat → List (Rat × Int)
  | [], _, _ => []
  | t :: ts, ls, q => match ls with
    | l :: ls => spreadD es1 es2 t (q * l) ++ spreadsD es1 es2 ts ls q
    | [] => []
end
theorem spreadsD_snoc {es1 es2 : List Ent} {t : Tr} {l q : Rat} : ∀ {ts : List Tr} {ls : List Rat}, ts.length = ls.length → spreadsD es1 es2 (ts ++ [t]) (ls ++ [l]) q = spreadsD es1 es2 ts ls q ++ spreadD es1 es2 t (q * l)
  | [], [], _ => by
    show spreadD es1 es2 t (q * l) ++ [] = [] ++ spreadD es1 es2 t (q * l)
    rw [List.append_nil, List.nil_append]
  | u :: ts, k :: ls, h => by
    show spreadD es1 es2 u (q * k) ++ spreadsD es1 es2 (ts ++ [t]) (ls ++ [l]) q = spreadD es1 es2 u (q * k) ++ spreadsD es1 es2 ts ls q ++ spreadD es1 es2 t (q * l)
    rw [spreadsD_snoc (by simpa using h), List.append_assoc]
  | [], _ :: _, h => by simp at h
  | _ :: _, [], h => by simp at h
theorem spreadsD_take {es1 es2 : List Ent} {ts : List Tr} {ls : List Rat} {q l : Rat} {t : Tr} {i : Nat} (h : ts.length = ls.length) (h1 : ts[i]? = some t) (h2 : ls[i]? = some l) : spreadsD es1 es2 (ts.take (i + 1)) (ls.take (i + 1)) q = spreadsD es1 es2 (ts.take i) (ls.take i) q ++ spreadD es1 es2 t (q * l) := by
  rw [List.take_add_one, List.take_add_one, h1, h2]
  exact spreadsD_snoc (by rw [List.length_take, List.length_take, h])
mutual
theorem spread_len {es1 es2 : List Ent} : ∀ (t : Tr) (q : Rat), (spreadD es1 es2 t q).length ≤ szT t
  | .fin _, _ => Nat.le_refl _
  | .lot ps, q => Nat.le_succ_of_le (spreads_len ps _ q)
  | .turn pl v ps, q => Nat.le_succ_of_le (spreads_len ps _ q)
theorem spreads_len {es1 es2 : List Ent} : ∀ (ts : List Tr) (ls : List Rat) (q : Rat), (spreadsD es1 es2 ts ls q).length ≤ szTs ts
  | [], _, _ => Nat.le_refl _
  | t :: ts, [], q => Nat.zero_le _
  | t :: ts, l :: ls, q => by
    have h1 := spread_len (es1 := es1) (es2 := es2) t (q * l)
    have h2 := spreads_len (es1 := es1) (es2 := es2) ts ls q
    show (spreadD es1 es2 t (q * l) ++ spreadsD es1 es2 ts ls q).length ≤ szT t + szTs ts
    rw [List.length_append]
    omega
end
/-- the list of what was found -/
structure FAt (C : Addr) (H : Hp) (fd : Addr) (fs : List (Rat × Int)) : Prop where
  ex : ∃ xs : List V, H fd = some (.lst xs) ∧ xs.length = fs.length ∧ ∀ (k : Nat) f, fs[k]? = some f → ∃ t z, xs[k]? = some (.ref t) ∧ H t = some (.tup [.ref z, .int f.2]) ∧ RatQ C H z f.1
theorem FAt.same {C : Addr} {H H' : Hp} {fd : Addr} {fs : List (Rat × Int)} (h : FAt C H fd fs) (s : Same H H') : FAt C H' fd fs := by
  obtain ⟨xs, a, b, f⟩ := h.ex
  exact ⟨xs, s _ _ a, b, fun k x hx => let ⟨t, z, e1, e2, e3⟩ := f k x hx; ⟨t, z, e1, s _ _ e2, e3.same s⟩⟩
theorem FAt.snoc {C : Addr} {H : Hp} {fd t0 z : Addr} {fs : List (Rat × Int)} {xs : List V} {q : Rat} {p : Int} (h : FAt C H fd fs) (e : H fd = some (.lst xs)) (et : H t0 = some (.tup [.ref z, .int p])) (hz : RatQ C H z q) : FAt C (upd H fd (.lst (xs ++ [.ref t0]))) fd (fs ++ [(q, p)]) := by
  obtain ⟨xs', a, b, f⟩ := h.ex
  rw [e] at a
  cases a
  have keep : ∀ {t z : Addr} {q : Rat} {p : Int}, H t = some (.tup [.ref z, .int p]) → RatQ C H z q → (upd H fd (.lst (xs ++ [.ref t0]))) t = some (.tup [.ref z, .int p]) ∧ RatQ C (upd H fd (.lst (xs ++ [.ref t0]))) z q := fun {t z q p} e1 e2 => by
    obtain ⟨dz, e2⟩ := e2
    exact ⟨by rw [upd_ne (ne_of e1 e (by intro z; cases z))]; exact e1, dz, by rw [upd_ne (ne_of e2 e (by intro z; cases z))]; exact e2⟩
  refine ⟨xs ++ [.ref t0], upd_same, by rw [List.length_append, List.length_append, b]; rfl, fun k x hx => ?_⟩
  rcases Nat.lt_or_ge k fs.length with y | y
  · rw [List.getElem?_append_left y] at hx
    obtain ⟨t', z', e1, e2, e3⟩ := f k x hx
    exact ⟨t', z', by rw [List.getElem?_append_left (by omega)]; exact e1, keep e2 e3⟩
  · have hk := (List.getElem?_eq_some_iff.mp hx).1
    rw [List.length_append, List.length_singleton] at hk
    obtain rfl : k = fs.length := by omega
    rw [List.getElem?_append_right (Nat.le_refl _), Nat.sub_self] at hx
    cases hx
    exact ⟨t0, z, by rw [List.getElem?_append_right (by omega), b, Nat.sub_self]; rfl, keep et hz⟩
theorem same_but {H0 H H' : Hp} {fd : Addr} (s : Same H0 H) (n : H0 fd = none) (B : But fd H H') : Same H0 H' := fun c o e => B c o (fun z => by rw [z, n] at e; cases e) (s c o e)
theorem ratsQ_get {C : Addr} {H : Hp} {zs : List V} {ls : List Rat} {i : Nat} {l : Rat} {x : V} (h : RatsAt C H zs (ls.map pq)) (e : ls[i]? = some l) (hx : zs[i]? = some x) : ∃ z dz, x = .ref z ∧ H z = some (.ins C dz (rf l.num l.den)) := h.2 i x (pq l) hx (by rw [List.getElem?_map, e]; rfl)
/-- the chance of the first k stages of a way -/
def chQ (st : List Stg) (es1 es2 : List Ent) (path : List Int) : Nat → Rat
  | 0 => 1
  | k + 1 => match st[k]?, path[k]? with
    | some s, some x => chQ st es1 es2 path k * (if s.w = 0 then ((1 : Int) : Rat) / (s.n : Rat) else (lotQ (plQ es1 es2 s.w) (askD st (path.take k) s) s.n).getD x.toNat 0)
    | _, _ => chQ st es1 es2 path k
theorem chQ_at {st : List Stg} {es1 es2 : List Ent} {path : List Int} {k : Nat} {s : Stg} {x : Int} (h1 : st[k]? = some s) (h2 : path[k]? = some x) : chQ st es1 es2 path (k + 1) = chQ st es1 es2 path k * (if s.w = 0 then ((1 : Int) : Rat) / (s.n : Rat) else (lotQ (plQ es1 es2 s.w) (askD st (path.take k) s) s.n).getD x.toNat 0) := by
  show (match st[k]?, path[k]? with | some s, some x => _ | _, _ => _) = _
  rw [h1, h2]
theorem chQ_take {st : List Stg} {es1 es2 : List Ent} {p q : List Int} {n : Nat} (h : p.take n = q.take n) : ∀ {k : Nat}, k ≤ n → chQ st es1 es2 p k = chQ st es1 es2 q k
  | 0, _ => rfl
  | k + 1, hk => by
    have e1 : p.take k = q.take k := by
      have := congrArg (List.take k) h
      rw [List.take_take, List.take_take, Nat.min_eq_left (by omega)] at this
      exact this
    have e2 : p[k]? = q[k]? := by
      have := congrArg (fun l => l[k]?) h
      simp only [List.getElem?_take] at this
      rw [if_pos (by omega), if_pos (by omega)] at this
      exact this
    have ih := chQ_take (st := st) (es1 := es1) (es2 := es2) h (k := k) (by omega)
    unfold chQ
    rw [ih, e1, e2]
theorem lotG_bt {es : List Ent} {vd : List PyData} {n : Int} {k : Nat} (b : ∀ e ∈ es, e.ws.length ≤ 4 ∧ (∀ w ∈ e.ws, 0 ≤ w ∧ w ≤ 3) ∧ 0 < e.ws.sum) : Bt 4 ((lotQ es vd n).getD k 0) := by
  rw [List.getD_eq_getElem?_getD]
  cases e : (lotQ es vd n)[k]? with
  | none => exact bt_zero.mono (by decide)
  | some q => exact lotQ_bt b q (List.mem_of_getElem? e)
theorem chQ_bt {st : List Stg} {es1 es2 : List Ent} {path : List Int} (ok : ∀ s ∈ st, 1 ≤ s.n ∧ s.n ≤ 3) (b1 : ∀ e ∈ es1, e.ws.length ≤ 4 ∧ (∀ w ∈ e.ws, 0 ≤ w ∧ w ≤ 3) ∧ 0 < e.ws.sum) (b2 : ∀ e ∈ es2, e.ws.length ≤ 4 ∧ (∀ w ∈ e.ws, 0 ≤ w ∧ w ≤ 3) ∧ 0 < e.ws.sum) : ∀ k, Bt (4 * k + 1) (chQ st es1 es2 path k)
  | 0 => bt_one
  | k + 1 => by
    have ih := chQ_bt ok b1 b2 (path := path) k
    unfold chQ
    split
    · rename_i s x h1 h2
      refine (ih.mul (l := 4) ?_).mono (by omega)
      split
      · have := ok s (List.mem_of_getElem? h1)
        exact bt_mk (by omega) (by decide) (by omega)
      · refine lotG_bt ?_
        unfold plQ
        split
        · exact b1
        · exact b2
    · exact ih.mono (by omega)
/-- the ends of the law's tree, in the order of the ways -/
theorem spread_paths {st : List Stg} {es1 es2 : List Ent} {paid : List Int} (ok : ∀ s ∈ st, 1 ≤ s.n ∧ s.n ≤ 3) : ∀ (f : Nat) (q : List Int), q.length + f = st.length →
    spreadD es1 es2 (nodeD st paid f q) (chQ st es1 es2 q q.length) = (belowP st f q).map fun p => (chQ st es1 es2 p st.length, paid.getD (idxD st p p.length).toNat 0)
  | 0, q, hq => by
    show [(chQ st es1 es2 q q.length, paid.getD (idxD st q q.length).toNat 0)] = [(chQ st es1 es2 q st.length, paid.getD (idxD st q q.length).toNat 0)]
    rw [show st.length = q.length by omega]
  | f + 1, q, hq => by
    have e : st[q.length]? = some st[q.length] := List.getElem?_eq_getElem (by omega)
    have hn := ok _ (List.mem_of_getElem? e)
    generalize st[q.length] = s at *
    have kids : ∀ (js : List Nat) (ls : List Rat), js.length = ls.length → (∀ (i j : Nat), js[i]? = some j → ls[i]? = some (if s.w = 0 then ((1 : Int) : Rat) / (s.n : Rat) else (lotQ (plQ es1 es2 s.w) (askD st q s) s.n).getD j 0)) →
        spreadsD es1 es2 (js.map fun (j : Nat) => nodeD st paid f (q ++ [(j : Int)])) ls (chQ st es1 es2 q q.length) = (js.flatMap fun (j : Nat) => belowP st f (q ++ [(j : Int)])).map fun p => (chQ st es1 es2 p st.length, paid.getD (idxD st p p.length).toNat 0) := by
      intro js
      induction js with
      | nil => exact fun ls _ _ => rfl
      | cons j js ih =>
        intro ls hl hg
        cases ls with
        | nil => simp at hl
        | cons l ls =>
          have h0 := hg 0 j rfl
          have h0 : l = _ := Option.some.inj h0
          rw [List.map_cons, List.flatMap_cons, List.map_append, ← ih ls (by simpa using hl) fun i k hk => by have := hg (i + 1) k (by simpa using hk); simpa using this]
          show spreadD es1 es2 (nodeD st paid f (q ++ [(j : Int)])) (chQ st es1 es2 q q.length * l) ++ _ = _
          congr 1
          rw [← spread_paths ok f (q ++ [(j : Int)]) (by rw [List.length_append, List.length_singleton]; omega)]
          congr 1
          have tk : (q ++ [(j : Int)]).take q.length = q.take q.length := by rw [List.take_left' rfl, List.take_length]
          rw [List.length_append, List.length_singleton, chQ_at (s := s) (x := (j : Int)) e (by rw [List.getElem?_append_right (Nat.le_refl _), Nat.sub_self]; rfl), chQ_take tk (Nat.le_refl _), tk, List.take_length, h0, Int.toNat_natCast]
    have len : (List.range s.n.toNat).length = s.n.toNat := List.length_range
    have len2 : ((((List.range s.n.toNat).map fun (j : Nat) => nodeD st paid f (q ++ [(j : Int)])).length : Nat) : Int) = s.n := by
      rw [List.length_map, List.length_range]
      omega
    rw [nodeD_at e, below_at e]
    by_cases w0 : s.w = 0
    · rw [if_pos w0]
      show spreadsD es1 es2 _ (halfQ _) _ = _
      rw [len2]
      refine kids _ _ (by unfold halfQ; rw [List.length_map]) fun i j hj => ?_
      rw [if_pos w0]
      unfold halfQ
      rw [List.getElem?_map, hj]
      rfl
    · rw [if_neg w0]
      show spreadsD es1 es2 _ (lotQ (plQ es1 es2 s.w) (askD st q s) _) _ = _
      rw [len2]
      have ll := lotQ_len (es := plQ es1 es2 s.w) (vd := askD st q s) (n := s.n) (by omega)
      refine kids _ _ (by omega) fun i j hj => ?_
      have hi := (List.getElem?_eq_some_iff.mp hj).1
      have ij : i = j := by
        rw [List.getElem?_range (by omega)] at hj
        exact Option.some.inj hj
      subst ij
      rw [if_neg w0, List.getD_eq_getElem?_getD, List.getElem?_eq_getElem (by omega)]
      rfl
theorem spread_all {st : List Stg} {es1 es2 : List Ent} {paid : List Int} (ok : ∀ s ∈ st, 1 ≤ s.n ∧ s.n ≤ 3) : spreadD es1 es2 (nodeD st paid st.length []) 1 = (pathsD st).map fun p => (chQ st es1 es2 p st.length, paid.getD (idxD st p p.length).toNat 0) := by
  have h := spread_paths (es1 := es1) (es2 := es2) (paid := paid) ok st.length [] (by simp)
  have := pStep_below (st := st) (f := st.length) (k := 0) (by omega)
  have e : belowP st st.length [] = pathsD st := by
    rw [← this]
    show _ = [[]].flatMap _
    simp
  rw [← e]
  exact h
mutual
/-- the chances of all ends add up to the chance of the tree -/
theorem spread_sum {es1 es2 : List Ent} (b1 : ∀ e ∈ es1, 0 < e.ws.sum) (b2 : ∀ e ∈ es2, 0 < e.ws.sum) : ∀ (t : Tr) (q : Rat), TOk t → ((spreadD es1 es2 t q).map (·.1)).sum = q
  | .fin p, q, _ => by
    show q + 0 = q
    exact Rat.add_zero q
  | .lot ps, q, h => by
    show ((spreadsD es1 es2 ps (halfQ ps.length) q).map (·.1)).sum = q
    have h1 : 1 ≤ ps.length := h.1.1
    rw [spreads_sum b1 b2 ps _ q h.2 halfQ_len.symm, halfQ_sum (by omega), Rat.mul_one]
  | .turn pl v ps, q, h => by
    show ((spreadsD es1 es2 ps (lotQ (plQ es1 es2 pl) v ps.length) q).map (·.1)).sum = q
    have h1 : 1 ≤ ps.length := h.1.2.1
    have ll := lotQ_len (es := plQ es1 es2 pl) (vd := v) (n := (ps.length : Int)) (by omega)
    rw [spreads_sum b1 b2 ps _ q h.2 (by omega), lotQ_sum (by omega), Rat.mul_one]
    unfold plQ
    split
    · exact b1
    · exact b2
theorem spreads_sum {es1 es2 : List Ent} (b1 : ∀ e ∈ es1, 0 < e.ws.sum) (b2 : ∀ e ∈ es2, 0 < e.ws.sum) : ∀ (ts : List Tr) (ls : List Rat) (q : Rat), TOks ts → ts.length = ls.length → ((spreadsD es1 es2 ts ls q).map (·.1)).sum = q * ls.sum
  | [], [], q, _, _ => by
    show (0 : Rat) = q * 0
    rw [Rat.mul_zero]
  | t :: ts, l :: ls, q, h, hl => by
    show ((spreadD es1 es2 t (q * l) ++ spreadsD es1 es2 ts ls q).map (·.1)).sum = q * (l :: ls).sum
    rw [List.map_append, List.sum_append, spread_sum b1 b2 t _ h.1, spreads_sum b1 b2 ts ls q h.2 (by simpa using hl), List.sum_cons, Rat.mul_add]
  | [], _ :: _, _, _, h => by simp at h
  | _ :: _, [], _, _, h => by simp at h
end
/-- the k-th way's place among the payments is k -/
theorem idx_paths {st : List Stg} (ok : ∀ s ∈ st, 1 ≤ s.n ∧ s.n ≤ 3) : ∀ {i : Nat}, i ≤ st.length → ∀ (k : Nat) p, (pStep st i)[k]? = some p → idxD st p i = (k : Int)
  | 0, _, k, p, h => by
    have hk := (List.getElem?_eq_some_iff.mp h).1
    obtain rfl : k = 0 := by simpa [pStep] using hk
    rfl
  | i + 1, hi, k, p, h => by
    have e : st[i]? = some st[i] := List.getElem?_eq_getElem (by omega)
    have hn := ok _ (List.mem_of_getElem? e)
    have mem := pStep_mem (st := st) (k := i) (by omega)
    rw [pStep_at e] at h
    have ih := idx_paths ok (i := i) (by omega)
    generalize pStep st i = l at *
    have key : ∀ (l : List (List Int)) (b : Nat), (∀ p ∈ l, p.length = i) → (∀ (k : Nat) p, l[k]? = some p → idxD st p i = ((k + b : Nat) : Int)) → ∀ (k : Nat) p, (l.flatMap fun p => (List.range (st[i]).n.toNat).map fun (j : Nat) => p ++ [(j : Int)])[k]? = some p → idxD st p (i + 1) = ((k + b * (st[i]).n.toNat : Nat) : Int) := by
      intro l
      induction l with
      | nil => exact fun b _ _ k p h => by simp at h
      | cons r l ihl =>
        intro b hm hb k p h
        rw [List.flatMap_cons] at h
        rcases Nat.lt_or_ge k (st[i]).n.toNat with z | z
        · rw [List.getElem?_append_left (by rw [List.length_map, List.length_range]; exact z), List.getElem?_map, List.getElem?_range z] at h
          cases h
          have rl := hm r List.mem_cons_self
          have r0 := hb 0 r rfl
          have same : ∀ {n : Nat}, n ≤ i → idxD st (r ++ [(k : Int)]) n = idxD st r n := fun {n} => by
            induction n with
            | zero => exact fun _ => rfl
            | succ n ihn =>
              intro hn'
              unfold idxD
              rw [ihn (by omega), List.getElem?_append_left (by omega)]
          have ep : (r ++ [(k : Int)])[i]? = some (k : Int) := by
            rw [List.getElem?_append_right (by omega), rl, Nat.sub_self]
            rfl
          have e2 : idxD st (r ++ [(k : Int)]) (i + 1) = idxD st (r ++ [(k : Int)]) i * (st[i]).n + (k : Int) := by
            show (match st[i]?, (r ++ [(k : Int)])[i]? with | some s, some x => _ | _, _ => _) = _
            rw [e, ep]
          rw [e2, same (Nat.le_refl _), r0, Nat.zero_add, Int.natCast_add, Int.natCast_mul, show (((st[i]).n.toNat : Nat) : Int) = (st[i]).n by omega]
          omega
        · rw [List.getElem?_append_right (by rw [List.length_map, List.length_range]; exact z), List.length_map, List.length_range] at h
          have := ihl (b + 1) (fun p hp => hm p (List.mem_cons_of_mem _ hp)) (fun k p hk => by have := hb (k + 1) p (by simpa using hk); rw [this]; omega) _ p h
          rw [this, Nat.add_mul]
          omega
    have := key l 0 mem (fun k p hk => by rw [ih k p hk]; rfl) k p h
    rw [this]
    omega

theorem EntAt.off {K : PySem.W.Frag} {H : Hp} {l L : Addr} {ls : List Addr} {zs : List V} {es : List Ent} (h : EntAt K H l es) (ne : l ≠ L) (eL : H L = some (.lst (ls.map V.ref))) : EntAt K (upd H L (.lst zs)) l es := by
  obtain ⟨xs, a, b, c⟩ := h.ex
  refine ⟨⟨xs, by rw [upd_ne ne]; exact a, b, fun k e x h1 h2 => ?_⟩, h.ok⟩
  have E0 := c k e x h1 h2
  obtain ⟨t, e1, e2⟩ := E0.t
  have elL : e.l ≠ L := fun z => by
    have p := E0.p
    have hl := E0.l
    rw [z, eL] at hl
    cases hw : e.ws with
    | nil => rw [hw] at p; exact absurd p (by decide)
    | cons u r =>
      rw [hw] at hl
      cases ls with
      | nil => cases hl
      | cons v s => cases hl
  exact ⟨⟨t, e1, by rw [upd_ne (ne_of e2 eL (by intro z; cases z))]; exact e2⟩, dp_off (But.off ((But.refl L H).upd)) (noT_lst eL) _ _ (h.ok e (List.mem_of_getElem? h1)).view.1 E0.v, E0.n, by rw [upd_ne elL]; exact E0.l, E0.b, E0.w, E0.p⟩
/-- two lists of entries of a law, behind i players -/
structure TwoAt (K : PySem.W.Frag) (H : Hp) (L : Addr) (st : List Stg) (i : Nat) (ls : List Addr) (ess : List (List Ent)) : Prop where
  e : H L = some (.lst (ls.map V.ref))
  n : ls.length = i
  m : ess.length = i
  f : ∀ (k : Nat) l es, ls[k]? = some l → ess[k]? = some es → EntAt K H l es ∧ l ≠ L ∧ List.Sublist (es.map (·.m)) (metD st ((k : Int) + 1)) ∧ es.length ≤ 324 ∧ ∀ e ∈ es, (e.ws.length : Int) = e.m.2
theorem TwoAt.same {K : PySem.W.Frag} {H H' : Hp} {L : Addr} {st : List Stg} {i : Nat} {ls : List Addr} {ess : List (List Ent)} (h : TwoAt K H L st i ls ess) (s : Same H H') : TwoAt K H' L st i ls ess :=
  ⟨s _ _ h.e, h.n, h.m, fun k l es h1 h2 => let ⟨a, b⟩ := h.f k l es h1 h2; ⟨a.same s, b⟩⟩
theorem TwoAt.snoc {K : PySem.W.Frag} {H : Hp} {L l : Addr} {st : List Stg} {i : Nat} {ls : List Addr} {ess : List (List Ent)} {es : List Ent} (h : TwoAt K H L st i ls ess) (he : EntAt K H l es) (ne : l ≠ L) (hs : List.Sublist (es.map (·.m)) (metD st ((i : Int) + 1))) (hz : es.length ≤ 324) (hl : ∀ e ∈ es, (e.ws.length : Int) = e.m.2) : TwoAt K (upd H L (.lst (ls.map V.ref ++ [.ref l]))) L st (i + 1) (ls ++ [l]) (ess ++ [es]) := by
  refine ⟨by rw [upd_same, List.map_append]; rfl, by rw [List.length_append, h.n]; rfl, by rw [List.length_append, h.m]; rfl, fun k l' es' h1 h2 => ?_⟩
  rcases Nat.lt_or_ge k i with z | z
  · rw [List.getElem?_append_left (by rw [h.n]; exact z)] at h1
    rw [List.getElem?_append_left (by rw [h.m]; exact z)] at h2
    obtain ⟨a, b, c⟩ := h.f k l' es' h1 h2
    exact ⟨a.off b h.e, b, c⟩
  · have hk := (List.getElem?_eq_some_iff.mp h1).1
    rw [List.length_append, h.n, List.length_singleton] at hk
    obtain rfl : k = i := by omega
    rw [List.getElem?_append_right (by rw [h.n]; exact Nat.le_refl _), h.n, Nat.sub_self] at h1
    rw [List.getElem?_append_right (by rw [h.m]; exact Nat.le_refl _), h.m, Nat.sub_self] at h2
    cases h1
    cases h2
    exact ⟨he.off ne h.e, ne, hs, hz, hl⟩
theorem once_sub {es : List Ent} {ms : List Met} (hm : Mets ms) (h : List.Sublist (es.map (·.m)) ms) : Once es := by
  have := (mets_keys hm).sublist h
  exact (List.pairwise_map (f := fun e : Ent => e.m)).mp this
theorem sum_bt {b : Nat} : ∀ {qs : List Rat}, (∀ q ∈ qs, Bt b q) → Bt (1 + qs.length * (b + 1)) qs.sum
  | [], _ => bt_zero.mono (by omega)
  | q :: qs, h => by
    have ih := sum_bt fun x hx => h x (List.mem_cons_of_mem q hx)
    rw [List.sum_cons]
    refine ((h q List.mem_cons_self).add ih).mono ?_
    rw [List.length_cons, Nat.add_mul]
    omega
theorem ent_bds {K : PySem.W.Frag} {H : Hp} {l : Addr} {es : List Ent} (hE : EntAt K H l es) : ∀ e ∈ es, e.ws.length ≤ 4 ∧ (∀ w ∈ e.ws, 0 ≤ w ∧ w ≤ 3) ∧ 0 < e.ws.sum := fun e he => by
  obtain ⟨ex, eex, exl, exf⟩ := hE.ex
  obtain ⟨k, hk⟩ := List.mem_iff_getElem?.mp he
  obtain ⟨y, hy⟩ : ∃ y, ex[k]? = some y := ⟨_, List.getElem?_eq_getElem (by have := (List.getElem?_eq_some_iff.mp hk).1; omega)⟩
  have E0 := exf k e y hk hy
  exact ⟨E0.b, E0.w, E0.p⟩

/-! the average payment of a tree -/
mutual
def avgD (es1 es2 : List Ent) : Tr → Rat
  | .fin p => ((p : Int) : Rat)
  | .lot ps => (avgsD es1 es2 ps).sum * (((1 : Int) : Rat) / ((ps.length : Int) : Rat))
  | .turn pl v ps => (prodsD es1 es2 ps (lotQ (plQ es1 es2 pl) v ps.length)).sum
def avgsD (es1 es2 : List Ent) : List Tr → List Rat
  | [] => []
  | t :: ts => avgD es1 es2 t :: avgsD es1 es2 ts
def prodsD (es1 es2 : List Ent) : List Tr → List Rat → List Rat
  | [], _ => []
  | t :: ts, ls => match ls with
    | l :: ls => l * avgD es1 es2 t :: prodsD es1 es2 ts ls
    | [] => []
end
theorem avgs_at {es1 es2 : List Ent} {t : Tr} : ∀ {ts : List Tr} {i : Nat}, ts[i]? = some t → (avgsD es1 es2 ts)[i]? = some (avgD es1 es2 t)
  | [], i, h => by simp at h
  | u :: ts, 0, h => by
    cases h
    rfl
  | u :: ts, i + 1, h => by
    show (avgsD es1 es2 ts)[i]? = _
    exact avgs_at (by simpa using h)
theorem avgs_len {es1 es2 : List Ent} : ∀ ts : List Tr, (avgsD es1 es2 ts).length = ts.length
  | [] => rfl
  | u :: ts => by
    show (avgsD es1 es2 ts).length + 1 = ts.length + 1
    rw [avgs_len ts]
theorem prods_at {es1 es2 : List Ent} {t : Tr} {l : Rat} : ∀ {ts : List Tr} {ls : List Rat} {i : Nat}, ts[i]? = some t → ls[i]? = some l → (prodsD es1 es2 ts ls)[i]? = some (l * avgD es1 es2 t)
  | [], _, i, h, _ => by simp at h
  | u :: ts, [], i, _, h => by simp at h
  | u :: ts, k :: ls, 0, h, h2 => by
    cases h
    cases h2
    rfl
  | u :: ts, k :: ls, i + 1, h, h2 => by
    show (prodsD es1 es2 ts ls)[i]? = _
    exact prods_at (by simpa using h) (by simpa using h2)
theorem prods_len {es1 es2 : List Ent} : ∀ {ts : List Tr} {ls : List Rat}, ts.length = ls.length → (prodsD es1 es2 ts ls).length = ts.length
  | [], _, _ => rfl
  | u :: ts, [], h => by simp at h
  | u :: ts, k :: ls, h => by
    show (prodsD es1 es2 ts ls).length + 1 = ts.length + 1
    rw [prods_len (by simpa using h)]
theorem prods_const {α : Type} {es1 es2 : List Ent} {c : Rat} : ∀ {ts : List Tr} {l : List α}, ts.length = l.length → (prodsD es1 es2 ts (l.map fun _ => c)).sum = (avgsD es1 es2 ts).sum * c
  | [], _, _ => by
    show (0 : Rat) = 0 * c
    rw [Rat.zero_mul]
  | u :: ts, [], h => by simp at h
  | u :: ts, k :: l, h => by
    have ih := prods_const (es1 := es1) (es2 := es2) (c := c) (ts := ts) (l := l) (by simpa using h)
    show (c * avgD es1 es2 u :: prodsD es1 es2 ts (l.map fun _ => c)).sum = (avgD es1 es2 u :: avgsD es1 es2 ts).sum * c
    rw [List.sum_cons, List.sum_cons, ih]
    grind
mutual
/-- chances times payments, added up, are the average -/
theorem spread_avg {es1 es2 : List Ent} : ∀ (t : Tr) (q : Rat), ((spreadD es1 es2 t q).map fun x => x.1 * ((x.2 : Int) : Rat)).sum = q * avgD es1 es2 t
  | .fin p, q => by
    show q * ((p : Int) : Rat) + 0 = q * ((p : Int) : Rat)
    exact Rat.add_zero _
  | .lot ps, q => by
    show ((spreadsD es1 es2 ps (halfQ ps.length) q).map fun x => x.1 * ((x.2 : Int) : Rat)).sum = q * ((avgsD es1 es2 ps).sum * (((1 : Int) : Rat) / ((ps.length : Int) : Rat)))
    rw [spreads_avg ps _ q]
    unfold halfQ
    rw [prods_const (by rw [List.length_range]; omega)]
  | .turn pl v ps, q => spreads_avg ps _ q
theorem spreads_avg {es1 es2 : List Ent} : ∀ (ts : List Tr) (ls : List Rat) (q : Rat), ((spreadsD es1 es2 ts ls q).map fun x => x.1 * ((x.2 : Int) : Rat)).sum = q * (prodsD es1 es2 ts ls).sum
  | [], ls, q => by
    show (0 : Rat) = q * 0
    rw [Rat.mul_zero]
  | t :: ts, [], q => by
    show (0 : Rat) = q * 0
    rw [Rat.mul_zero]
  | t :: ts, l :: ls, q => by
    show ((spreadD es1 es2 t (q * l) ++ spreadsD es1 es2 ts ls q).map fun x => x.1 * ((x.2 : Int) : Rat)).sum = q * (l * avgD es1 es2 t :: prodsD es1 es2 ts ls).sum
    rw [List.map_append, List.sum_append, spread_avg t, spreads_avg ts ls q, List.sum_cons]
    grind
end
theorem avg_paths {st : List Stg} {es1 es2 : List Ent} {paid : List Int} (ok : ∀ s ∈ st, 1 ≤ s.n ∧ s.n ≤ 3) : ((pathsD st).map fun p => chQ st es1 es2 p st.length * ((paid.getD (idxD st p p.length).toNat 0 : Int) : Rat)).sum = avgD es1 es2 (nodeD st paid st.length []) := by
  have h := spread_avg (es1 := es1) (es2 := es2) (nodeD st paid st.length []) 1
  rw [spread_all ok, List.map_map, Rat.one_mul] at h
  exact h
def bH : Nat → Nat
  | 0 => 4
  | h + 1 => 3 * bH h + 16
theorem bH_mono {a b : Nat} (h : a ≤ b) : bH a ≤ bH b := by
  induction h with
  | refl => exact Nat.le_refl _
  | step _ ih =>
    show _ ≤ 3 * _ + 16
    omega
mutual
/-- payments of at most ten -/
def TPay : Tr → Prop
  | .fin p => -10 ≤ p ∧ p ≤ 10
  | .lot ps => TPays ps
  | .turn _ _ ps => TPays ps
def TPays : List Tr → Prop
  | [] => True
  | t :: ts => TPay t ∧ TPays ts
end
theorem tPays_mem {t : Tr} : ∀ {ts : List Tr}, TPays ts → t ∈ ts → TPay t
  | _ :: _, h, m => by
    rcases List.mem_cons.mp m with rfl | m
    · exact h.1
    · exact tPays_mem h.2 m
theorem tPays_of : ∀ {ts : List Tr}, (∀ t ∈ ts, TPay t) → TPays ts
  | [], _ => trivial
  | t :: ts, h => ⟨h t List.mem_cons_self, tPays_of fun x hx => h x (List.mem_cons_of_mem _ hx)⟩
theorem node_pay {st : List Stg} {paid : List Int} (hp : ∀ x ∈ paid, -10 ≤ x ∧ x ≤ 10) : ∀ (f : Nat) (q : List Int), TPay (nodeD st paid f q)
  | 0, q => by
    show -10 ≤ paid.getD (idxD st q q.length).toNat 0 ∧ paid.getD (idxD st q q.length).toNat 0 ≤ 10
    rw [List.getD_eq_getElem?_getD]
    cases e : paid[(idxD st q q.length).toNat]? with
    | none => exact ⟨by decide, by decide⟩
    | some x => exact hp x (List.mem_of_getElem? e)
  | f + 1, q => by
    cases e : st[q.length]? with
    | none =>
      show TPay (match st[q.length]? with | some s => _ | none => _)
      rw [e]
      exact ⟨by decide, by decide⟩
    | some s =>
      have kids : TPays ((List.range s.n.toNat).map fun (j : Nat) => nodeD st paid f (q ++ [(j : Int)])) := tPays_of fun t ht => by
        obtain ⟨j, _, rfl⟩ := List.mem_map.mp ht
        exact node_pay hp f _
      rw [nodeD_at e]
      split
      · exact kids
      · exact kids
abbrev LotsOk (es : List Ent) : Prop := ∀ e ∈ es, e.ws.length ≤ 4 ∧ (∀ w ∈ e.ws, 0 ≤ w ∧ w ≤ 3) ∧ 0 < e.ws.sum
theorem bt_int {p : Int} (h : -10 ≤ p ∧ p ≤ 10) : Bt 4 ((p : Int) : Rat) := ⟨by rw [(q_int p).1]; omega, by rw [(q_int p).2]; omega⟩
theorem plQ_ok {es1 es2 : List Ent} (b1 : LotsOk es1) (b2 : LotsOk es2) (pl : Int) : LotsOk (plQ es1 es2 pl) := by
  unfold plQ
  split
  · exact b1
  · exact b2
theorem rats_nil {C : Addr} {H : Hp} : RatsAt C H [] (([] : List Rat).map pq) := ⟨rfl, fun k x r h => by simp at h⟩
theorem rats_snoc {C : Addr} {H : Hp} {D z : Addr} {ys : List V} {qs : List Rat} {q : Rat} (h : RatsAt C H ys (qs.map pq)) (e : H D = some (.lst ys)) (hz : RatQ C H z q) : RatsAt C (upd H D (.lst (ys ++ [.ref z]))) (ys ++ [.ref z]) ((qs ++ (some q).toList).map pq) := by
  have hl := h.1
  rw [List.length_map] at hl
  refine ⟨by rw [List.length_append, List.length_map, List.length_append, hl]; rfl, fun k x r hx hr => ?_⟩
  rcases Nat.lt_or_ge k ys.length with y | y
  · rw [List.getElem?_append_left y] at hx
    rw [List.map_append, List.getElem?_append_left (by rw [List.length_map]; omega)] at hr
    obtain ⟨p, dx, e1, e2⟩ := h.2 k x r hx hr
    exact ⟨p, dx, e1, by rw [upd_ne (ne_of e2 e (by intro z; cases z))]; exact e2⟩
  · have hk := (List.getElem?_eq_some_iff.mp hx).1
    rw [List.length_append, List.length_singleton] at hk
    obtain rfl : k = ys.length := by omega
    rw [List.getElem?_append_right (Nat.le_refl _), Nat.sub_self] at hx
    rw [List.map_append, List.getElem?_append_right (by rw [List.length_map]; omega), List.length_map, hl, Nat.sub_self] at hr
    cases hx
    cases hr
    obtain ⟨dz, ez⟩ := hz
    exact ⟨z, dz, rfl, by rw [upd_ne (ne_of ez e (by intro z; cases z))]; exact ez⟩
theorem avg_bt {es1 es2 : List Ent} (b1 : LotsOk es1) (b2 : LotsOk es2) : ∀ (h : Nat) (t : Tr), hgt t ≤ h → TOk t → TPay t → Bt (bH h) (avgD es1 es2 t)
  | h, .fin p, _, _, hp => (bt_int hp).mono (bH_mono (Nat.zero_le h))
  | 0, .lot ps, hh, _, _ => by
    have : hgt (.lot ps) = hgts ps + 1 := rfl
    omega
  | 0, .turn pl v ps, hh, _, _ => by
    have : hgt (.turn pl v ps) = hgts ps + 1 := rfl
    omega
  | h + 1, .lot ps, hh, tok, hp => by
    have hg : hgt (.lot ps) = hgts ps + 1 := rfl
    obtain ⟨pn, tks⟩ : (1 ≤ ps.length ∧ ps.length ≤ 3) ∧ TOks ps := tok
    have hp : TPays ps := hp
    have s := sum_bt (b := bH h) (qs := avgsD es1 es2 ps) fun q hq => by
      obtain ⟨k, hk⟩ := List.mem_iff_getElem?.mp hq
      have hl := (List.getElem?_eq_some_iff.mp hk).1
      rw [avgs_len] at hl
      have et := List.getElem?_eq_getElem hl
      have := avgs_at (es1 := es1) (es2 := es2) et
      rw [hk] at this
      cases this
      have mem := List.mem_of_getElem? et
      exact avg_bt b1 b2 h _ (by have := hgts_mem mem; omega) (tOks_mem tks mem) (tPays_mem hp mem)
    rw [avgs_len] at s
    show Bt _ ((avgsD es1 es2 ps).sum * (((1 : Int) : Rat) / ((ps.length : Int) : Rat)))
    refine (s.mul (l := 4) (bt_mk (by omega) (by decide) (by omega))).mono ?_
    have : ps.length * (bH h + 1) ≤ 3 * (bH h + 1) := Nat.mul_le_mul_right _ pn.2
    show _ ≤ 3 * bH h + 16
    omega
  | h + 1, .turn pl v ps, hh, tok, hp => by
    have hg : hgt (.turn pl v ps) = hgts ps + 1 := rfl
    obtain ⟨⟨_, pn⟩, tks⟩ : ((pl = 1 ∨ pl = 2) ∧ 1 ≤ ps.length ∧ ps.length ≤ 3) ∧ TOks ps := tok
    have hp : TPays ps := hp
    have lb := lotQ_bt (vd := v) (n := (ps.length : Int)) (plQ_ok b1 b2 pl)
    have ll := lotQ_len (es := plQ es1 es2 pl) (vd := v) (n := (ps.length : Int)) (by omega)
    show Bt _ (prodsD es1 es2 ps (lotQ (plQ es1 es2 pl) v ps.length)).sum
    generalize lotQ (plQ es1 es2 pl) v ps.length = ls at *
    have hpl := prods_len (es1 := es1) (es2 := es2) (ts := ps) (ls := ls) (by omega)
    have s := sum_bt (b := 4 + bH h) (qs := prodsD es1 es2 ps ls) fun q hq => by
      obtain ⟨k, hk⟩ := List.mem_iff_getElem?.mp hq
      have hl := (List.getElem?_eq_some_iff.mp hk).1
      rw [hpl] at hl
      have et := List.getElem?_eq_getElem hl
      obtain ⟨l, el⟩ : ∃ l, ls[k]? = some l := ⟨_, List.getElem?_eq_getElem (by omega)⟩
      have := prods_at (es1 := es1) (es2 := es2) et el
      rw [hk] at this
      cases this
      have mem := List.mem_of_getElem? et
      exact (lb l (List.mem_of_getElem? el)).mul (avg_bt b1 b2 h _ (by have := hgts_mem mem; omega) (tOks_mem tks mem) (tPays_mem hp mem))
    rw [hpl] at s
    refine s.mono ?_
    have : ps.length * (4 + bH h + 1) ≤ 3 * (4 + bH h + 1) := Nat.mul_le_mul_right _ pn.2
    show _ ≤ 3 * bH h + 16
    omega
theorem avgs_bt {es1 es2 : List Ent} (b1 : LotsOk es1) (b2 : LotsOk es2) {h : Nat} {ps : List Tr} (hh : ∀ t ∈ ps, hgt t ≤ h) (tks : TOks ps) (tps : TPays ps) : ∀ q ∈ avgsD es1 es2 ps, Bt (bH h) q := fun q hq => by
  obtain ⟨k, hk⟩ := List.mem_iff_getElem?.mp hq
  have hl := (List.getElem?_eq_some_iff.mp hk).1
  rw [avgs_len] at hl
  have et := List.getElem?_eq_getElem hl
  have := avgs_at (es1 := es1) (es2 := es2) et
  rw [hk] at this
  cases this
  have mem := List.mem_of_getElem? et
  exact avg_bt b1 b2 h _ (hh _ mem) (tOks_mem tks mem) (tPays_mem tps mem)
theorem prods_bt {es1 es2 : List Ent} (b1 : LotsOk es1) (b2 : LotsOk es2) {h : Nat} {ps : List Tr} {ls : List Rat} (lb : ∀ l ∈ ls, Bt 4 l) (hpl : ps.length = ls.length) (hh : ∀ t ∈ ps, hgt t ≤ h) (tks : TOks ps) (tps : TPays ps) : ∀ q ∈ prodsD es1 es2 ps ls, Bt (4 + bH h) q := fun q hq => by
  obtain ⟨k, hk⟩ := List.mem_iff_getElem?.mp hq
  have hl := (List.getElem?_eq_some_iff.mp hk).1
  rw [prods_len hpl] at hl
  have et := List.getElem?_eq_getElem hl
  obtain ⟨l, el⟩ : ∃ l, ls[k]? = some l := ⟨_, List.getElem?_eq_getElem (by omega)⟩
  have := prods_at (es1 := es1) (es2 := es2) et el
  rw [hk] at this
  cases this
  have mem := List.mem_of_getElem? et
  exact (lb l (List.mem_of_getElem? el)).mul (avg_bt b1 b2 h _ (hh _ mem) (tOks_mem tks mem) (tPays_mem tps mem))
/-- an item of a view: a name and numbers; did has one -/
def Item (d : PyData) : Prop := ∃ (n : Str) (is : List Int), d = .tuple (.str n :: is.map PyData.int) ∧ PyData.strOk n = true ∧ (n = "did" → ∃ m, is = [m])
def isDid : PyData → Option Int
  | .tuple [.str n, .int m] => if n = "did" then some m else none
  | _ => none
def row (pre : List PyData) (m : Int) : PyData := .tuple [.tuple pre, .int m]
/-- the rows of a view, in order -/
def rowsOf (pre : List PyData) : List PyData → List PyData
  | [] => []
  | d :: r => (match isDid d with | some m => [row pre m] | none => []) ++ rowsOf (pre ++ [d]) r
theorem rows_append : ∀ (a b pre : List PyData), rowsOf pre (a ++ b) = rowsOf pre a ++ rowsOf (pre ++ a) b
  | [], b, pre => by simp [rowsOf]
  | d :: r, b, pre => by
    show (match isDid d with | some m => [row pre m] | none => []) ++ rowsOf (pre ++ [d]) (r ++ b) = (match isDid d with | some m => [row pre m] | none => []) ++ rowsOf (pre ++ [d]) r ++ rowsOf (pre ++ d :: r) b
    rw [rows_append r b (pre ++ [d]), List.append_assoc, List.append_assoc]
    rfl
theorem rows_none : ∀ (a pre : List PyData), (∀ d ∈ a, isDid d = none) → rowsOf pre a = []
  | [], _, _ => rfl
  | d :: r, pre, h => by
    show (match isDid d with | some m => [row pre m] | none => []) ++ rowsOf (pre ++ [d]) r = []
    rw [h d (List.mem_cons_self ..), rows_none r _ fun x hx => h x (List.mem_cons_of_mem _ hx)]
    rfl
theorem rows_snoc (a : List PyData) (d : PyData) : rowsOf [] (a ++ [d]) = rowsOf [] a ++ (match isDid d with | some m => [row a m] | none => []) := by
  rw [rows_append]
  show _ ++ ((match isDid d with | some m => [row ([] ++ a) m] | none => []) ++ []) = _
  rw [List.append_nil, List.nil_append]
def lastRow (ds : List PyData) : Option PyData := (rowsOf [] ds).getLast?
theorem last_none {ds : List PyData} (h : ∀ d ∈ ds, isDid d = none) : lastRow ds = none := by
  unfold lastRow
  rw [rows_none ds [] h]
  rfl
theorem last_did {ds : List PyData} {k : Nat} {d : PyData} {m : Int} (e : ds[k]? = some d) (hd : isDid d = some m) (h : ∀ j x, k < j → ds[j]? = some x → isDid x = none) : lastRow ds = some (row (ds.take k) m) := by
  have hk : k < ds.length := (List.getElem?_eq_some_iff.mp e).1
  have e1 : ds = ds.take k ++ (d :: ds.drop (k + 1)) := by
    have := (List.getElem?_eq_some_iff.mp e).2
    rw [← this, List.getElem_cons_drop, List.take_append_drop]
  have e2 : rowsOf [] ds = rowsOf [] (ds.take k) ++ [row (ds.take k) m] := by
    conv => lhs; rw [e1]
    rw [rows_append]
    show _ ++ ((match isDid d with | some m => [row ([] ++ ds.take k) m] | none => []) ++ rowsOf _ (ds.drop (k + 1))) = _
    rw [hd, rows_none (ds.drop (k + 1)) _ fun x hx => by
      obtain ⟨j, hj⟩ := List.mem_iff_getElem?.mp hx
      rw [List.getElem?_drop] at hj
      exact h _ x (by omega) hj]
    rfl
  unfold lastRow
  rw [e2, List.getLast?_concat]
/-- the last row, and what stands before it -/
theorem last_some {ds : List PyData} {r : PyData} (h : lastRow ds = some r) : ∃ k m, k < ds.length ∧ r = row (ds.take k) m ∧ rowsOf [] ds = rowsOf [] (ds.take k) ++ [r] := by
  have key : ∀ n (ds : List PyData), ds.length = n → lastRow ds = some r → ∃ k m, k < ds.length ∧ r = row (ds.take k) m ∧ rowsOf [] ds = rowsOf [] (ds.take k) ++ [r] := by
    intro n
    induction n with
    | zero =>
      intro ds hl h
      have : ds = [] := List.length_eq_zero_iff.mp hl
      subst this
      cases h
    | succ n ih =>
      intro ds hl h
      obtain ⟨a, d, rfl⟩ : ∃ a d, ds = a ++ [d] := ⟨ds.dropLast, ds.getLast (fun e => by rw [e] at hl; cases hl), (List.dropLast_concat_getLast _).symm⟩
      have hla : a.length = n := by simpa using hl
      cases hd : isDid d with
      | some m =>
        refine ⟨a.length, m, by simp, ?_, ?_⟩
        · unfold lastRow at h
          rw [rows_snoc, hd] at h
          simp at h
          rw [List.take_left]
          exact h.symm
        · unfold lastRow at h
          rw [rows_snoc, hd] at h
          simp at h
          rw [rows_snoc, hd, List.take_left, ← h]
      | none =>
        have e : rowsOf [] (a ++ [d]) = rowsOf [] a := by rw [rows_snoc, hd]; simp
        unfold lastRow at h
        rw [e] at h
        obtain ⟨k, m, hk, e1, e2⟩ := ih a hla h
        refine ⟨k, m, by simp; omega, ?_, ?_⟩
        · rw [List.take_append_of_le_length (by omega)]; exact e1
        · rw [e, List.take_append_of_le_length (by omega)]; exact e2
  exact key _ ds rfl h
theorem lay_ints : ∀ is : List Int, PyData.canLayAll0 (is.map PyData.int) = true
  | [] => rfl
  | i :: r => by simp [PyData.canLayAll0, PyData.canLay0, lay_ints r]
theorem depth_ints : ∀ is : List Int, PyData.depthAll (is.map PyData.int) ≤ 1
  | [] => by simp [PyData.depthAll]
  | i :: r => by
    have := depth_ints r
    simp only [List.map_cons, PyData.depthAll, PyData.depth]
    omega
theorem item_lay {d : PyData} (h : Item d) : d.canLay0 = true ∧ d.depth ≤ 3 := by
  obtain ⟨n, is, rfl, hn, _⟩ := h
  refine ⟨?_, ?_⟩
  · simp only [PyData.canLay0, PyData.canLayAll0, lay_ints, Bool.and_true]; exact hn
  · have := depth_ints is
    simp only [PyData.depth, PyData.depthAll]
    omega
theorem all_lay {n : Nat} : ∀ {ds : List PyData}, (∀ d ∈ ds, d.canLay0 = true ∧ d.depth ≤ n) → PyData.canLayAll0 ds = true ∧ PyData.depthAll ds ≤ n
  | [], _ => by simp [PyData.canLayAll0, PyData.depthAll]
  | d :: r, h => by
    obtain ⟨h1, h2⟩ := h d (List.mem_cons_self ..)
    obtain ⟨h3, h4⟩ := all_lay (ds := r) fun x hx => h x (List.mem_cons_of_mem _ hx)
    simp only [PyData.canLayAll0, PyData.depthAll, h1, h3, Bool.and_self]
    exact ⟨True.intro, by omega⟩
theorem row_lay {pre : List PyData} {m : Int} (h : ∀ d ∈ pre, Item d) : (row pre m).canLay0 = true ∧ (row pre m).depth ≤ 6 := by
  obtain ⟨h1, h2⟩ := all_lay (n := 3) fun d hd => item_lay (h d hd)
  unfold row
  simp only [PyData.canLay0, PyData.canLayAll0, PyData.depth, PyData.depthAll, h1]
  exact ⟨rfl, by omega⟩
theorem rows_lay : ∀ {ds pre : List PyData}, (∀ d ∈ pre, Item d) → (∀ d ∈ ds, Item d) → ∀ r ∈ rowsOf pre ds, r.canLay0 = true ∧ r.depth ≤ 6
  | [], _, _, _, r, hr => by cases hr
  | d :: ds, pre, h1, h2, r, hr => by
    have hr' : r ∈ (match isDid d with | some m => [row pre m] | none => []) ++ rowsOf (pre ++ [d]) ds := hr
    rcases List.mem_append.mp hr' with z | z
    · cases hd : isDid d with
      | none => rw [hd] at z; cases z
      | some m =>
        rw [hd] at z
        simp at z
        rw [z]
        exact row_lay h1
    · exact rows_lay (fun x hx => by
        rcases List.mem_append.mp hx with y | y
        · exact h1 x y
        · simp at y; rw [y]; exact h2 d (List.mem_cons_self ..)) (fun x hx => h2 x (List.mem_cons_of_mem _ hx)) r z
theorem rows_shaped {ds : List PyData} (h : ∀ d ∈ ds, Item d) : SeqAt.shaped (.list (rowsOf [] ds)) = true := by
  obtain ⟨h1, h2⟩ := all_lay (rows_lay (pre := []) (fun _ hx => nomatch hx) h)
  unfold SeqAt.shaped
  simp only [PyData.canLay0, PyData.depth, h1, Bool.true_and]
  exact decide_eq_true (by omega)
theorem last_shaped {ds : List PyData} {r : PyData} (h : ∀ d ∈ ds, Item d) (e : lastRow ds = some r) : SeqAt.shaped r = true := by
  obtain ⟨h1, h2⟩ := rows_lay (pre := []) (fun _ hx => nomatch hx) h r (List.mem_of_getLast? e)
  unfold SeqAt.shaped
  rw [h1, Bool.true_and]
  exact decide_eq_true (by omega)

theorem did_not {n : Str} {is : List Int} (h : n ≠ "did") : isDid (.tuple (.str n :: is.map PyData.int)) = none := by
  match is with
  | [] => rfl
  | [m] => show (if n = "did" then some m else none) = none; rw [if_neg h]
  | _ :: _ :: _ => rfl
theorem did_is {m : Int} : isDid (.tuple [.str "did", .int m]) = some m := by
  show (if ("did" : Str) = "did" then some m else none) = some m
  rw [if_pos rfl]

theorem noL_ints : ∀ is : List Int, noLAll (is.map PyData.int) = true
  | [] => rfl
  | i :: r => by
    show (true && noLAll (r.map PyData.int)) = true
    rw [noL_ints r]
    rfl
theorem item_noL {d : PyData} (h : Item d) : noL d = true := by
  obtain ⟨n, is, rfl, _⟩ := h
  show (true && noLAll (is.map PyData.int)) = true
  rw [noL_ints]
  rfl
theorem row_noL {pre : List PyData} {m : Int} (h : ∀ d ∈ pre, Item d) : noL (row pre m) = true := by
  show (noLAll pre && (true && true)) = true
  rw [noL_all fun d hd => item_noL (h d hd)]
  rfl
theorem rows_all {P : PyData → Prop} (hP : ∀ pre m, (∀ d ∈ pre, Item d) → P (row pre m)) : ∀ {ds pre : List PyData}, (∀ d ∈ pre, Item d) → (∀ d ∈ ds, Item d) → ∀ r ∈ rowsOf pre ds, P r
  | [], _, _, _, r, hr => by cases hr
  | d :: ds, pre, h1, h2, r, hr => by
    have hr' : r ∈ (match isDid d with | some m => [row pre m] | none => []) ++ rowsOf (pre ++ [d]) ds := hr
    rcases List.mem_append.mp hr' with z | z
    · cases hd : isDid d with
      | none => rw [hd] at z; cases z
      | some m =>
        rw [hd] at z
        simp at z
        rw [z]
        exact hP _ _ h1
    · exact rows_all hP (fun x hx => by
        rcases List.mem_append.mp hx with y | y
        · exact h1 x y
        · simp at y; rw [y]; exact h2 d (List.mem_cons_self ..)) (fun x hx => h2 x (List.mem_cons_of_mem _ hx)) r z
theorem rows_noL {ds : List PyData} (h : ∀ d ∈ ds, Item d) : ∀ r ∈ rowsOf [] ds, noL r = true := rows_all (fun _ _ => row_noL) (fun _ hx => nomatch hx) h
theorem none_nil {ds : List PyData} (h : lastRow ds = none) : rowsOf [] ds = [] := List.getLast?_eq_none_iff.mp h
/-- between two turns of way_to's loop -/
def WI (K : PySem.W.Frag) (v : V) (l : Addr) (ds : List PyData) (H : Hp) (m : Nat) (σ' : L2.St) (H' : Hp) : Prop :=
  ∃ (cur acc : List PyData) (ys : List V) (rv : V), σ' = [some v, some (.ref l), some rv] ∧ Same H H' ∧ H' l = some (.lst ys) ∧ DpAll K H' ys acc ∧ rowsOf [] ds = rowsOf [] cur ++ acc.reverse ∧ cur.length ≤ 1000 ∧ (∀ d ∈ cur, Item d) ∧
    ((rv = .non ∧ lastRow cur = none) ∨ ∃ p r, rv = .ref p ∧ lastRow cur = some r ∧ Dp K H' (.ref p) r) ∧ m = cur.length ∧ ys.length + cur.length ≤ 2000

/-- the state of the law's loop -/
def LV (K : PySem.W.Frag) (a : Addr) (H : Hp) (c : Option V) (b : Nat) (σ' : L2.St) (H' : Hp) : Prop :=
  ∃ (vw r : Addr) (ds : List PyData) (ys : List V) (mv : Option V), σ' = [some (.ref a), some (.ref vw), some (.ref r), c, mv, none, none, none] ∧ Same H H' ∧ H r = none ∧ Dp K H' (.ref vw) (.tuple ds) ∧ H' r = some (.lst ys) ∧
    DpAll K H' ys (rowsOf [] ds) ∧ (∀ d ∈ ds, Item d) ∧ ds.length ≤ b
theorem items_snoc {ds : List PyData} {d : PyData} (h : ∀ x ∈ ds, Item x) (hd : Item d) : ∀ x ∈ ds ++ [d], Item x := fun x hx => by
  rcases List.mem_append.mp hx with y | y
  · exact h x y
  · simp at y; rw [y]; exact hd
theorem item_mk {n : Str} (is : List Int) (hn : PyData.strOk n = true) (h : n ≠ "did") : Item (.tuple (.str n :: is.map PyData.int)) := ⟨n, is, rfl, hn, fun e => absurd e h⟩
theorem item_did {m : Int} : Item (.tuple [.str "did", .int m]) := ⟨"did", [m], rfl, by decide +kernel, fun _ => ⟨m, rfl⟩⟩
theorem rows_not {ds : List PyData} {n : Str} {is : List Int} (h : n ≠ "did") : rowsOf [] (ds ++ [.tuple (.str n :: is.map PyData.int)]) = rowsOf [] ds := by
  rw [rows_snoc, did_not h, List.append_nil]
theorem rows_did {ds : List PyData} {m : Int} : rowsOf [] (ds ++ [.tuple [.str "did", .int m]]) = rowsOf [] ds ++ [row ds m] := by
  rw [rows_snoc, did_is]

theorem rows_not1 {ds : List PyData} {n : Str} {m : Int} (h : n ≠ "did") : rowsOf [] (ds ++ [.tuple [.str n, .int m]]) = rowsOf [] ds := rows_not (is := [m]) h
theorem rows_not2 {ds : List PyData} {n : Str} {m k : Int} (h : n ≠ "did") : rowsOf [] (ds ++ [.tuple [.str n, .int m, .int k]]) = rowsOf [] ds := rows_not (is := [m, k]) h
theorem item_mk1 {n : Str} {m : Int} (hn : PyData.strOk n = true) (h : n ≠ "did") : Item (.tuple [.str n, .int m]) := item_mk [m] hn h
theorem item_mk2 {n : Str} {m k : Int} (hn : PyData.strOk n = true) (h : n ≠ "did") : Item (.tuple [.str n, .int m, .int k]) := item_mk [m, k] hn h

theorem rows_len : ∀ {ds pre : List PyData}, (rowsOf pre ds).length ≤ ds.length
  | [], _ => Nat.le_refl _
  | d :: ds, pre => by
    have := rows_len (ds := ds) (pre := pre ++ [d])
    show ((match isDid d with | some m => [row pre m] | none => []) ++ rowsOf (pre ++ [d]) ds).length ≤ _
    rw [List.length_append, List.length_cons]
    split <;> simp <;> omega
theorem view_noL {ds : List PyData} (h : ∀ d ∈ ds, Item d) : noL (.tuple ds) = true := noL_all fun d hd => item_noL (h d hd)
theorem vStep_take (st : List Stg) (path : List Int) (pl : Int) {j : Nat} : ∀ {k : Nat}, k ≤ j → vStep st (path.take j) pl k = vStep st path pl k
  | 0, _ => rfl
  | k + 1, h => by
    have e : (path.take j)[k]? = path[k]? := List.getElem?_take_of_lt (by omega)
    unfold vStep
    rw [e, vStep_take st path pl (by omega)]
/-- the own moves before the k-th stage -/
def ownJ (st : List Stg) (pl : Int) : Nat → List Nat
  | 0 => []
  | k + 1 => match st[k]? with
    | some s => if s.w = pl then ownJ st pl k ++ [k] else ownJ st pl k
    | none => ownJ st pl k
theorem own_lt {st : List Stg} {pl : Int} : ∀ {k : Nat}, ∀ j ∈ ownJ st pl k, j < k ∧ ∃ s, st[j]? = some s ∧ s.w = pl
  | 0, j, h => nomatch h
  | k + 1, j, h => by
    unfold ownJ at h
    split at h
    · rename_i s e
      split at h
      · rename_i hw
        rcases List.mem_append.mp h with h | h
        · obtain ⟨h1, h2⟩ := own_lt j h
          exact ⟨by omega, h2⟩
        · rw [List.mem_singleton.mp h]
          exact ⟨Nat.lt_succ_self k, s, e, hw⟩
      · obtain ⟨h1, h2⟩ := own_lt j h
        exact ⟨by omega, h2⟩
    · obtain ⟨h1, h2⟩ := own_lt j h
      exact ⟨by omega, h2⟩
def stN (st : List Stg) (j : Nat) : Stg := (st[j]?).getD ⟨0, 0, 0⟩
def rowAt (st : List Stg) (path : List Int) (j : Nat) : PyData := row (askD st (path.take j) (stN st j)) (path.getD j 0)
theorem rows_view {st : List Stg} {path : List Int} {pl : Int} : ∀ {k : Nat}, k ≤ path.length → k ≤ st.length → rowsOf [] (vStep st path pl k) = (ownJ st pl k).map (rowAt st path)
  | 0, _, _ => by
    show rowsOf [] [dRound 0] = []
    exact rows_none _ _ fun d h => by rw [List.mem_singleton.mp h]; rfl
  | k + 1, hp, hs => by
    have ih := rows_view (st := st) (path := path) (pl := pl) (k := k) (by omega) (by omega)
    have es : st[k]? = some st[k] := List.getElem?_eq_getElem (by omega)
    have ep : path[k]? = some path[k] := List.getElem?_eq_getElem (by omega)
    have told : ∀ (v : List PyData) (c : Prop) [Decidable c] (x : Int), rowsOf [] (v ++ (if c then [dTold x] else [])) = rowsOf [] v := fun v c _ x => by
      split
      · exact rows_not1 (by decide)
      · rw [List.append_nil]
    have ev : vStep st path pl (k + 1) = (vStep st path pl k ++ (if (st[k]).w = pl then [dMove (nStep st k) (st[k]).n, dDid path[k]] else [])) ++ (if (st[k]).s = pl ∨ (st[k]).s = 3 then [dTold path[k]] else []) := by
      show (match st[k]?, path[k]? with | some s, some x => _ | _, _ => _) = _
      rw [es, ep]
    have eo : ownJ st pl (k + 1) = if (st[k]).w = pl then ownJ st pl k ++ [k] else ownJ st pl k := by
      show (match st[k]? with | some s => _ | none => _) = _
      rw [es]
    rw [ev, eo, told]
    by_cases hw : (st[k]).w = pl
    · rw [if_pos hw, if_pos hw]
      have e2 : vStep st path pl k ++ [dMove (nStep st k) (st[k]).n, dDid path[k]] = (vStep st path pl k ++ [dMove (nStep st k) (st[k]).n]) ++ [dDid path[k]] := by simp
      rw [e2]
      have e3 := rows_did (ds := vStep st path pl k ++ [dMove (nStep st k) (st[k]).n]) (m := path[k])
      have e4 := rows_not2 (ds := vStep st path pl k) (n := "move") (m := nStep st k) (k := (st[k]).n) (by decide)
      have e5 : rowsOf [] ((vStep st path pl k ++ [dMove (nStep st k) (st[k]).n]) ++ [dDid path[k]]) = rowsOf [] (vStep st path pl k ++ [dMove (nStep st k) (st[k]).n]) ++ [row (vStep st path pl k ++ [dMove (nStep st k) (st[k]).n]) path[k]] := e3
      have e6 : rowsOf [] (vStep st path pl k ++ [dMove (nStep st k) (st[k]).n]) = rowsOf [] (vStep st path pl k) := e4
      rw [e5, e6, ih, List.map_append]
      congr 1
      have tl : (path.take k).length = k := by rw [List.length_take]; omega
      show [row _ _] = [row (askD st (path.take k) (stN st k)) (path.getD k 0)]
      have e7 : stN st k = st[k] := by unfold stN; rw [es]; rfl
      rw [e7]
      unfold askD viewD
      rw [tl, vStep_take st path _ (Nat.le_refl k), hw, List.getD_eq_getElem?_getD, ep]
      rfl
    · rw [if_neg hw, if_neg hw, List.append_nil, ih]
theorem rows_ask {st : List Stg} {path : List Int} {k : Nat} {s : Stg} (hp : k ≤ path.length) (hs : st[k]? = some s) : rowsOf [] (askD st (path.take k) s) = (ownJ st s.w k).map (rowAt st path) := by
  have tl : (path.take k).length = k := by rw [List.length_take]; omega
  have hk := (List.getElem?_eq_some_iff.mp hs).1
  unfold askD viewD
  rw [tl, vStep_take st path _ (Nat.le_refl k)]
  have e4 := rows_not2 (ds := vStep st path s.w k) (n := "move") (m := nStep st k) (k := s.n) (by decide)
  have e6 : rowsOf [] (vStep st path s.w k ++ [dMove (nStep st k) s.n]) = rowsOf [] (vStep st path s.w k) := e4
  rw [e6]
  exact rows_view hp (by omega)
theorem vStep_item (st : List Stg) (path : List Int) (pl : Int) : ∀ k, ∀ d ∈ vStep st path pl k, Item d
  | 0 => fun d h => by
    rw [List.mem_singleton.mp h]
    exact item_mk1 (by decide +kernel) (by decide)
  | k + 1 => fun d h => by
    have ih := vStep_item st path pl k
    unfold vStep at h
    split at h
    · rcases List.mem_append.mp h with h | h
      · rcases List.mem_append.mp h with h | h
        · exact ih d h
        · split at h
          · rcases List.mem_cons.mp h with h | h
            · rw [h]; exact item_mk2 (by decide +kernel) (by decide)
            · rw [List.mem_singleton.mp h]; exact item_did
          · exact nomatch h
      · split at h
        · rw [List.mem_singleton.mp h]; exact item_mk1 (by decide +kernel) (by decide)
        · exact nomatch h
    · exact ih d h
theorem ask_item {st : List Stg} {path : List Int} {s : Stg} : ∀ d ∈ askD st path s, Item d := fun d h => by
  rcases List.mem_append.mp h with h | h
  · exact vStep_item _ _ _ _ d h
  · rw [List.mem_singleton.mp h]
    exact item_mk2 (by decide +kernel) (by decide)
theorem own_len {st : List Stg} {pl : Int} : ∀ {n : Nat}, (ownJ st pl n).length ≤ n
  | 0 => Nat.le_refl _
  | n + 1 => by
    have ih := own_len (st := st) (pl := pl) (n := n)
    unfold ownJ
    split
    · split
      · rw [List.length_append]; exact Nat.succ_le_succ ih
      · omega
    · omega

/-! weights of rows, as rational numbers -/
def prQ : List Rat → Rat
  | [] => 1
  | x :: l => x * prQ l
theorem prQ_snoc {x : Rat} : ∀ {l : List Rat}, prQ (l ++ [x]) = prQ l * x
  | [] => by
    show x * 1 = 1 * x
    rw [Rat.mul_one, Rat.one_mul]
  | y :: l => by
    show y * prQ (l ++ [x]) = y * prQ l * x
    rw [prQ_snoc, Rat.mul_assoc]
abbrev Mq := Met × Int
def facQ (es : List Ent) (y : Mq) : Rat := (lotQ es y.1.1 y.1.2).getD y.2.toNat 0
def rowQ (y : Mq) : PyData := row y.1.1 y.2
structure MqOk (y : Mq) : Prop where
  ok : MOk y.1
  m : 0 ≤ y.2 ∧ y.2 < y.1.2
theorem facQ_at {es : List Ent} {y : Mq} (h : MqOk y) : (lotQ es y.1.1 y.1.2)[y.2.toNat]? = some (facQ es y) := by
  have m := h.m
  have l := lotQ_len (es := es) (vd := y.1.1) (n := y.1.2) (by omega)
  unfold facQ
  rw [List.getD_eq_getElem?_getD, List.getElem?_eq_getElem (by omega)]
  rfl
theorem facQ_bt {es : List Ent} (b : LotsOk es) (y : Mq) : Bt 4 (facQ es y) := lotG_bt b
theorem prQ_bt {es : List Ent} (b : LotsOk es) : ∀ c : List Mq, Bt (1 + 4 * c.length) (prQ (c.map (facQ es)))
  | [] => bt_one
  | y :: c => by
    refine ((facQ_bt b y).mul (prQ_bt b c)).mono ?_
    rw [List.length_cons]
    omega
/-- the weight of a last row -/
def RowIs (es : List Ent) (r : Option Mq) (W : Rat) : Prop := match r with
  | none => W = 1
  | some y => ∃ ch : List Mq, MqOk y ∧ rowsOf [] y.1.1 = ch.map rowQ ∧ (∀ z ∈ ch, MqOk z) ∧ ch.length ≤ 4 ∧ (∀ d ∈ y.1.1, Item d) ∧ W = facQ es y * prQ (ch.map (facQ es))
theorem rowIs_bt {es : List Ent} (b : LotsOk es) {r : Option Mq} {W : Rat} (h : RowIs es r W) : Bt 21 W := by
  cases r with
  | none =>
    have h : W = 1 := h
    rw [h]
    exact bt_one.mono (by decide)
  | some y =>
    obtain ⟨ch, _, _, _, hl, _, rfl⟩ := h
    exact ((facQ_bt b y).mul (prQ_bt b ch)).mono (by omega)
/-- an end as it is found: its chance, the last rows, its payment -/
structure WF where
  q : Rat
  r1 : Option Mq
  r2 : Option Mq
  p : Int
mutual
def weighD : Tr → Rat → Option Mq → Option Mq → List WF
  | .fin p, q, r1, r2 => [⟨q, r1, r2, p⟩]
  | .lot ps, q, r1, r2 => weighsD ps (fun _ => (q * (((1 : Int) : Rat) / ((ps.length : Int) : Rat)), r1, r2)) 0
  | .turn pl v ps, q, r1, r2 => weighsD ps (fun k => (q, if pl = 1 then some ((v, (ps.length : Int)), (k : Int)) else r1, if pl = 1 then r2 else some ((v, (ps.length : Int)), (k : Int)))) 0
def weighsD : List Tr → (Nat → Rat × Option Mq × Option Mq) → Nat → List WF
  | [], _, _ => []
  | t :: ts, f, k => weighD t (f k).1 (f k).2.1 (f k).2.2 ++ weighsD ts f (k + 1)
end
theorem weighs_snoc {t : Tr} {f : Nat → Rat × Option Mq × Option Mq} : ∀ {ts : List Tr} {k : Nat}, weighsD (ts ++ [t]) f k = weighsD ts f k ++ weighD t (f (k + ts.length)).1 (f (k + ts.length)).2.1 (f (k + ts.length)).2.2
  | [], k => by
    show weighD t (f k).1 (f k).2.1 (f k).2.2 ++ [] = [] ++ _
    rw [List.append_nil, List.nil_append]
    rfl
  | u :: ts, k => by
    show weighD u (f k).1 (f k).2.1 (f k).2.2 ++ weighsD (ts ++ [t]) f (k + 1) = weighD u (f k).1 (f k).2.1 (f k).2.2 ++ weighsD ts f (k + 1) ++ _
    rw [weighs_snoc, List.append_assoc, List.length_cons, show k + 1 + ts.length = k + (ts.length + 1) by omega]
theorem weighs_take {ts : List Tr} {f : Nat → Rat × Option Mq × Option Mq} {t : Tr} {i : Nat} (h : ts[i]? = some t) : weighsD (ts.take (i + 1)) f 0 = weighsD (ts.take i) f 0 ++ weighD t (f i).1 (f i).2.1 (f i).2.2 := by
  have hi := (List.getElem?_eq_some_iff.mp h).1
  rw [List.take_add_one, h]
  show weighsD (ts.take i ++ [t]) f 0 = _
  rw [weighs_snoc, List.length_take, Nat.min_eq_left (by omega), Nat.zero_add]
mutual
theorem weigh_len : ∀ (t : Tr) (q : Rat) (r1 r2 : Option Mq), (weighD t q r1 r2).length ≤ szT t
  | .fin _, _, _, _ => Nat.le_refl _
  | .lot ps, q, r1, r2 => Nat.le_succ_of_le (weighs_len ps _ 0)
  | .turn pl v ps, q, r1, r2 => Nat.le_succ_of_le (weighs_len ps _ 0)
theorem weighs_len : ∀ (ts : List Tr) (f : Nat → Rat × Option Mq × Option Mq) (k : Nat), (weighsD ts f k).length ≤ szTs ts
  | [], _, _ => Nat.le_refl _
  | t :: ts, f, k => by
    have h1 := weigh_len t (f k).1 (f k).2.1 (f k).2.2
    have h2 := weighs_len ts f (k + 1)
    show (weighD t (f k).1 (f k).2.1 (f k).2.2 ++ weighsD ts f (k + 1)).length ≤ szT t + szTs ts
    rw [List.length_append]
    omega
end
/-- luck of the first k stages -/
def luckQ (st : List Stg) : Nat → Rat
  | 0 => 1
  | k + 1 => match st[k]? with
    | some s => if s.w = 0 then luckQ st k * (((1 : Int) : Rat) / (s.n : Rat)) else luckQ st k
    | none => luckQ st k
def mqAt (st : List Stg) (p : List Int) (j : Nat) : Mq := ((askD st (p.take j) (stN st j), (stN st j).n), p.getD j 0)
/-- the last own row of a player behind k stages -/
def lastR (st : List Stg) (p : List Int) (pl : Int) : Nat → Option Mq
  | 0 => none
  | k + 1 => match st[k]? with
    | some s => if s.w = pl then some (mqAt st p k) else lastR st p pl k
    | none => lastR st p pl k
def ownQ (st : List Stg) (es : List Ent) (p : List Int) (pl : Int) (k : Nat) : Rat := prQ ((ownJ st pl k).map fun j => facQ es (mqAt st p j))
theorem stN_at {st : List Stg} {k : Nat} {s : Stg} (h : st[k]? = some s) : stN st k = s := by
  unfold stN
  rw [h]
  rfl
theorem own_step {st : List Stg} {es : List Ent} {p : List Int} {pl : Int} {k : Nat} {s : Stg} (h : st[k]? = some s) : ownQ st es p pl (k + 1) = if s.w = pl then ownQ st es p pl k * facQ es (mqAt st p k) else ownQ st es p pl k := by
  have e : ownJ st pl (k + 1) = if s.w = pl then ownJ st pl k ++ [k] else ownJ st pl k := by
    show (match st[k]? with | some s => _ | none => _) = _
    rw [h]
  unfold ownQ
  rw [e]
  split
  · rw [List.map_append, List.map_cons, List.map_nil, prQ_snoc]
  · rfl
theorem mqAt_ok {st : List Stg} {p : List Int} (hl : st.length ≤ 4) (ok : ∀ s ∈ st, 1 ≤ s.n ∧ s.n ≤ 3) (hp : p.length = st.length) (pin : PathIn st p) {j : Nat} {s : Stg} (h : st[j]? = some s) : MqOk (mqAt st p j) := by
  have hj := (List.getElem?_eq_some_iff.mp h).1
  obtain ⟨x, ex⟩ : ∃ x, p[j]? = some x := ⟨_, List.getElem?_eq_getElem (by omega)⟩
  have e : mqAt st p j = ((askD st (p.take j) s, s.n), x) := by
    unfold mqAt
    rw [stN_at h, List.getD_eq_getElem?_getD, ex]
    rfl
  rw [e]
  exact ⟨mItem_ok (pl := s.w) (p := p) (k := j) hl ok (by omega) (by unfold mItem; rw [h]; exact if_pos rfl), pin j x s ex h⟩
theorem row_is {st : List Stg} {es : List Ent} {p : List Int} {pl : Int} (hl : st.length ≤ 4) (ok : ∀ s ∈ st, 1 ≤ s.n ∧ s.n ≤ 3) (hp : p.length = st.length) (pin : PathIn st p) : ∀ {k : Nat}, k ≤ st.length → RowIs es (lastR st p pl k) (ownQ st es p pl k)
  | 0, _ => rfl
  | k + 1, hk => by
    have e : st[k]? = some st[k] := List.getElem?_eq_getElem (by omega)
    generalize st[k] = s at *
    have ih := row_is (es := es) (pl := pl) hl ok hp pin (k := k) (by omega)
    have e1 : lastR st p pl (k + 1) = if s.w = pl then some (mqAt st p k) else lastR st p pl k := by
      show (match st[k]? with | some s => _ | none => _) = _
      rw [e]
    rw [e1, own_step e]
    by_cases hw : s.w = pl
    · rw [if_pos hw, if_pos hw]
      refine ⟨(ownJ st pl k).map (mqAt st p), mqAt_ok hl ok hp pin e, ?_, fun z hz => ?_, ?_, ?_, ?_⟩
      · show rowsOf [] (askD st (p.take k) (stN st k)) = _
        rw [stN_at e, rows_ask (by omega) e, hw, List.map_map]
        rfl
      · obtain ⟨j, hj, rfl⟩ := List.mem_map.mp hz
        obtain ⟨_, s', hs', _⟩ := own_lt j hj
        exact mqAt_ok hl ok hp pin hs'
      · rw [List.length_map]
        have := own_len (st := st) (pl := pl) (n := k)
        omega
      · exact ask_item
      · rw [List.map_map, Rat.mul_comm]
        rfl
    · rw [if_neg hw, if_neg hw]
      exact ih
/-- the chance of a way: luck and the weights of both players -/
theorem chQ_split {st : List Stg} {es1 es2 : List Ent} {p : List Int} (hw : ∀ s ∈ st, 0 ≤ s.w ∧ s.w ≤ 2) (hp : p.length = st.length) : ∀ {k : Nat}, k ≤ st.length → chQ st es1 es2 p k = luckQ st k * ownQ st es1 p 1 k * ownQ st es2 p 2 k
  | 0, _ => by
    show (1 : Rat) = 1 * 1 * 1
    rw [Rat.mul_one, Rat.mul_one]
  | k + 1, hk => by
    have e : st[k]? = some st[k] := List.getElem?_eq_getElem (by omega)
    have w := hw _ (List.mem_of_getElem? e)
    generalize st[k] = s at *
    obtain ⟨x, ex⟩ : ∃ x, p[k]? = some x := ⟨_, List.getElem?_eq_getElem (by omega)⟩
    have ih := chQ_split (es1 := es1) (es2 := es2) hw hp (k := k) (by omega)
    have e1 : luckQ st (k + 1) = if s.w = 0 then luckQ st k * (((1 : Int) : Rat) / (s.n : Rat)) else luckQ st k := by
      show (match st[k]? with | some s => _ | none => _) = _
      rw [e]
    have ef : ∀ es : List Ent, facQ es (mqAt st p k) = (lotQ es (askD st (p.take k) s) s.n).getD x.toNat 0 := fun es => by
      unfold facQ mqAt
      rw [stN_at e, List.getD_eq_getElem?_getD, List.getD_eq_getElem?_getD, List.getD_eq_getElem?_getD, ex]
      rfl
    rw [chQ_at e ex, own_step e, own_step e, e1, ih]
    rcases (by omega : s.w = 0 ∨ s.w = 1 ∨ s.w = 2) with z | z | z
    · rw [if_pos z, if_pos z, if_neg (by omega), if_neg (by omega)]
      grind
    · rw [if_neg (by omega), if_neg (by omega), if_pos z, if_neg (by omega), ef, show plQ es1 es2 s.w = es1 from if_pos z]
      grind
    · rw [if_neg (by omega), if_neg (by omega), if_neg (by omega), if_pos z, ef, show plQ es1 es2 s.w = es2 from if_neg (by omega)]
      grind
theorem mqAt_take {st : List Stg} {p q : List Int} {j : Nat} (h : p.take (j + 1) = q.take (j + 1)) : mqAt st p j = mqAt st q j := by
  have e1 : p.take j = q.take j := by
    have := congrArg (List.take j) h
    rw [List.take_take, List.take_take, Nat.min_eq_left (by omega)] at this
    exact this
  have e2 : p[j]? = q[j]? := by
    have := congrArg (fun l => l[j]?) h
    simp only [List.getElem?_take] at this
    rw [if_pos (by omega), if_pos (by omega)] at this
    exact this
  unfold mqAt
  rw [e1, List.getD_eq_getElem?_getD, List.getD_eq_getElem?_getD, e2]
theorem lastR_take {st : List Stg} {p q : List Int} {pl : Int} {n : Nat} (h : p.take n = q.take n) : ∀ {k : Nat}, k ≤ n → lastR st p pl k = lastR st q pl k
  | 0, _ => rfl
  | k + 1, hk => by
    have e1 : p.take (k + 1) = q.take (k + 1) := by
      have := congrArg (List.take (k + 1)) h
      rw [List.take_take, List.take_take, Nat.min_eq_left (by omega)] at this
      exact this
    have ih := lastR_take (st := st) (pl := pl) h (k := k) (by omega)
    unfold lastR
    rw [ih, mqAt_take e1]
def wfOf (st : List Stg) (paid : List Int) (p : List Int) : WF := ⟨luckQ st st.length, lastR st p 1 st.length, lastR st p 2 st.length, paid.getD (idxD st p p.length).toNat 0⟩
theorem weigh_paths {st : List Stg} {paid : List Int} (hw : ∀ s ∈ st, 0 ≤ s.w ∧ s.w ≤ 2) (ok : ∀ s ∈ st, 1 ≤ s.n ∧ s.n ≤ 3) : ∀ (f : Nat) (q : List Int), q.length + f = st.length →
    weighD (nodeD st paid f q) (luckQ st q.length) (lastR st q 1 q.length) (lastR st q 2 q.length) = (belowP st f q).map (wfOf st paid)
  | 0, q, hq => by
    show [(⟨luckQ st q.length, lastR st q 1 q.length, lastR st q 2 q.length, paid.getD (idxD st q q.length).toNat 0⟩ : WF)] = [wfOf st paid q]
    unfold wfOf
    rw [show st.length = q.length by omega]
  | f + 1, q, hq => by
    have e : st[q.length]? = some st[q.length] := List.getElem?_eq_getElem (by omega)
    have hn := ok _ (List.mem_of_getElem? e)
    have hww := hw _ (List.mem_of_getElem? e)
    generalize st[q.length] = s at *
    have kids : ∀ (js : List Nat) (g : Nat → Rat × Option Mq × Option Mq) (k : Nat), (∀ (i j : Nat), js[i]? = some j → g (k + i) = (luckQ st (q.length + 1), lastR st (q ++ [(j : Int)]) 1 (q.length + 1), lastR st (q ++ [(j : Int)]) 2 (q.length + 1))) →
        weighsD (js.map fun (j : Nat) => nodeD st paid f (q ++ [(j : Int)])) g k = (js.flatMap fun (j : Nat) => belowP st f (q ++ [(j : Int)])).map (wfOf st paid) := by
      intro js
      induction js with
      | nil => exact fun g k _ => rfl
      | cons j js ih =>
        intro g k hg
        have h0 := hg 0 j rfl
        rw [Nat.add_zero] at h0
        rw [List.map_cons, List.flatMap_cons, List.map_append, ← ih g (k + 1) fun i m hm => by rw [show k + 1 + i = k + (i + 1) by omega]; exact hg (i + 1) m (by simpa using hm)]
        show weighD (nodeD st paid f (q ++ [(j : Int)])) (g k).1 (g k).2.1 (g k).2.2 ++ _ = _
        congr 1
        rw [← weigh_paths hw ok f (q ++ [(j : Int)]) (by rw [List.length_append, List.length_singleton]; omega), h0, List.length_append, List.length_singleton]
    have tk : ∀ j : Nat, (q ++ [(j : Int)]).take q.length = q.take q.length := fun j => by rw [List.take_left' rfl, List.take_length]
    have eq1 : luckQ st (q.length + 1) = if s.w = 0 then luckQ st q.length * (((1 : Int) : Rat) / (s.n : Rat)) else luckQ st q.length := by
      show (match st[q.length]? with | some s => _ | none => _) = _
      rw [e]
    have eq2 : ∀ (j : Nat) (pl : Int), lastR st (q ++ [(j : Int)]) pl (q.length + 1) = if s.w = pl then some ((askD st q s, s.n), (j : Int)) else lastR st q pl q.length := fun j pl => by
      have : lastR st (q ++ [(j : Int)]) pl (q.length + 1) = if s.w = pl then some (mqAt st (q ++ [(j : Int)]) q.length) else lastR st (q ++ [(j : Int)]) pl q.length := by
        show (match st[q.length]? with | some s => _ | none => _) = _
        rw [e]
      rw [this, lastR_take (tk j) (Nat.le_refl _)]
      unfold mqAt
      rw [tk j, List.take_length, stN_at e, List.getD_eq_getElem?_getD, List.getElem?_append_right (Nat.le_refl _), Nat.sub_self]
      rfl
    have len2 : ((((List.range s.n.toNat).map fun (j : Nat) => nodeD st paid f (q ++ [(j : Int)])).length : Nat) : Int) = s.n := by
      rw [List.length_map, List.length_range]
      omega
    have idx : ∀ {i j : Nat}, (List.range s.n.toNat)[i]? = some j → i = j := fun {i j} hj => by
      have hi := (List.getElem?_eq_some_iff.mp hj).1
      rw [List.length_range] at hi
      rw [List.getElem?_range hi] at hj
      exact Option.some.inj hj
    rw [nodeD_at e, below_at e]
    by_cases w0 : s.w = 0
    · rw [if_pos w0]
      show weighsD _ (fun _ => (luckQ st q.length * (((1 : Int) : Rat) / ((((List.range s.n.toNat).map fun (j : Nat) => nodeD st paid f (q ++ [(j : Int)])).length : Int) : Rat)), lastR st q 1 q.length, lastR st q 2 q.length)) 0 = _
      rw [len2]
      refine kids _ _ 0 fun i j hj => ?_
      rw [eq1, eq2, eq2, if_pos w0, if_neg (by omega), if_neg (by omega)]
    · rw [if_neg w0]
      show weighsD _ (fun k => (luckQ st q.length, if s.w = 1 then some ((askD st q s, (((List.range s.n.toNat).map fun (j : Nat) => nodeD st paid f (q ++ [(j : Int)])).length : Int)), (k : Int)) else lastR st q 1 q.length, if s.w = 1 then lastR st q 2 q.length else some ((askD st q s, (((List.range s.n.toNat).map fun (j : Nat) => nodeD st paid f (q ++ [(j : Int)])).length : Int)), (k : Int)))) 0 = _
      rw [len2]
      refine kids _ _ 0 fun i j hj => ?_
      obtain rfl := idx hj
      rw [eq1, eq2, eq2, if_neg w0, Nat.zero_add]
      rcases (by omega : s.w = 1 ∨ s.w = 2) with z | z
      · simp [z]
      · simp [z]
theorem weigh_all {st : List Stg} {paid : List Int} (hw : ∀ s ∈ st, 0 ≤ s.w ∧ s.w ≤ 2) (ok : ∀ s ∈ st, 1 ≤ s.n ∧ s.n ≤ 3) : weighD (nodeD st paid st.length []) 1 none none = (pathsD st).map (wfOf st paid) := by
  have h := weigh_paths (paid := paid) hw ok st.length [] (by simp)
  have := pStep_below (st := st) (f := st.length) (k := 0) (by omega)
  have e : belowP st st.length [] = pathsD st := by
    rw [← this]
    show _ = [[]].flatMap _
    simp
  rw [← e]
  exact h
theorem luck_bt {st : List Stg} (ok : ∀ s ∈ st, 1 ≤ s.n ∧ s.n ≤ 3) : ∀ k, Bt (4 * k + 1) (luckQ st k)
  | 0 => bt_one
  | k + 1 => by
    have ih := luck_bt ok k
    unfold luckQ
    split
    · rename_i s h
      have := ok s (List.mem_of_getElem? h)
      split
      · exact (ih.mul (l := 4) (bt_mk (by omega) (by decide) (by omega))).mono (by omega)
      · exact ih.mono (by omega)
    · exact ih.mono (by omega)
/-- a last row, or None -/
def RowV (K : PySem.W.Frag) (H : Hp) (x : V) (r : Option Mq) : Prop := match r with
  | none => x = .non
  | some y => Itms y.1.1 ∧ ∃ t v, x = .ref t ∧ H t = some (.tup [.ref v, .int y.1.2, .int y.2]) ∧ Dp K H (.ref v) (.tuple y.1.1)
theorem RowV.same {K : PySem.W.Frag} {H H' : Hp} {x : V} {r : Option Mq} (h : RowV K H x r) (s : Same H H') : RowV K H' x r := by
  cases r with
  | none => exact h
  | some y =>
    obtain ⟨a, t, v, b, c, d⟩ := h
    exact ⟨a, t, v, b, s _ _ c, dp_same s _ _ d⟩
theorem RowV.but {K : PySem.W.Frag} {H H' : Hp} {fd : Addr} {ys : List V} {x : V} {r : Option Mq} (h : RowV K H x r) (e : H fd = some (.lst ys)) (B : But fd H H') : RowV K H' x r := by
  cases r with
  | none => exact h
  | some y =>
    obtain ⟨a, t, v, b, c, d⟩ := h
    exact ⟨a, t, v, b, B _ _ (ne_of c e (by intro z; cases z)) c, dp_off B.off (noT_lst e) _ _ a.plain.1 d⟩
theorem trAt_but {K : PySem.W.Frag} {CE CL CT : Addr} {H H' : Hp} {fd : Addr} {ys : List V} {v : V} {t : Tr} (h : TrAt K CE CL CT H v t) (e : H fd = some (.lst ys)) (B : But fd H H') : TrAt K CE CL CT H' v t :=
  trAt_off B.off (noT_lst e) (fun c C dx fs z => by rw [z, e]; intro k; cases k) t v h
/-- one end that was found -/
structure WfAt (K : PySem.W.Frag) (C : Addr) (H : Hp) (f : WF) (x : V) : Prop where
  ex : ∃ t z rw' x1 x2, x = .ref t ∧ H t = some (.tup [.ref z, .ref rw', .int f.p]) ∧ RatQ C H z f.q ∧ H rw' = some (.tup [x1, x2]) ∧ RowV K H x1 f.r1 ∧ RowV K H x2 f.r2
theorem WfAt.same {K : PySem.W.Frag} {C : Addr} {H H' : Hp} {f : WF} {x : V} (h : WfAt K C H f x) (s : Same H H') : WfAt K C H' f x := by
  obtain ⟨t, z, rw', x1, x2, a, b, c, d, e, g⟩ := h.ex
  exact ⟨t, z, rw', x1, x2, a, s _ _ b, c.same s, s _ _ d, e.same s, g.same s⟩
theorem WfAt.but {K : PySem.W.Frag} {C fd : Addr} {H H' : Hp} {ys : List V} {f : WF} {x : V} (h : WfAt K C H f x) (k : H fd = some (.lst ys)) (B : But fd H H') : WfAt K C H' f x := by
  obtain ⟨t, z, rw', x1, x2, a, b, ⟨dz, c⟩, d, e, g⟩ := h.ex
  exact ⟨t, z, rw', x1, x2, a, B _ _ (ne_of b k (by intro z; cases z)) b, ⟨dz, B _ _ (ne_of c k (by intro z; cases z)) c⟩, B _ _ (ne_of d k (by intro z; cases z)) d, e.but k B, g.but k B⟩
structure WAt (K : PySem.W.Frag) (C : Addr) (H : Hp) (fd : Addr) (fs : List WF) : Prop where
  ex : ∃ xs : List V, H fd = some (.lst xs) ∧ xs.length = fs.length ∧ ∀ (k : Nat) f x, fs[k]? = some f → xs[k]? = some x → WfAt K C H f x
theorem WAt.same {K : PySem.W.Frag} {C : Addr} {H H' : Hp} {fd : Addr} {fs : List WF} (h : WAt K C H fd fs) (s : Same H H') : WAt K C H' fd fs := by
  obtain ⟨xs, a, b, c⟩ := h.ex
  exact ⟨xs, s _ _ a, b, fun k f x h1 h2 => (c k f x h1 h2).same s⟩
theorem WAt.snoc {K : PySem.W.Frag} {C : Addr} {H : Hp} {fd : Addr} {fs : List WF} {xs : List V} {f : WF} {x : V} (h : WAt K C H fd fs) (e : H fd = some (.lst xs)) (hf : WfAt K C H f x) : WAt K C (upd H fd (.lst (xs ++ [x]))) fd (fs ++ [f]) := by
  obtain ⟨xs', a, b, c⟩ := h.ex
  rw [e] at a
  cases a
  have B : But fd H (upd H fd (.lst (xs ++ [x]))) := (But.refl fd H).upd
  refine ⟨xs ++ [x], upd_same, by rw [List.length_append, List.length_append, b]; rfl, fun k g y h1 h2 => ?_⟩
  rcases Nat.lt_or_ge k fs.length with z | z
  · rw [List.getElem?_append_left z] at h1
    rw [List.getElem?_append_left (by omega)] at h2
    exact (c k g y h1 h2).but e B
  · have hk := (List.getElem?_eq_some_iff.mp h1).1
    rw [List.length_append, List.length_singleton] at hk
    obtain rfl : k = fs.length := by omega
    rw [List.getElem?_append_right (Nat.le_refl _), Nat.sub_self] at h1
    rw [List.getElem?_append_right (by omega), b, Nat.sub_self] at h2
    cases h1
    cases h2
    exact hf.but e B

def rowsL (ms : List Met) : List PyData := ms.flatMap fun m => (List.range m.2.toNat).map fun (k : Nat) => row m.1 (k : Int)
theorem rowsL_take {ms : List Met} {i : Nat} {m : Met} (h : ms[i]? = some m) : rowsL (ms.take (i + 1)) = rowsL (ms.take i) ++ (List.range m.2.toNat).map fun (k : Nat) => row m.1 (k : Int) := by
  unfold rowsL
  rw [List.take_add_one, h, List.flatMap_append]
  simp
theorem rowsL_len : ∀ {ms : List Met}, (∀ m ∈ ms, 0 ≤ m.2 ∧ m.2 ≤ 3) → (rowsL ms).length ≤ 3 * ms.length
  | [], _ => Nat.le_refl _
  | m :: ms, h => by
    have ih := rowsL_len fun x hx => h x (List.mem_cons_of_mem m hx)
    have hm := h m List.mem_cons_self
    have e : rowsL (m :: ms) = ((List.range m.2.toNat).map fun (k : Nat) => row m.1 (k : Int)) ++ rowsL ms := List.flatMap_cons
    rw [e, List.length_append, List.length_map, List.length_range, List.length_cons]
    omega
theorem plain_row {v : List PyData} {k : Int} (h : plainK (.tuple v) = true) : plainK (row v k) = true := by
  simp only [row, plainK, plainKs, Bool.and_true] at h ⊢
  exact h
theorem plainKs_of : ∀ {l : List PyData}, (∀ d ∈ l, plainK d = true) → plainKs l = true
  | [], _ => rfl
  | d :: l, h => by
    simp only [plainKs]
    rw [h d List.mem_cons_self, plainKs_of fun x hx => h x (List.mem_cons_of_mem d hx)]
    rfl
theorem plainKs_mem : ∀ {l : List PyData}, plainKs l = true → ∀ d ∈ l, plainK d = true
  | d :: l, h, x, hx => by
    simp only [plainKs, Bool.and_eq_true] at h
    rcases List.mem_cons.mp hx with rfl | hx
    · exact h.1
    · exact plainKs_mem h.2 x hx
theorem rowsL_plain {ms : List Met} (h : ∀ m ∈ ms, plainK (.tuple m.1) = true) : plainKs (rowsL ms) = true := plainKs_of fun d hd => by
  obtain ⟨m, hm, hd⟩ := List.mem_flatMap.mp hd
  obtain ⟨k, _, rfl⟩ := List.mem_map.mp hd
  exact plain_row (h m hm)
theorem row_lay2 {m : Met} (h : MOk m) (k : Int) : (row m.1 k).canLay0 = true ∧ (row m.1 k).depth ≤ 3 := by
  obtain ⟨_, h2, h3, _⟩ := h.view
  refine ⟨by simp only [row, PyData.canLay0, PyData.canLayAll0, Bool.and_true] at h2 ⊢; exact h2, ?_⟩
  simp only [row, PyData.depth, PyData.depthAll] at h3 ⊢
  omega
theorem rowsL_shaped {ms : List Met} (h : ∀ m ∈ ms, MOk m) : SeqAt.shaped (.list (rowsL ms)) = true := by
  obtain ⟨a2, a3⟩ := all_lay (n := 3) (ds := rowsL ms) fun d hd => by
    obtain ⟨m, hm, hd⟩ := List.mem_flatMap.mp hd
    obtain ⟨k, _, rfl⟩ := List.mem_map.mp hd
    exact row_lay2 (h m hm) k
  unfold SeqAt.shaped
  simp only [PyData.canLay0, PyData.depth, a2, Bool.true_and]
  exact decide_eq_true (by omega)
def dO : Option PyData → PyData
  | none => .none
  | some d => d
mutual
/-- at each of its turns a player knows the last row -/
def KeepP : Tr → Option PyData → Option PyData → Prop
  | .fin _, _, _ => True
  | .lot ps, r1, r2 => KeepPs ps (fun _ => (r1, r2)) 0
  | .turn pl v ps, r1, r2 => ((∀ d ∈ v, Item d) ∧ v.length ≤ 1000 ∧ lastRow v = if pl = 1 then r1 else r2) ∧ KeepPs ps (fun k => if pl = 1 then (some (row v (k : Int)), r2) else (r1, some (row v (k : Int)))) 0
def KeepPs : List Tr → (Nat → Option PyData × Option PyData) → Nat → Prop
  | [], _, _ => True
  | t :: ts, f, k => KeepP t (f k).1 (f k).2 ∧ KeepPs ts f (k + 1)
end
theorem keeps_at {t : Tr} {f : Nat → Option PyData × Option PyData} : ∀ {ts : List Tr} {i k : Nat}, KeepPs ts f k → ts[i]? = some t → KeepP t (f (k + i)).1 (f (k + i)).2
  | [], _, _, _, h => by simp at h
  | u :: ts, 0, k, h, e => by
    cases e
    exact h.1
  | u :: ts, i + 1, k, h, e => by
    have := keeps_at (i := i) h.2 (by simpa using e)
    rw [show k + 1 + i = k + (i + 1) by omega] at this
    exact this
theorem keeps_of {f : Nat → Option PyData × Option PyData} : ∀ {ts : List Tr} {k : Nat}, (∀ (i : Nat) t, ts[i]? = some t → KeepP t (f (k + i)).1 (f (k + i)).2) → KeepPs ts f k
  | [], _, _ => trivial
  | t :: ts, k, h => ⟨h 0 t rfl, keeps_of fun i u hu => by
    have := h (i + 1) u (by simpa using hu)
    rw [show k + 1 + i = k + (i + 1) by omega]
    exact this⟩
theorem lastR_snoc {st : List Stg} {q : List Int} {s : Stg} (e : st[q.length]? = some s) (j : Nat) (pl : Int) : lastR st (q ++ [(j : Int)]) pl (q.length + 1) = if s.w = pl then some ((askD st q s, s.n), (j : Int)) else lastR st q pl q.length := by
  have tk : (q ++ [(j : Int)]).take q.length = q.take q.length := by rw [List.take_left' rfl, List.take_length]
  have : lastR st (q ++ [(j : Int)]) pl (q.length + 1) = if s.w = pl then some (mqAt st (q ++ [(j : Int)]) q.length) else lastR st (q ++ [(j : Int)]) pl q.length := by
    show (match st[q.length]? with | some s => _ | none => _) = _
    rw [e]
  rw [this, lastR_take tk (Nat.le_refl _)]
  unfold mqAt
  rw [tk, List.take_length, stN_at e, List.getD_eq_getElem?_getD, List.getElem?_append_right (Nat.le_refl _), Nat.sub_self]
  rfl
theorem lastR_own {st : List Stg} {p : List Int} {pl : Int} : ∀ {k : Nat}, (lastR st p pl k).map rowQ = ((ownJ st pl k).map (rowAt st p)).getLast?
  | 0 => rfl
  | k + 1 => by
    have ih := lastR_own (st := st) (p := p) (pl := pl) (k := k)
    unfold lastR ownJ
    split
    · split
      · rw [List.map_append, List.map_cons, List.map_nil, List.getLast?_concat]
        rfl
      · exact ih
    · exact ih
theorem last_ask {st : List Stg} {q : List Int} {s : Stg} (e : st[q.length]? = some s) : lastRow (askD st q s) = (lastR st q s.w q.length).map rowQ := by
  have h := rows_ask (path := q) (Nat.le_refl _) e
  rw [List.take_length] at h
  unfold lastRow
  rw [h, lastR_own]
theorem node_keep {st : List Stg} {paid : List Int} (hw : ∀ s ∈ st, 0 ≤ s.w ∧ s.w ≤ 2) (hl : st.length ≤ 4) (ok : ∀ s ∈ st, 1 ≤ s.n ∧ s.n ≤ 3) : ∀ (f : Nat) (q : List Int), q.length + f = st.length →
    KeepP (nodeD st paid f q) ((lastR st q 1 q.length).map rowQ) ((lastR st q 2 q.length).map rowQ)
  | 0, q, hq => trivial
  | f + 1, q, hq => by
    have e : st[q.length]? = some st[q.length] := List.getElem?_eq_getElem (by omega)
    have hww := hw _ (List.mem_of_getElem? e)
    generalize st[q.length] = s at *
    have ih : ∀ j : Nat, KeepP (nodeD st paid f (q ++ [(j : Int)])) ((if s.w = 1 then some ((askD st q s, s.n), (j : Int)) else lastR st q 1 q.length).map rowQ) ((if s.w = 2 then some ((askD st q s, s.n), (j : Int)) else lastR st q 2 q.length).map rowQ) := fun j => by
      have := node_keep (paid := paid) hw hl ok f (q ++ [(j : Int)]) (by rw [List.length_append, List.length_singleton]; omega)
      rw [List.length_append, List.length_singleton, lastR_snoc e, lastR_snoc e] at this
      exact this
    have kid : ∀ (i : Nat) t, ((List.range s.n.toNat).map fun (j : Nat) => nodeD st paid f (q ++ [(j : Int)]))[i]? = some t → t = nodeD st paid f (q ++ [(i : Int)]) := fun i t ht => by
      have hi := (List.getElem?_eq_some_iff.mp ht).1
      rw [List.length_map, List.length_range] at hi
      rw [List.getElem?_map, List.getElem?_range hi] at ht
      exact (Option.some.inj ht).symm
    rw [nodeD_at e]
    by_cases w0 : s.w = 0
    · rw [if_pos w0]
      refine keeps_of (k := 0) fun i t ht => ?_
      rw [kid i t ht]
      have := ih i
      rw [if_neg (by omega), if_neg (by omega)] at this
      exact this
    · rw [if_neg w0]
      have la := last_ask e
      have mz := (mItem_ok (pl := s.w) (p := q) (k := q.length) hl ok (Nat.le_refl _) (by unfold mItem; rw [e]; exact if_pos rfl)).z
      rw [List.take_length] at mz
      have mz : (askD st q s).length ≤ 20 := mz
      refine ⟨⟨ask_item, by omega, ?_⟩, keeps_of (k := 0) fun i t ht => ?_⟩
      · rw [la]
        rcases (by omega : s.w = 1 ∨ s.w = 2) with z | z
        · rw [if_pos z, z]
        · rw [if_neg (by omega), z]
      · rw [kid i t ht, Nat.zero_add]
        have := ih i
        rcases (by omega : s.w = 1 ∨ s.w = 2) with z | z
        · rw [if_pos z, if_neg (by omega)] at this
          rw [if_pos z]
          exact this
        · rw [if_neg (by omega), if_pos z] at this
          rw [if_neg (by omega)]
          exact this

theorem all_same {α : Type} {f g : α → Bool} : ∀ {l : List α}, (∀ a ∈ l, f a = g a) → l.all f = l.all g
  | [], _ => rfl
  | a :: l, h => by
    rw [List.all_cons, List.all_cons, h a List.mem_cons_self, all_same fun b hb => h b (List.mem_cons_of_mem a hb)]
/-- the view told at a turn: one place has another one -/
def viewC (st : List Stg) (place : Option (List Int)) (vd : List PyData) (q : List Int) (s : Stg) : List PyData := if some q = place then vd else askD st q s
def chD (st : List Stg) (place : Option (List Int)) (vd : List PyData) : Nat → List Int → Tr
  | 0, _ => .fin 0
  | f + 1, path => match st[path.length]? with
    | some s => if s.w = 0 then .lot ((List.range s.n.toNat).map fun (j : Nat) => chD st place vd f (path ++ [(j : Int)])) else .turn s.w (viewC st place vd path s) ((List.range s.n.toNat).map fun (j : Nat) => chD st place vd f (path ++ [(j : Int)]))
    | none => .fin 0
theorem chD_at {st : List Stg} {place : Option (List Int)} {vd : List PyData} {f : Nat} {path : List Int} {s : Stg} (h : st[path.length]? = some s) : chD st place vd (f + 1) path = if s.w = 0 then .lot ((List.range s.n.toNat).map fun (j : Nat) => chD st place vd f (path ++ [(j : Int)])) else .turn s.w (viewC st place vd path s) ((List.range s.n.toNat).map fun (j : Nat) => chD st place vd f (path ++ [(j : Int)])) := by
  show (match st[path.length]? with | some s => _ | none => _) = _
  rw [h]
theorem chD_none {st : List Stg} {vd : List PyData} : ∀ (f : Nat) (q : List Int), chD st none vd f q = nodeD st [] f q
  | 0, q => rfl
  | f + 1, q => by
    cases e : st[q.length]? with
    | none =>
      show (match st[q.length]? with | some s => _ | none => _) = (match st[q.length]? with | some s => _ | none => _)
      rw [e]
    | some s =>
      rw [chD_at e, nodeD_at e]
      have kids : ((List.range s.n.toNat).map fun (j : Nat) => chD st none vd f (q ++ [(j : Int)])) = (List.range s.n.toNat).map fun (j : Nat) => nodeD st [] f (q ++ [(j : Int)]) := List.map_congr_left fun j _ => chD_none f _
      have hv : viewC st none vd q s = askD st q s := if_neg (fun h => by cases h)
      rw [kids, hv]
mutual
/-- what _keeps answers -/
def keepB : Tr → Option PyData → Option PyData → Bool
  | .fin _, _, _ => true
  | .lot ps, r1, r2 => keepsB ps (fun _ => (r1, r2)) 0
  | .turn pl v ps, r1, r2 => PyData.eqv (dO (lastRow v)) (dO (if pl = 1 then r1 else r2)) && keepsB ps (fun k => if pl = 1 then (some (row v (k : Int)), r2) else (r1, some (row v (k : Int)))) 0
def keepsB : List Tr → (Nat → Option PyData × Option PyData) → Nat → Bool
  | [], _, _ => true
  | t :: ts, f, k => keepB t (f k).1 (f k).2 && keepsB ts f (k + 1)
end
theorem keepsB_snoc {t : Tr} {f : Nat → Option PyData × Option PyData} : ∀ {ts : List Tr} {k : Nat}, keepsB (ts ++ [t]) f k = (keepsB ts f k && keepB t (f (k + ts.length)).1 (f (k + ts.length)).2)
  | [], k => by
    show (keepB t (f k).1 (f k).2 && true) = (true && keepB t (f (k + 0)).1 (f (k + 0)).2)
    rw [Bool.and_true, Bool.true_and, Nat.add_zero]
  | u :: ts, k => by
    show (keepB u (f k).1 (f k).2 && keepsB (ts ++ [t]) f (k + 1)) = ((keepB u (f k).1 (f k).2 && keepsB ts f (k + 1)) && _)
    rw [keepsB_snoc, Bool.and_assoc, List.length_cons, show k + 1 + ts.length = k + (ts.length + 1) by omega]
theorem keepsB_take {ts : List Tr} {f : Nat → Option PyData × Option PyData} {t : Tr} {i : Nat} (h : ts[i]? = some t) : keepsB (ts.take (i + 1)) f 0 = (keepsB (ts.take i) f 0 && keepB t (f i).1 (f i).2) := by
  have hi := (List.getElem?_eq_some_iff.mp h).1
  rw [List.take_add_one, h]
  show keepsB (ts.take i ++ [t]) f 0 = _
  rw [keepsB_snoc, List.length_take, Nat.min_eq_left (by omega), Nat.zero_add]
theorem keepsB_drop {ts : List Tr} {f : Nat → Option PyData × Option PyData} {t : Tr} : ∀ {us : List Tr} {k : Nat}, keepsB (us ++ t :: ts) f k = (keepsB us f k && (keepB t (f (k + us.length)).1 (f (k + us.length)).2 && keepsB ts f (k + us.length + 1)))
  | [], k => by
    show (keepB t (f k).1 (f k).2 && keepsB ts f (k + 1)) = (true && _)
    rw [Bool.true_and]
    rfl
  | u :: us, k => by
    show (keepB u (f k).1 (f k).2 && keepsB (us ++ t :: ts) f (k + 1)) = ((keepB u (f k).1 (f k).2 && keepsB us f (k + 1)) && _)
    rw [keepsB_drop, Bool.and_assoc, List.length_cons, show k + 1 + us.length = k + (us.length + 1) by omega]
theorem keepsB_no {ts : List Tr} {f : Nat → Option PyData × Option PyData} {t : Tr} {i : Nat} (h : ts[i]? = some t) (n : keepB t (f i).1 (f i).2 = false) : keepsB ts f 0 = false := by
  obtain ⟨hi, rfl⟩ := List.getElem?_eq_some_iff.mp h
  have e : ts = ts.take i ++ ts[i] :: ts.drop (i + 1) := by rw [← List.drop_eq_getElem_cons hi, List.take_append_drop]
  rw [e, keepsB_drop, List.length_take, Nat.min_eq_left (by omega), Nat.zero_add, n, Bool.false_and, Bool.and_false]
/-- what the law's own walk along a way answers -/
def walkB (st : List Stg) (place : Option (List Int)) (vd : List PyData) (p : List Int) : Nat → Nat → Option PyData → Option PyData → Bool
  | 0, _, _, _ => true
  | f + 1, k, r1, r2 => match st[k]? with
    | some s => if s.w = 0 then walkB st place vd p f (k + 1) r1 r2 else
        PyData.eqv (dO (lastRow (viewC st place vd (p.take k) s))) (dO (if s.w = 1 then r1 else r2)) &&
          walkB st place vd p f (k + 1) (if s.w = 1 then some (row (viewC st place vd (p.take k) s) (p.getD k 0)) else r1) (if s.w = 1 then r2 else some (row (viewC st place vd (p.take k) s) (p.getD k 0)))
    | none => true
theorem walkB_at {st : List Stg} {place : Option (List Int)} {vd : List PyData} {p : List Int} {f k : Nat} {r1 r2 : Option PyData} {s : Stg} (h : st[k]? = some s) : walkB st place vd p (f + 1) k r1 r2 = if s.w = 0 then walkB st place vd p f (k + 1) r1 r2 else
        PyData.eqv (dO (lastRow (viewC st place vd (p.take k) s))) (dO (if s.w = 1 then r1 else r2)) &&
          walkB st place vd p f (k + 1) (if s.w = 1 then some (row (viewC st place vd (p.take k) s) (p.getD k 0)) else r1) (if s.w = 1 then r2 else some (row (viewC st place vd (p.take k) s) (p.getD k 0))) := by
  show (match st[k]? with | some s => _ | none => _) = _
  rw [h]
theorem keep_walk {st : List Stg} {place : Option (List Int)} {vd : List PyData} (hw : ∀ s ∈ st, 0 ≤ s.w ∧ s.w ≤ 2) (ok : ∀ s ∈ st, 1 ≤ s.n ∧ s.n ≤ 3) : ∀ (f : Nat) (q : List Int) (r1 r2 : Option PyData), q.length + f = st.length →
    keepB (chD st place vd f q) r1 r2 = (belowP st f q).all fun p => walkB st place vd p f q.length r1 r2
  | 0, q, r1, r2, hq => rfl
  | f + 1, q, r1, r2, hq => by
    have e : st[q.length]? = some st[q.length] := List.getElem?_eq_getElem (by omega)
    have hn := ok _ (List.mem_of_getElem? e)
    have hww := hw _ (List.mem_of_getElem? e)
    generalize st[q.length] = s at *
    have kids : ∀ (js : List Nat) (F : Nat → Option PyData × Option PyData) (G : Nat → Option PyData × Option PyData) (k : Nat), (∀ (i j : Nat), js[i]? = some j → F (k + i) = G j) →
        keepsB (js.map fun (j : Nat) => chD st place vd f (q ++ [(j : Int)])) F k = (js.flatMap fun (j : Nat) => belowP st f (q ++ [(j : Int)])).all fun p => walkB st place vd p f (q.length + 1) (G (p.getD q.length 0).toNat).1 (G (p.getD q.length 0).toNat).2 := by
      intro js
      induction js with
      | nil => exact fun F G k _ => rfl
      | cons j js ih =>
        intro F G k hg
        have h0 := hg 0 j rfl
        rw [Nat.add_zero] at h0
        rw [List.map_cons, List.flatMap_cons, List.all_append, ← ih F G (k + 1) fun i m hm => by rw [show k + 1 + i = k + (i + 1) by omega]; exact hg (i + 1) m (by simpa using hm)]
        show (keepB (chD st place vd f (q ++ [(j : Int)])) (F k).1 (F k).2 && _) = _
        congr 1
        have ih2 := keep_walk (place := place) (vd := vd) hw ok f (q ++ [(j : Int)]) (F k).1 (F k).2 (by rw [List.length_append, List.length_singleton]; omega)
        rw [ih2, h0]
        refine all_same fun p hp => ?_
        have bt := (below_take p hp).1
        have e0 : p.getD q.length 0 = (j : Int) := by
          have h1 := congrArg (fun l => l[q.length]?) bt
          simp only [List.length_append, List.length_singleton] at h1
          rw [List.getElem?_take_of_lt (by omega), List.getElem?_append_right (Nat.le_refl _), Nat.sub_self] at h1
          rw [List.getD_eq_getElem?_getD, h1]
          rfl
        rw [e0, Int.toNat_natCast, List.length_append, List.length_singleton]
    have idx : ∀ {i j : Nat}, (List.range s.n.toNat)[i]? = some j → i = j := fun {i j} hj => by
      have hi := (List.getElem?_eq_some_iff.mp hj).1
      rw [List.length_range] at hi
      rw [List.getElem?_range hi] at hj
      exact Option.some.inj hj
    have tkq : ∀ p ∈ belowP st (f + 1) q, p.take q.length = q := fun p hp => (below_take p hp).1
    rw [chD_at e]
    by_cases w0 : s.w = 0
    · rw [if_pos w0, below_at e]
      refine (kids _ (fun _ => (r1, r2)) (fun _ => (r1, r2)) 0 fun _ _ _ => rfl).trans ?_
      refine all_same fun p hp => ?_
      rw [walkB_at e, if_pos w0]
    · rw [if_neg w0]
      have step : ∀ p ∈ belowP st (f + 1) q, walkB st place vd p (f + 1) q.length r1 r2 = (PyData.eqv (dO (lastRow (viewC st place vd q s))) (dO (if s.w = 1 then r1 else r2)) &&
          walkB st place vd p f (q.length + 1) (if s.w = 1 then some (row (viewC st place vd q s) (p.getD q.length 0)) else r1) (if s.w = 1 then r2 else some (row (viewC st place vd q s) (p.getD q.length 0)))) := fun p hp => by
        rw [walkB_at e, if_neg w0, tkq p hp]
      rw [all_same step]
      show (PyData.eqv (dO (lastRow (viewC st place vd q s))) (dO (if s.w = 1 then r1 else r2)) && keepsB _ _ 0) = _
      cases c : PyData.eqv (dO (lastRow (viewC st place vd q s))) (dO (if s.w = 1 then r1 else r2)) with
      | false =>
        obtain ⟨p, ps, hb⟩ := below_ne ok (f := f + 1) (q := q)
        rw [hb]
        rfl
      | true =>
        rw [Bool.true_and, below_at e]
        refine (kids _ _ (fun k => if s.w = 1 then (some (row (viewC st place vd q s) (k : Int)), r2) else (r1, some (row (viewC st place vd q s) (k : Int)))) 0 fun i j hj => ?_).trans ?_
        · obtain rfl := idx hj
          rw [Nat.zero_add]
        · refine all_same fun p hp => ?_
          rw [Bool.true_and]
          have hp2 : p ∈ belowP st (f + 1) q := by rw [below_at e]; exact hp
          have nn : 0 ≤ p.getD q.length 0 := by
            obtain ⟨j, _, hj⟩ := List.mem_flatMap.mp hp
            have bt := (below_take p hj).1
            have h1 := congrArg (fun l => l[q.length]?) bt
            simp only [List.length_append, List.length_singleton] at h1
            rw [List.getElem?_take_of_lt (by omega), List.getElem?_append_right (Nat.le_refl _), Nat.sub_self] at h1
            rw [List.getD_eq_getElem?_getD, h1]
            exact Int.natCast_nonneg j
          rw [show (((p.getD q.length 0).toNat : Nat) : Int) = p.getD q.length 0 by omega]
          by_cases w1 : s.w = 1
          · simp only [if_pos w1]
          · simp only [if_neg w1]
theorem keep_law {st : List Stg} {place : Option (List Int)} {vd : List PyData} (hw : ∀ s ∈ st, 0 ≤ s.w ∧ s.w ≤ 2) (ok : ∀ s ∈ st, 1 ≤ s.n ∧ s.n ≤ 3) : keepB (chD st place vd st.length []) none none = (pathsD st).all fun p => walkB st place vd p st.length 0 none none := by
  have h := keep_walk (place := place) (vd := vd) hw ok st.length [] none none (by simp)
  have := pStep_below (st := st) (f := st.length) (k := 0) (by omega)
  have e : belowP st st.length [] = pathsD st := by
    rw [← this]
    show _ = [[]].flatMap _
    simp
  rw [← e]
  exact h
mutual
theorem keep_of : ∀ (t : Tr) (r1 r2 : Option PyData), (∀ r, r1 = some r → SeqAt.shaped r = true) → (∀ r, r2 = some r → SeqAt.shaped r = true) → KeepP t r1 r2 → keepB t r1 r2 = true
  | .fin _, _, _, _, _, _ => rfl
  | .lot ps, r1, r2, h1, h2, h => keeps_of2 ps _ 0 (fun k => ⟨h1, h2⟩) h
  | .turn pl v ps, r1, r2, h1, h2, h => by
    obtain ⟨⟨hi, _, hl⟩, hk⟩ := h
    show (PyData.eqv (dO (lastRow v)) (dO (if pl = 1 then r1 else r2)) && keepsB ps _ 0) = true
    have sh : ∀ k : Int, SeqAt.shaped (row v k) = true := fun k => by
      obtain ⟨a, b⟩ := row_lay (m := k) hi
      unfold SeqAt.shaped
      rw [a, Bool.true_and]
      exact decide_eq_true (by omega)
    have e1 : PyData.eqv (dO (lastRow v)) (dO (if pl = 1 then r1 else r2)) = true := by
      rw [← hl]
      cases hq : lastRow v with
      | none => decide
      | some r => exact SeqAt.eqv_refl _ (SeqAt.canLay_of_shaped (last_shaped hi hq))
    rw [e1, Bool.true_and]
    refine keeps_of2 ps _ 0 (fun k => ?_) hk
    by_cases c : pl = 1
    · simp only [if_pos c]
      exact ⟨fun r hr => by cases hr; exact sh _, h2⟩
    · simp only [if_neg c]
      exact ⟨h1, fun r hr => by cases hr; exact sh _⟩
theorem keeps_of2 : ∀ (ts : List Tr) (f : Nat → Option PyData × Option PyData) (k : Nat), (∀ k, (∀ r, (f k).1 = some r → SeqAt.shaped r = true) ∧ ∀ r, (f k).2 = some r → SeqAt.shaped r = true) → KeepPs ts f k → keepsB ts f k = true
  | [], _, _, _, _ => rfl
  | t :: ts, f, k, hf, h => by
    show (keepB t (f k).1 (f k).2 && keepsB ts f (k + 1)) = true
    rw [keep_of t _ _ (hf k).1 (hf k).2 h.1, keeps_of2 ts f (k + 1) hf h.2]
    rfl
end

mutual
def TItm : Tr → Prop
  | .fin _ => True
  | .lot ps => TItms ps
  | .turn _ v ps => ((∀ d ∈ v, Item d) ∧ v.length ≤ 1000) ∧ TItms ps
def TItms : List Tr → Prop
  | [] => True
  | t :: ts => TItm t ∧ TItms ts
end
theorem tItms_mem {t : Tr} : ∀ {ts : List Tr}, TItms ts → t ∈ ts → TItm t
  | _ :: _, h, m => by
    rcases List.mem_cons.mp m with rfl | m
    · exact h.1
    · exact tItms_mem h.2 m
theorem tItms_of : ∀ {ts : List Tr}, (∀ t ∈ ts, TItm t) → TItms ts
  | [], _ => trivial
  | t :: ts, h => ⟨h t List.mem_cons_self, tItms_of fun x hx => h x (List.mem_cons_of_mem _ hx)⟩
theorem keepsB_const {r1 r2 : Option PyData} : ∀ {ts : List Tr} {k : Nat}, keepsB ts (fun _ => (r1, r2)) k = (ts.map fun t => keepB t r1 r2).all id
  | [], _ => rfl
  | t :: ts, k => by
    show (keepB t r1 r2 && keepsB ts (fun _ => (r1, r2)) (k + 1)) = _
    rw [keepsB_const, List.map_cons, List.all_cons]
    rfl
theorem row_shaped {v : List PyData} (hi : ∀ d ∈ v, Item d) (k : Int) : SeqAt.shaped (row v k) = true := by
  obtain ⟨a, b⟩ := row_lay (m := k) hi
  unfold SeqAt.shaped
  rw [a, Bool.true_and]
  exact decide_eq_true (by omega)

theorem eqvs_ints : ∀ a b : List Int, PyData.eqvAll (a.map PyData.int) (b.map PyData.int) = decide (a = b)
  | [], [] => by simp [PyData.eqvAll]
  | [], _ :: _ => by simp [PyData.eqvAll]
  | _ :: _, [] => by simp [PyData.eqvAll]
  | x :: a, y :: b => by
    have ih := eqvs_ints a b
    rw [List.map_cons, List.map_cons]
    simp only [PyData.eqvAll, PyData.eqv, ih]
    by_cases h : x = y
    · subst h
      by_cases h2 : a = b
      · subst h2
        simp
      · simp [h2]
    · simp [h]
theorem eqv_ints {a b : List Int} : PyData.eqv (.list (a.map PyData.int)) (.list (b.map PyData.int)) = decide (a = b) := by
  rw [← eqvs_ints]
  simp [PyData.eqv]
theorem ints_lay : ∀ a : List Int, PyData.canLayAll0 (a.map PyData.int) = true ∧ PyData.depthAll (a.map PyData.int) ≤ 1
  | [] => ⟨rfl, by simp [PyData.depthAll]⟩
  | x :: a => by
    obtain ⟨h1, h2⟩ := ints_lay a
    rw [List.map_cons]
    simp only [PyData.canLayAll0, PyData.canLay0, PyData.depthAll, PyData.depth, h1, Bool.true_and]
    exact ⟨trivial, by omega⟩
theorem ints_shaped (a : List Int) : SeqAt.shaped (.list (a.map PyData.int)) = true := by
  obtain ⟨h1, h2⟩ := ints_lay a
  unfold SeqAt.shaped
  simp only [PyData.canLay0, PyData.depth, h1, Bool.true_and]
  exact decide_eq_true (by omega)
theorem dpAll_ints {K : PySem.W.Frag} {H : Hp} : ∀ a : List Int, DpAll K H (a.map V.int) (a.map PyData.int)
  | [] => .nil
  | x :: a => .cons (.int x) (dpAll_ints a)
theorem dp_ints {K : PySem.W.Frag} {H : Hp} {p : Addr} {a : List Int} (h : H p = some (.lst (a.map V.int))) : Dp K H (.ref p) (.list (a.map PyData.int)) := .lst (.of h) (dpAll_ints a)
/-- a place, or None -/
def PlV (H : Hp) (x : V) (place : Option (List Int)) : Prop := match place with
  | none => x = .non
  | some q => ∃ b, x = .ref b ∧ H b = some (.lst (q.map V.int))
theorem PlV.same {H H' : Hp} {x : V} {place : Option (List Int)} (h : PlV H x place) (s : Same H H') : PlV H' x place := by
  cases place with
  | none => exact h
  | some q =>
    obtain ⟨b, e, g⟩ := h
    exact ⟨b, e, s _ _ g⟩
theorem pl_eq {K : PySem.W.Frag} {H : Hp} {p : Addr} {path : List Int} {x : V} {place : Option (List Int)} {Q : VK} (h1 : H p = some (.lst (path.map V.int))) (h2 : PlV H x place) (q : Q (.bl (decide (some path = place))) H) : rEqD K (.ref p) x H Q := by
  cases place with
  | none =>
    have h2 : x = .non := h2
    subst h2
    refine ⟨_, .none, dp_ints h1, .non, ints_shaped path, by decide, ?_⟩
    have e : PyData.eqv (.list (path.map PyData.int)) .none = decide (some path = (none : Option (List Int))) := by simp [PyData.eqv]
    rw [e]
    exact q
  | some r =>
    obtain ⟨b, rfl, g⟩ := h2
    refine ⟨_, _, dp_ints h1, dp_ints g, ints_shaped path, ints_shaped r, ?_⟩
    have e : decide (some path = some r) = decide (path = r) := by simp
    rw [eqv_ints, ← e]
    exact q

theorem items_noL : ∀ {v : List PyData}, (∀ d ∈ v, Item d) → noLAll v = true
  | [], _ => rfl
  | d :: v, h => by
    simp only [noLAll, item_noL (h d List.mem_cons_self), items_noL fun x hx => h x (List.mem_cons_of_mem d hx), Bool.and_self]
structure RowD (r : Option PyData) : Prop where
  l : noL (dO r) = true
  s : SeqAt.shaped (dO r) = true
theorem RowD.none : RowD none := ⟨rfl, by decide⟩
theorem RowD.row {v : List PyData} (h : ∀ d ∈ v, Item d) (k : Int) : RowD (some (row v k)) := by
  refine ⟨?_, row_shaped h k⟩
  show noL (.tuple [.tuple v, .int k]) = true
  simp only [noL, noLAll, items_noL h, Bool.and_self]
theorem viewC_items {st : List Stg} {place : Option (List Int)} {vd : List PyData} (h : ∀ d ∈ vd, Item d) {q : List Int} {s : Stg} : ∀ d ∈ viewC st place vd q s, Item d := by
  unfold viewC
  split
  · exact h
  · exact ask_item

theorem go_catAnyC {K : PySem.W.Frag} {H : Hp} {Q : VK} {a b : Addr} {xs ys : List V} (h1 : SqT K H a xs) (h2 : SqT K H b ys) (hz : xs.length + ys.length ≤ 100000)
    (q : ∀ p H', Same H H' → SqT K H' p (xs ++ ys) → Q (.ref p) H') : rCatA K (.ref a) (.ref b) H Q := by
  refine ⟨a, b, xs, ys, rfl, rfl, h1, h2, Nat.le_trans hz (by rw [sizeLine_eq]; decide), fun e => ?_, fun _ e => ?_, fun _ _ p hp => ?_⟩
  · subst e
    exact q b H (Same.refl _) h2
  · subst e
    rw [List.append_nil] at q
    exact q a H (Same.refl _) h1
  · exact q p _ (fun c o hc => by rw [upd_ne (ne_of_none hc hp)]; exact hc) (.inl (.inl upd_same))
theorem go_slFrom {K : PySem.W.Frag} {H : Hp} {Q : VK} {a : Addr} {xs : List V} {k : Nat} (h : SqT K H a xs) (q : ∀ p H', Same H H' → SqT K H' p (xs.drop k) → Q (.ref p) H') : rSlA K (.ref a) (some (k : Int)) none H Q := by
  refine ⟨a, xs, rfl, h, fun e => ?_, fun _ p hp => ?_⟩
  · have e1 := e.1
    rw [HT.sIx_nat] at e1
    have : xs.drop k = xs := by
      rcases Nat.eq_zero_or_pos k with z | z
      · rw [z, List.drop_zero]
      · have : xs.length = 0 := by omega
        rw [List.length_eq_zero_iff.mp this, List.drop_nil]
    exact q a H (Same.refl _) (by rw [this]; exact h)
  · exact q p _ (fun c o hc => by rw [upd_ne (ne_of_none hc hp)]; exact hc) (.inl (.inl (by rw [upd_same, cut_from])))
theorem dpAll_drop {K : PySem.W.Frag} {H : Hp} : ∀ {ds : List PyData} {vs : List V} (n : Nat), DpAll K H vs ds → DpAll K H (vs.drop n) (ds.drop n)
  | _, _, 0, h => h
  | _, _, n + 1, .nil => .nil
  | _, _, n + 1, .cons _ h => dpAll_drop n h
theorem ask_itm {st : List Stg} {path : List Int} {s : Stg} : ∀ d ∈ askD st path s, Itm d := fun d h => by
  rcases List.mem_append.mp h with h | h
  · exact vStep_itm _ _ _ _ d h
  · rw [List.mem_singleton.mp h]
    exact itm_move _ _

theorem ch_ok {st : List Stg} {place : Option (List Int)} {vd : List PyData} (hw : ∀ s ∈ st, 0 ≤ s.w ∧ s.w ≤ 2) (ok : ∀ s ∈ st, 1 ≤ s.n ∧ s.n ≤ 3) (hi : ∀ d ∈ vd, Item d) (hl : vd.length ≤ 1000) (h4 : st.length ≤ 4) : ∀ (f : Nat) (q : List Int), q.length + f = st.length → TOk (chD st place vd f q) ∧ hgt (chD st place vd f q) ≤ f ∧ TItm (chD st place vd f q)
  | 0, q, _ => ⟨trivial, Nat.le_refl _, trivial⟩
  | f + 1, q, hq => by
    have e : st[q.length]? = some st[q.length] := List.getElem?_eq_getElem (by omega)
    have h1 := ok _ (List.mem_of_getElem? e)
    have h2 := hw _ (List.mem_of_getElem? e)
    generalize st[q.length] = s at *
    have len : ((List.range s.n.toNat).map fun (j : Nat) => chD st place vd f (q ++ [(j : Int)])).length = s.n.toNat := by rw [List.length_map, List.length_range]
    have kids : ∀ t ∈ ((List.range s.n.toNat).map fun (j : Nat) => chD st place vd f (q ++ [(j : Int)])), TOk t ∧ hgt t ≤ f ∧ TItm t := fun t ht => by
      obtain ⟨j, _, rfl⟩ := List.mem_map.mp ht
      exact ch_ok hw ok hi hl h4 f _ (by rw [List.length_append, List.length_singleton]; omega)
    have k1 := tOks_of fun t ht => (kids t ht).1
    have k2 := hgts_le fun t ht => (kids t ht).2.1
    have k3 := tItms_of fun t ht => (kids t ht).2.2
    have alen : (askD st q s).length ≤ 20 := by
      have := (mItem_ok (pl := s.w) (p := q) (k := q.length) h4 ok (Nat.le_refl _) (by unfold mItem; rw [e]; exact if_pos rfl)).z
      rw [List.take_length] at this
      exact this
    have vl : (viewC st place vd q s).length ≤ 1000 := by
      unfold viewC
      split
      · exact hl
      · omega
    rw [chD_at e]
    split
    · exact ⟨⟨by rw [len]; omega, k1⟩, Nat.succ_le_succ k2, k3⟩
    · exact ⟨⟨by rw [len]; omega, k1⟩, Nat.succ_le_succ k2, ⟨viewC_items hi, vl⟩, k3⟩
/-- the list of turns of a law -/
structure TnAt (st : List Stg) (H : Hp) (T : Addr) (ts : List (List Int)) : Prop where
  ex : ∃ xs : List V, H T = some (.lst xs) ∧ xs.length = ts.length ∧ ∀ (k : Nat) t, ts[k]? = some t → ∃ q, xs[k]? = some (.ref q) ∧ q ≠ T ∧ H q = some (.lst (t.map V.int))
  ok : ∀ t ∈ ts, ∃ s, st[t.length]? = some s
theorem TnAt.same {st : List Stg} {H H' : Hp} {T : Addr} {ts : List (List Int)} (h : TnAt st H T ts) (s : Same H H') : TnAt st H' T ts := by
  obtain ⟨xs, a, b, c⟩ := h.ex
  exact ⟨⟨xs, s _ _ a, b, fun k t hk => let ⟨q, e1, e2, e3⟩ := c k t hk; ⟨q, e1, e2, s _ _ e3⟩⟩, h.ok⟩
theorem TnAt.snoc {st : List Stg} {H : Hp} {T q : Addr} {ts : List (List Int)} {xs : List V} {t : List Int} (h : TnAt st H T ts) (e : H T = some (.lst xs)) (hq : H q = some (.lst (t.map V.int))) (ne : q ≠ T) (hs : ∃ s, st[t.length]? = some s) : TnAt st (upd H T (.lst (xs ++ [.ref q]))) T (ts ++ [t]) := by
  obtain ⟨xs', a, b, c⟩ := h.ex
  rw [e] at a
  cases a
  refine ⟨⟨xs ++ [.ref q], upd_same, by rw [List.length_append, List.length_append, b]; rfl, fun k u hk => ?_⟩, fun u hu => ?_⟩
  · rcases Nat.lt_or_ge k ts.length with z | z
    · rw [List.getElem?_append_left z] at hk
      obtain ⟨r, e1, e2, e3⟩ := c k u hk
      exact ⟨r, by rw [List.getElem?_append_left (by omega)]; exact e1, e2, by rw [upd_ne e2]; exact e3⟩
    · have hl := (List.getElem?_eq_some_iff.mp hk).1
      rw [List.length_append, List.length_singleton] at hl
      obtain rfl : k = ts.length := by omega
      rw [List.getElem?_append_right (Nat.le_refl _), Nat.sub_self] at hk
      cases hk
      exact ⟨q, by rw [List.getElem?_append_right (by omega), b, Nat.sub_self]; rfl, ne, by rw [upd_ne ne]; exact hq⟩
  · rcases List.mem_append.mp hu with hu | hu
    · exact h.ok u hu
    · rw [List.mem_singleton.mp hu]
      exact hs
theorem lists_shaped (ts : List (List Int)) : SeqAt.shaped (.list (ts.map fun t => PyData.list (t.map PyData.int))) = true := by
  obtain ⟨a2, a3⟩ := all_lay (n := 2) (ds := ts.map fun t => PyData.list (t.map PyData.int)) fun d hd => by
    obtain ⟨t, _, rfl⟩ := List.mem_map.mp hd
    obtain ⟨h1, h2⟩ := ints_lay t
    simp only [PyData.canLay0, PyData.depth]
    exact ⟨h1, by omega⟩
  unfold SeqAt.shaped
  simp only [PyData.canLay0, PyData.depth, a2, Bool.true_and]
  exact decide_eq_true (by omega)
theorem dpAll_lists {K : PySem.W.Frag} {H : Hp} : ∀ {ts : List (List Int)} {xs : List V}, xs.length = ts.length → (∀ (k : Nat) t, ts[k]? = some t → ∃ q, xs[k]? = some (.ref q) ∧ H q = some (.lst (t.map V.int))) → DpAll K H xs (ts.map fun t => PyData.list (t.map PyData.int))
  | [], [], _, _ => .nil
  | [], _ :: _, h, _ => by simp at h
  | _ :: _, [], h, _ => by simp at h
  | t :: ts, x :: xs, h, f => by
    obtain ⟨q, e1, e2⟩ := f 0 t rfl
    cases e1
    exact .cons (dp_ints e2) (dpAll_lists (by simpa using h) fun k u hk => f (k + 1) u (by simpa using hk))
theorem TnAt.dp {K : PySem.W.Frag} {st : List Stg} {H : Hp} {T : Addr} {ts : List (List Int)} (h : TnAt st H T ts) : Dp K H (.ref T) (.list (ts.map fun t => PyData.list (t.map PyData.int))) := by
  obtain ⟨xs, a, b, c⟩ := h.ex
  exact .lst (.of a) (dpAll_lists b fun k t hk => let ⟨q, e1, _, e3⟩ := c k t hk; ⟨q, e1, e3⟩)

end K35
local macro_rules | `(tactic| walk_at "go1") => `(tactic| first
  | with_reducible refine K35.go_F_End_paid (by assumption) (by assumption) (by assumption) ?_
  | with_reducible refine K35.go_F_Lot_parts (by assumption) (by assumption) (by assumption) ?_
  | with_reducible refine K35.go_F_Turn_player (by assumption) (by assumption) (by assumption) ?_
  | with_reducible refine K35.go_F_Turn_view (by assumption) (by assumption) (by assumption) ?_
  | with_reducible refine K35.go_F_Turn_parts (by assumption) (by assumption) (by assumption) ?_)
namespace K35
open PySem PySem.Spec PyProof.Rows L2 Gx
section
variable {P : Program} {w : World} {K : PySem.W.Frag} {mg : Str → Option Value} {base : Heap} {A : Ad}
def sp_End___init__ (P : Program) (w : World) (K : PySem.W.Frag) (CE CL CT : Addr) : Sp := fun vs H Q _ => ∃ (p dx : Addr) (x : V), vs = [.ref p, x] ∧ H p = some (.ins CE dx []) ∧ ∀ H', But p H H' → H' p = some (.ins CE dx (F_End x)) → Q .non H'
theorem G_End___init__ (T : Txt P K mg A) : FnOk P w K mg base CX0 1 A.f_End___init__ A.d_End___init__ ["self", "paid"] (sp_End___init__ P w K A.c_End A.c_Lot A.c_Turn) := by
  refine (T.F_End___init__.ok (k := 0) sc_End___init__ (fun vs H Q E h => ?_) (fun cdv Ar outer s H vs Q E hr h => ?_))
  · obtain ⟨p, dx, x, rfl, _⟩ := h
    rfl
  · obtain ⟨p, dx, x, rfl, hp, q⟩ := h
    have cl := T.cl_End
    have n1 := T.na_End_paid
    refine ⟨_, (pss_one (ps_fld (pv 0) (pv 1) rfl)), ?_⟩
    try dsimp only [cxOf, Cx.nox, Cx.wish]
    walk_at "go"
    refine go_sfldV hp cl n1 (by show 0 < 1000; decide) ?_
    rw [F_End_made]
    exact q _ (fun c o n e => by rw [upd_ne n]; exact e) upd_same
end
end K35

namespace K35
open PySem PySem.Spec PyProof.Rows L2 Gx
section
variable {P : Program} {w : World} {K : PySem.W.Frag} {mg : Str → Option Value} {base : Heap} {A : Ad}
def sp_Lot___init__ (P : Program) (w : World) (K : PySem.W.Frag) (CE CL CT : Addr) : Sp := fun vs H Q _ => ∃ (p dx : Addr) (x : V), vs = [.ref p, x] ∧ H p = some (.ins CL dx []) ∧ ∀ H', But p H H' → H' p = some (.ins CL dx (F_Lot x)) → Q .non H'
theorem G_Lot___init__ (T : Txt P K mg A) : FnOk P w K mg base CX0 1 A.f_Lot___init__ A.d_Lot___init__ ["self", "parts"] (sp_Lot___init__ P w K A.c_End A.c_Lot A.c_Turn) := by
  refine (T.F_Lot___init__.ok (k := 0) sc_Lot___init__ (fun vs H Q E h => ?_) (fun cdv Ar outer s H vs Q E hr h => ?_))
  · obtain ⟨p, dx, x, rfl, _⟩ := h
    rfl
  · obtain ⟨p, dx, x, rfl, hp, q⟩ := h
    have cl := T.cl_Lot
    have n1 := T.na_Lot_parts
    refine ⟨_, (pss_one (ps_fld (pv 0) (pv 1) rfl)), ?_⟩
    try dsimp only [cxOf, Cx.nox, Cx.wish]
    walk_at "go"
    refine go_sfldV hp cl n1 (by show 0 < 1000; decide) ?_
    rw [F_Lot_made]
    exact q _ (fun c o n e => by rw [upd_ne n]; exact e) upd_same
end
end K35

namespace K35
open PySem PySem.Spec PyProof.Rows L2 Gx
section
variable {P : Program} {w : World} {K : PySem.W.Frag} {mg : Str → Option Value} {base : Heap} {A : Ad}
def sp_Turn___init__ (P : Program) (w : World) (K : PySem.W.Frag) (CE CL CT : Addr) : Sp := fun vs H Q _ => ∃ (p dx : Addr) (x y u : V), vs = [.ref p, x, y, u] ∧ H p = some (.ins CT dx []) ∧ ∀ H', But p H H' → H' p = some (.ins CT dx (F_Turn x y u)) → Q .non H'
theorem G_Turn___init__ (T : Txt P K mg A) : FnOk P w K mg base CX0 1 A.f_Turn___init__ A.d_Turn___init__ ["self", "player", "view", "parts"] (sp_Turn___init__ P w K A.c_End A.c_Lot A.c_Turn) := by
  refine (T.F_Turn___init__.ok (k := 0) sc_Turn___init__ (fun vs H Q E h => ?_) (fun cdv Ar outer s H vs Q E hr h => ?_))
  · obtain ⟨p, dx, x, y, u, rfl, _⟩ := h
    rfl
  · obtain ⟨p, dx, x, y, u, rfl, hp, q⟩ := h
    have cl := T.cl_Turn
    have n1 := T.na_Turn_player
    have n2 := T.na_Turn_view
    have n3 := T.na_Turn_parts
    refine ⟨_, (pss_cons (ps_fld (pv 0) (pv 1) rfl)
      (pss_cons (ps_fld (pv 0) (pv 2) rfl)
      (pss_one (ps_fld (pv 0) (pv 3) rfl)))), ?_⟩
    try dsimp only [cxOf, Cx.nox, Cx.wish]
    walk_at "go"
    refine go_sfldV hp cl n1 (by show 0 < 1000; decide) ?_
    walk_at "go"
    refine go_sfldV (by exact upd_same) cl n2 (by show 1 < 1000; decide) ?_
    walk_at "go"
    refine go_sfldV (by exact upd_same) cl n3 (by show 2 < 1000; decide) ?_
    rw [upd_upd]
    rw [upd_upd]
    rw [F_Turn_made]
    exact q _ (fun c o n e => by rw [upd_ne n]; exact e) upd_same
end
end K35

namespace K35
open PySem PySem.Spec PyProof.Rows L2 Gx
section
variable {P : Program} {w : World} {K : PySem.W.Frag} {mg : Str → Option Value} {base : Heap} {A : Ad}
def sp_last_row (K : PySem.W.Frag) : Sp := fun vs H Q _ => ∃ (v : V) (ds : List PyData), vs = [v] ∧ Dp K H v (.tuple ds) ∧ ds.length ≤ 1000 ∧ (∀ d ∈ ds, Item d) ∧ (lastRow ds = none → Q .non H) ∧ (∀ r, lastRow ds = some r → ∀ p H', Same H H' → Dp K H' (.ref p) r → Q (.ref p) H')
theorem G_last_row (T : Txt P K mg A) : FnOk P w K mg base CX0 1 A.f_last_row A.d_last_row ["view"] (sp_last_row K) := by
  refine (T.F_last_row.ok (k := 0) sc_last_row (fun vs H Q E h => ?_) (fun cdv Ar outer s H vs Q E hr h => ?_))
  · obtain ⟨v, ds, rfl, _⟩ := h
    rfl
  · obtain ⟨v, ds, rfl, hv, hl, hI, q0, q1⟩ := h
    obtain ⟨a, xs, rfl, ha, hx⟩ := dp_tup hv
    have hlen := dpAll_len hx
    refine ⟨_, (pss_cons (ps_for PassesOwn.never rfl (pi_range3 rfl T.n_range (pa_cons (pe_op op_sub (pe_callB k_len (by rfl) T.n_len (by decide +kernel) (pa_cons (pv 0) pa_nil)) pe_int) (pa_cons (pe_un un_neg pe_int) (pa_cons (pe_un un_neg pe_int) pa_nil)))) (pg_name (i := 1) sc_last_row.nd rfl (Or.inl rfl))
        (pss_one (ps_if (pt_cmpR op_eq (pe_ix ix_tup (pe_ix ix_tup (pv 0) (pv 1) (fun _ _ => rfl)) pe_int (fun _ _ => rfl)) pe_str (nomark _))
        (pss_one (ps_ret (pe_tup (pa_cons (pe_slice sl_tupA (pv 0) po_none (po_some (pv 1))) (pa_cons (pe_ix ix_tup (pe_ix ix_tup (pv 0) (pv 1) (fun _ _ => rfl)) pe_int (fun _ _ => rfl)) pa_nil)))))
        pss_nil)))
      (pss_one (ps_ret pe_non))), ?_⟩
    try dsimp only [cxOf, Cx.nox, Cx.wish]
    walk_at "go"
    refine go_lenT ha ?_
    walk_at "go"
    rw [hlen]
    refine foRdn (fun i σ' H' => ∃ w, σ' = [some (.ref a), w] ∧ H' = H ∧ ∀ j x, ds.length - i ≤ j → ds[j]? = some x → isDid x = none) (by omega) ⟨_, rfl, rfl, fun j x hj e => ?_⟩ ?_ ?_
    · have := (List.getElem?_eq_some_iff.mp e).1
      omega
    · rintro i σ' H' hi ⟨w, rfl, rfl, hno⟩
      obtain ⟨d, ed⟩ : ∃ d, ds[ds.length - 1 - i]? = some d := ⟨_, List.getElem?_eq_getElem (by omega)⟩
      obtain ⟨n, is, edd, hn, h1⟩ := hI d (List.mem_of_getElem? ed)
      subst edd
      obtain ⟨x, ex, hxd⟩ := dpAll_get hx ed
      obtain ⟨b, ys, rfl, hb, hy⟩ := dp_tup hxd
      cases hy with
      | @cons y1 vs _ _ hy1 hy2 =>
      cases hy1
      walk_at "go"
      refine go_ixT ha (at_nat ex) ?_
      walk_at "go"
      refine go_ixT hb at_0 ?_
      walk_at "go"
      walk_at "br"
      · intro hd
        obtain ⟨m, rfl⟩ := h1 hd
        subst hd
        have hvs : vs = [.int m] := by
          cases hy2 with
          | cons z1 z2 => cases z1; cases z2; rfl
        subst hvs
        walk_at "go"
        refine go_slTo ha (by omega) (fun p H1 s1 e1 => ?_)
        walk_at "go"
        refine go_ixT (same_sqT s1 ha) (at_nat ex) ?_
        walk_at "go"
        refine go_ixT (same_sqT s1 hb) at_1 ?_
        walk_at "go"
        refine ⟨by show 2 ≤ sizeLine; decide, fun l hl => ?_⟩
        have s2 : Same H1 (upd H1 l (.tup [.ref p, .int m])) := fun c o hc => by rw [upd_ne (ne_of_none hc hl)]; exact hc
        refine q1 _ (last_did ed did_is fun j x hj e => hno j x (by omega) e) l _ (s1.trans s2) ?_
        exact .tup (.inl (.inl upd_same)) (.cons (.tup (same_sqT s2 e1) (dpAll_same (s1.trans s2) _ _ (dpAll_take _ hx))) (.cons (.int m) .nil))
      · intro hd
        walk_at "go"
        refine ⟨_, rfl, rfl, fun j x hj e => ?_⟩
        by_cases hj2 : j = ds.length - 1 - i
        · subst hj2
          rw [ed] at e
          cases e
          exact did_not hd
        · exact hno j x (by omega) e
    · rintro σ' H' ⟨w, rfl, rfl, hno⟩
      walk_at "go"
      refine q0 (last_none fun d hd => ?_)
      obtain ⟨j, hj⟩ := List.mem_iff_getElem?.mp hd
      exact hno j d (by omega) hj
end
end K35

namespace K35
open PySem PySem.Spec PyProof.Rows L2 Gx
section
variable {P : Program} {w : World} {K : PySem.W.Frag} {mg : Str → Option Value} {base : Heap} {A : Ad}
def sp__law_cell (K : PySem.W.Frag) : Sp := fun vs H Q _ => ∃ (a : Addr) (ns : List Int) (k : Int), vs = [.ref a, .int k] ∧ SqL K H a (ns.map V.int) ∧ 0 ≤ k ∧ Q (.int (ns.getD k.toNat 0)) H
theorem G__law_cell (T : Txt P K mg A) : FnOk P w K mg base CX0 1 A.f__law_cell A.d__law_cell ["_law_script", "_law_k"] (sp__law_cell K) := by
  refine (T.F__law_cell.ok (k := 0) sc__law_cell (fun vs H Q E h => ?_) (fun cdv Ar outer s H vs Q E hr h => ?_))
  · obtain ⟨a, ns, k, rfl, _⟩ := h
    rfl
  · obtain ⟨a, ns, k, rfl, hs, h0, q⟩ := h
    refine ⟨_, (pss_cons (ps_if (pt_cmpR op_lt (pv 1) (pe_callB k_len (by rfl) T.n_len (by decide +kernel) (pa_cons (pv 0) pa_nil)) (nomark _))
        (pss_one (ps_ret (pe_ix ix_list (pv 0) (pv 1) (fun _ _ => rfl))))
        pss_nil)
      (pss_one (ps_ret pe_int))), ?_⟩
    try dsimp only [cxOf, Cx.nox, Cx.wish]
    walk_at "go"
    refine go_lenL hs ?_
    rw [List.length_map]
    walk_at "go"
    walk_at "br"
    · intro h
      walk_at "go"
      refine go_ixL hs (at_int h0 h) ?_
      walk_at "go"
      exact q
    · intro h
      walk_at "go"
      rw [List.getD_eq_getElem?_getD, List.getElem?_eq_none (by omega)] at q
      exact q
end
end K35

namespace K35
open PySem PySem.Spec PyProof.Rows L2 Gx
section
variable {P : Program} {w : World} {K : PySem.W.Frag} {mg : Str → Option Value} {base : Heap} {A : Ad}
def sp__law_row (K : PySem.W.Frag) : Sp := fun vs H Q _ => ∃ (c n m : Int), vs = [.int c, .int n, .int m] ∧ 0 ≤ n ∧ n ≤ 1000 ∧ 0 < m ∧ m ≤ 1000 ∧ ∀ (l : Addr) (ds : List Int) H', Same H H' → H l = none → H' l = some (.lst (ds.map V.int)) → ds.length = n.toNat → (∀ d ∈ ds, 0 ≤ d ∧ d < m) → Q (.ref l) H'
theorem G__law_row (T : Txt P K mg A) : FnOk P w K mg base CX0 1 A.f__law_row A.d__law_row ["_law_cell_here", "_law_count", "_law_size"] (sp__law_row K) := by
  refine (T.F__law_row.ok (k := 0) sc__law_row (fun vs H Q E h => ?_) (fun cdv Ar outer s H vs Q E hr h => ?_))
  · obtain ⟨c, n, m, rfl, _⟩ := h
    rfl
  · obtain ⟨c, n, m, rfl, n0, n1, m0, m1, q⟩ := h
    refine ⟨_, (pss_cons (ps_set (i := 3) sc__law_row.nd rfl (Or.inl rfl) (pv 0))
      (pss_cons (ps_set (i := 4) sc__law_row.nd rfl (Or.inl rfl) (pe_lst pa_nil))
      (pss_cons (ps_for PassesOwn.never rfl (pi_range1 rfl T.n_range (pa_cons (pv 1) pa_nil)) (pg_name (i := 5) sc__law_row.nd rfl (Or.inl rfl))
        (pss_one (ps_if (pt_cmpR op_ge (pv 0) (pe_op op_pow pe_int pe_int) (nomark _))
        (pss_cons (ps_expr (pe_bm PySem.F.plainAttrs_list PySem.F.slot_list_append PySem.F.type_list_append mt_append (pv 4) (pa_cons (pe_op op_mod (pe_callTy k_int1 (by rfl) T.n_int (by decide +kernel) (pa_cons (pv 3) pa_nil)) (pv 2)) pa_nil)))
      (pss_one (ps_set (i := 3) sc__law_row.nd rfl (Or.inl rfl) (pe_op op_fdiv (pv 3) (pv 2)))))
        (pss_cons (ps_set (i := 3) sc__law_row.nd rfl (Or.inl rfl) (pe_op op_mod (pe_callTy k_int1 (by rfl) T.n_int (by decide +kernel) (pa_cons (pe_op op_add (pe_op op_mul (pv 3) pe_int) pe_int) pa_nil)) pe_int))
      (pss_one (ps_expr (pe_bm PySem.F.plainAttrs_list PySem.F.slot_list_append PySem.F.type_list_append mt_append (pv 4) (pa_cons (pe_op op_mod (pe_op op_mod (pe_callTy k_int1 (by rfl) T.n_int (by decide +kernel) (pa_cons (pe_op op_add (pe_op op_mul (pv 3) pe_int) (pe_op op_mul (pv 5) pe_int)) pa_nil)) pe_int) (pv 2)) pa_nil))))))))
      (pss_one (ps_ret (pv 4)))))), ?_⟩
    try dsimp only [cxOf, Cx.nox, Cx.wish]
    walk_at "go"
    refine ⟨by show 0 ≤ sizeLine; decide, fun l nl => ?_⟩
    walk_at "go"
    refine foR1 (fun i σ' H' => ∃ (v3 : Int) (v5 : Option V) (ds : List Int), σ' = [some (.int c), some (.int n), some (.int m), some (.int v3), some (.ref l), v5] ∧ Same H H' ∧ H' l = some (.lst (ds.map V.int)) ∧ ds.length = i ∧ ∀ d ∈ ds, 0 ≤ d ∧ d < m) (by omega) ⟨_, _, [], rfl, same_new nl, upd_same, rfl, fun _ h => nomatch h⟩ ?_ ?_
    · rintro i σ' H' hi ⟨v3, v5, ds, rfl, s, el, hl, hd⟩
      have add : ∀ x : Int, ∀ d ∈ ds ++ [x % m], 0 ≤ d ∧ d < m := fun x d h => by
        rcases List.mem_append.mp h with h | h
        · exact hd d h
        · rw [List.mem_singleton.mp h]
          exact ⟨Int.emod_nonneg _ (by omega), Int.emod_lt_of_pos _ m0⟩
      walk_at "go"
      walk_at "br"
      · intro _
        walk_at "go"
        refine ⟨.inl ⟨rfl, _, .inl (.inl el)⟩, ?_⟩
        walk_at "go"
        refine go_append el (szlt (by rw [List.length_map]; omega)) ?_
        walk_at "go"
        exact ⟨_, _, ds ++ [_], rfl, same_mut s nl, by rw [upd_same, List.map_append]; rfl, by rw [List.length_append, List.length_singleton, hl], add _⟩
      · intro _
        walk_at "go"
        refine ⟨.inl ⟨rfl, _, .inl (.inl el)⟩, ?_⟩
        walk_at "go"
        refine go_append el (szlt (by rw [List.length_map]; omega)) ?_
        walk_at "go"
        exact ⟨_, _, ds ++ [_], rfl, same_mut s nl, by rw [upd_same, List.map_append]; rfl, by rw [List.length_append, List.length_singleton, hl], add _⟩
    · rintro σ' H' ⟨v3, v5, ds, rfl, s, el, hl, hd⟩
      walk_at "go"
      exact q l ds _ s nl el hl hd
end
end K35

namespace K35
open PySem PySem.Spec PyProof.Rows L2 Gx
section
variable {P : Program} {w : World} {K : PySem.W.Frag} {mg : Str → Option Value} {base : Heap} {A : Ad}
def sp__law_paths (K : PySem.W.Frag) : Sp := fun vs H Q _ => ∃ (l : Addr) (st : List Stg), vs = [.ref l] ∧ StAt H l st ∧ ∀ (r : Addr) H', Same H H' → PsAt H H' r (pathsD st) → Q (.ref r) H'
theorem G__law_paths (T : Txt P K mg A) : FnOk P w K mg base CX0 1 A.f__law_paths A.d__law_paths ["_law_stages_here"] (sp__law_paths K) := by
  refine (T.F__law_paths.ok (k := 0) sc__law_paths (fun vs H Q E h => ?_) (fun cdv Ar outer s H vs Q E hr h => ?_))
  · obtain ⟨l, st, rfl, _⟩ := h
    rfl
  · obtain ⟨l, st, rfl, hst, q⟩ := h
    obtain ⟨sx, esx, hsl, hsf⟩ := hst.ex
    have h4 := hst.le
    refine ⟨_, (pss_cons (ps_set (i := 1) sc__law_paths.nd rfl (Or.inl rfl) (pe_lst (pa_cons (pe_lst pa_nil) pa_nil)))
      (pss_cons (ps_for PassesOwn.never rfl (pi_list (pv 0)) (pg_name (i := 2) sc__law_paths.nd rfl (Or.inl rfl))
        (pss_cons (ps_set (i := 3) sc__law_paths.nd rfl (Or.inl rfl) (pe_lst pa_nil))
      (pss_cons (ps_for PassesOwn.never rfl (pi_list (pv 1)) (pg_name (i := 4) sc__law_paths.nd rfl (Or.inl rfl))
        (pss_one (ps_for PassesOwn.never rfl (pi_range1 rfl T.n_range (pa_cons (pe_ix ix_tup (pv 2) pe_int (fun _ _ => rfl)) pa_nil)) (pg_name (i := 5) sc__law_paths.nd rfl (Or.inl rfl))
        (pss_one (ps_expr (pe_bm PySem.F.plainAttrs_list PySem.F.slot_list_append PySem.F.type_list_append mt_append (pv 3) (pa_cons (pe_op op_cat (pv 4) (pe_lst (pa_cons (pv 5) pa_nil))) pa_nil)))))))
      (pss_one (ps_set (i := 1) sc__law_paths.nd rfl (Or.inl rfl) (pv 3))))))
      (pss_one (ps_ret (pv 1))))), ?_⟩
    try dsimp only [cxOf, Cx.nox, Cx.wish]
    walk_at "go"
    refine ⟨by show 0 ≤ sizeLine; decide, fun t1 n1 => ?_⟩
    walk_at "go"
    refine ⟨by show 1 ≤ sizeLine; decide, fun t2 n2 => ?_⟩
    have s0 := (same_new (o := .lst []) n1).trans (same_new (o := .lst [.ref t1]) n2)
    have d0 : PsAt H (upd (upd H t1 (.lst [])) t2 (.lst [.ref t1])) t2 (pStep st 0) := ⟨(same_new (o := .lst []) n1).free n2, [.ref t1], upd_same, rfl, fun k p hk => by
      have h0 := (List.getElem?_eq_some_iff.mp hk).1
      obtain rfl : k = 0 := by simpa [pStep] using h0
      cases hk
      exact ⟨t1, rfl, n1, by rw [upd_ne (ne_of_none upd_same n2)]; exact upd_same⟩⟩
    generalize upd (upd H t1 (.lst [])) t2 (.lst [.ref t1]) = H0 at *
    walk_at "go"
    refine foL sx (fun i σ' H' => ∃ (r : Addr) (v2 v3 v4 v5 : Option V), σ' = [some (.ref l), some (.ref r), v2, v3, v4, v5] ∧ Same H H' ∧ PsAt H H' r (pStep st i)) ⟨_, _, _, _, _, rfl, s0, d0⟩ ?_ ?_ ?_
    · rintro i σ' H' _ ⟨r, v2, v3, v4, v5, rfl, s, _⟩
      exact .of (s _ _ esx)
    · rintro i x σ' H1 hx ⟨r, v2, v3, v4, v5, rfl, s1, hps⟩
      have hi := (List.getElem?_eq_some_iff.mp hx).1
      obtain ⟨s, es⟩ : ∃ s, st[i]? = some s := ⟨_, List.getElem?_eq_getElem (by omega)⟩
      obtain ⟨t, et1, et⟩ := hsf i s es
      rw [hx] at et1
      cases et1
      have hsn := hst.ok s (List.mem_of_getElem? es)
      obtain ⟨px, epx, hpl, hpf⟩ := hps.ex
      have plen : ((pStep st i).length : Int) ≤ 81 := Int.le_trans (pStep_len (fun s hs => (hst.ok s hs).2.2.2.1) i) (p3_le (by omega))
      walk_at "go"
      refine ⟨by show 0 ≤ sizeLine; decide, fun L nL => ?_⟩
      walk_at "go"
      refine foL px (fun j σ' H' => ∃ (v4 v5 : Option V) (ys : List V), σ' = [some (.ref l), some (.ref r), some (.ref t), some (.ref L), v4, v5] ∧ Same H1 H' ∧ H' L = some (.lst ys) ∧ LsAt H H' L ys (((pStep st i).take j).flatMap fun p => (List.range s.n.toNat).map fun (j : Nat) => p ++ [(j : Int)])) ⟨_, _, [], rfl, same_new nL, upd_same, .nil⟩ ?_ ?_ ?_
      · rintro j σ' H' _ ⟨v4, v5, ys, rfl, s2, _⟩
        exact .of (s2 _ _ epx)
      · rintro j x σ' H2 hx2 ⟨v4, v5, ys, rfl, s2, eL, hL⟩
        have hj := (List.getElem?_eq_some_iff.mp hx2).1
        obtain ⟨p, ep⟩ : ∃ p, (pStep st i)[j]? = some p := ⟨_, List.getElem?_eq_getElem (by omega)⟩
        obtain ⟨qa, eq1, _, eq2⟩ := hpf j p ep
        rw [hx2] at eq1
        cases eq1
        have et2 : H2 t = some (.tup [.int s.w, .int s.n, .int s.s]) := s2 _ _ (s1 _ _ et)
        have tk : (((pStep st i).take (j + 1)).flatMap fun p => (List.range s.n.toNat).map fun (j : Nat) => p ++ [(j : Int)]) = (((pStep st i).take j).flatMap fun p => (List.range s.n.toNat).map fun (j : Nat) => p ++ [(j : Int)]) ++ (List.range s.n.toNat).map fun (j : Nat) => p ++ [(j : Int)] := by
          rw [List.take_add_one, ep, List.flatMap_append]
          simp
        have bl := flat_len hsn.2.2.2.1 ((pStep st i).take j)
        rw [List.length_take] at bl
        generalize (((pStep st i).take j).flatMap fun p => (List.range s.n.toNat).map fun (j : Nat) => p ++ [(j : Int)]) = base at *
        walk_at "go"
        refine foR1 (fun k σ' H' => ∃ (v5 : Option V) (ys : List V), σ' = [some (.ref l), some (.ref r), some (.ref t), some (.ref L), some (.ref qa), v5] ∧ Same H1 H' ∧ H' L = some (.lst ys) ∧ LsAt H H' L ys (base ++ (List.range k).map fun (j : Nat) => p ++ [(j : Int)])) (by omega) ⟨_, ys, rfl, s2, eL, by rw [List.range_zero, List.map_nil, List.append_nil]; exact hL⟩ ?_ ?_
        · rintro k σ' H3 hk ⟨v5, ys, rfl, s3, eL3, hL3⟩
          walk_at "go"
          refine ⟨.inl ⟨rfl, _, .inl (.inl eL3)⟩, ?_⟩
          walk_at "go"
          refine ⟨by show 1 ≤ sizeLine; decide, fun o no => ?_⟩
          have x1 := same_new (o := .lst [.int (k : Nat)]) no
          have y1 : upd H3 o (.lst [.int (k : Nat)]) o = some (.lst [.int (k : Nat)]) := upd_same
          generalize upd H3 o (.lst [.int (k : Nat)]) = G1 at *
          have plen2 := pStep_mem (by omega) p (List.mem_of_getElem? ep)
          refine go_cat (x1 _ _ (s3 _ _ eq2)) y1 (sz (by simp; omega)) fun nw nn => ?_
          have x2 := same_new (o := .lst (p.map V.int ++ [.int (k : Nat)])) nn
          have y2 : upd G1 nw (.lst (p.map V.int ++ [.int (k : Nat)])) nw = some (.lst (p.map V.int ++ [.int (k : Nat)])) := upd_same
          generalize upd G1 nw (.lst (p.map V.int ++ [.int (k : Nat)])) = G2 at *
          have eL4 := x2 _ _ (x1 _ _ eL3)
          have nwL : nw ≠ L := fun z => by rw [z, x1 _ _ eL3] at nn; cases nn
          walk_at "go"
          refine go_append eL4 (szlt (by rw [hL3.n, List.length_append, List.length_map, List.length_range]; omega)) ?_
          walk_at "go"
          refine ⟨_, ys ++ [.ref nw], rfl, same_mut (s3.trans (x1.trans x2)) nL, upd_same, ?_⟩
          rw [List.range_succ, List.map_append, ← List.append_assoc]
          exact ((hL3.same (x1.trans x2)).snoc nwL ((s1.trans (s3.trans x1)).free nn) (by rw [y2, List.map_append]; rfl)).put
        · rintro σ' H3 ⟨v5, ys, rfl, s3, eL3, hL3⟩
          refine ⟨_, _, ys, rfl, s3, eL3, ?_⟩
          rw [tk]
          exact hL3
      · rintro σ' H2 ⟨v4, v5, ys, rfl, s2, eL, hL⟩
        rw [hpl, List.take_length, ← pStep_at es] at hL
        walk_at "go"
        exact ⟨_, _, _, _, _, rfl, s1.trans s2, ⟨s1.free nL, ys, eL, hL.n, fun k p hp => let ⟨q, a, _, d, c⟩ := hL.f k p hp; ⟨q, a, d, c⟩⟩⟩
    · rintro σ' H1 ⟨r, v2, v3, v4, v5, rfl, s1, hps⟩
      rw [hsl] at hps
      walk_at "go"
      exact q r _ s1 hps
end
end K35

namespace K35
open PySem PySem.Spec PyProof.Rows L2 Gx
section
variable {P : Program} {w : World} {K : PySem.W.Frag} {mg : Str → Option Value} {base : Heap} {A : Ad}
def sp__law_view (K : PySem.W.Frag) : Sp := fun vs H Q _ => ∃ (l p : Addr) (st : List Stg) (path : List Int) (pl : Int), vs = [.ref l, .ref p, .int pl] ∧ StAt H l st ∧ H p = some (.lst (path.map V.int)) ∧ path.length ≤ st.length ∧ ∀ (v : Addr) H', Same H H' → Dp K H' (.ref v) (.tuple (viewD st path pl)) → Q (.ref v) H'
theorem G__law_view (T : Txt P K mg A) : FnOk P w K mg base CX0 1 A.f__law_view A.d__law_view ["_law_stages_here", "_law_path", "_law_player"] (sp__law_view K) := by
  refine (T.F__law_view.ok (k := 0) sc__law_view (fun vs H Q E h => ?_) (fun cdv Ar outer s H vs Q E hr h => ?_))
  · obtain ⟨l, p, st, path, pl, rfl, _⟩ := h
    rfl
  · obtain ⟨l, p, st, path, pl, rfl, hst, hp, hle, q⟩ := h
    refine ⟨_, (pss_cons (ps_set (i := 3) sc__law_view.nd rfl (Or.inl rfl) (pe_tup (pa_cons (pe_tup (pa_cons pe_str (pa_cons pe_int pa_nil))) pa_nil)))
      (pss_cons (ps_set (i := 4) sc__law_view.nd rfl (Or.inl rfl) pe_int)
      (pss_cons (ps_for PassesOwn.never rfl (pi_range1 rfl T.n_range (pa_cons (pe_callB k_len (by rfl) T.n_len (by decide +kernel) (pa_cons (pv 1) pa_nil)) pa_nil)) (pg_name (i := 5) sc__law_view.nd rfl (Or.inl rfl))
        (pss_cons (ps_set (i := 6) sc__law_view.nd rfl (Or.inl rfl) (pe_ix ix_list (pv 0) (pv 5) (fun _ _ => rfl)))
      (Evl.pss_cut (ps_if (pt_cmpR op_eq (pe_ix ix_tup (pv 6) pe_int (fun _ _ => rfl)) (pv 2) (nomark _))
        (pss_one (ps_set (i := 3) sc__law_view.nd rfl (Or.inl rfl) (pe_op op_catA (pv 3) (pe_tup (pa_cons (pe_tup (pa_cons pe_str (pa_cons (pv 4) (pa_cons (pe_ix ix_tup (pv 6) pe_int (fun _ _ => rfl)) pa_nil)))) (pa_cons (pe_tup (pa_cons pe_str (pa_cons (pe_ix ix_list (pv 1) (pv 5) (fun _ _ => rfl)) pa_nil))) pa_nil))))))
        pss_nil)
      (Evl.pss_cut (ps_if (pt_cmpR op_ne (pe_ix ix_tup (pv 6) pe_int (fun _ _ => rfl)) pe_int (nomark _))
        (pss_one (ps_set (i := 4) sc__law_view.nd rfl (Or.inl rfl) (pe_op op_add (pv 4) pe_int)))
        pss_nil)
      (pss_one (ps_if (PW.pt (pw_or (pt_cmpR op_eq (pe_ix ix_tup (pv 6) pe_int (fun _ _ => rfl)) (pv 2) (nomark _)) (pw_or1 (pt_cmpR op_eq (pe_ix ix_tup (pv 6) pe_int (fun _ _ => rfl)) pe_int (nomark _)))))
        (pss_one (ps_set (i := 3) sc__law_view.nd rfl (Or.inl rfl) (pe_op op_catA (pv 3) (pe_tup (pa_cons (pe_tup (pa_cons pe_str (pa_cons (pe_ix ix_list (pv 1) (pv 5) (fun _ _ => rfl)) pa_nil))) pa_nil)))))
        pss_nil))))))
      (pss_one (ps_ret (pv 3)))))), ?_⟩
    try dsimp only [cxOf, Cx.nox, Cx.wish]
    walk_at "go"
    refine ⟨by show 2 ≤ sizeLine; decide, fun t1 n1 => ?_⟩
    walk_at "go"
    refine ⟨by show 1 ≤ sizeLine; decide, fun t2 n2 => ?_⟩
    have s0 := (same_new (o := .tup [.str "round", .int 0]) n1).trans (same_new (o := .tup [.ref t1]) n2)
    have d0 : Dp K (upd (upd H t1 (.tup [.str "round", .int 0])) t2 (.tup [.ref t1])) (.ref t2) (.tuple (vStep st path pl 0)) := .tup (.of upd_same) (.cons (.tup (.of (by rw [upd_ne (ne_of_none upd_same n2)]; exact upd_same)) (.cons (.str _) (.cons (.int _) .nil))) .nil)
    generalize upd (upd H t1 (.tup [.str "round", .int 0])) t2 (.tup [.ref t1]) = H0 at *
    walk_at "go"
    refine go_lenL (.of (s0 _ _ hp)) ?_
    rw [List.length_map]
    walk_at "go"
    have h4 := hst.le
    refine foR1 (fun i σ' H' => ∃ (v : Addr) (v5 v6 : Option V), σ' = [some (.ref l), some (.ref p), some (.int pl), some (.ref v), some (.int (nStep st i)), v5, v6] ∧ Same H H' ∧ Dp K H' (.ref v) (.tuple (vStep st path pl i))) (by omega) ⟨_, _, _, rfl, s0, d0⟩ ?_ ?_
    · rintro i σ' H1 hi ⟨v, v5, v6, rfl, s1, dv⟩
      have hi2 : i < path.length := by omega
      obtain ⟨s, es⟩ : ∃ s, st[i]? = some s := ⟨_, List.getElem?_eq_getElem (by omega)⟩
      obtain ⟨x, ex⟩ : ∃ x, path[i]? = some x := ⟨_, List.getElem?_eq_getElem hi2⟩
      obtain ⟨xs, t, el, hxl, it, et⟩ := (hst.same s1).get es
      have ip : atI (path.map V.int) (i : Int) = some (.int x) := atI_nat (by rw [List.getElem?_map, ex]; rfl)
      have hvl := vStep_len st path pl i
      have eN : nStep st (i + 1) = if s.w = 0 then nStep st i else nStep st i + 1 := by
        show (match st[i]? with | some s => _ | none => _) = _
        rw [es]
      have eV : vStep st path pl (i + 1) = (vStep st path pl i ++ (if s.w = pl then [dMove (nStep st i) s.n, dDid x] else [])) ++ (if s.s = pl ∨ s.s = 3 then [dTold x] else []) := by
        show (match st[i]?, path[i]? with | some s, some x => _ | _, _ => _) = _
        rw [es, ex]
      generalize nStep st i = num at *
      generalize vStep st path pl i = vd at *
      walk_at "go"
      refine go_ixL (.of el) it ?_
      walk_at "go"
      refine go_cut (fun σ' H' => ∃ v : Addr, σ' = [some (.ref l), some (.ref p), some (.int pl), some (.ref v), some (.int num), some (.int (i : Nat)), some (.ref t)] ∧ Same H1 H' ∧ Dp K H' (.ref v) (.tuple (vd ++ if s.w = pl then [dMove num s.n, dDid x] else []))) ?_ ?_
      · walk_at "go"
        walk_at "br"
        · intro hw
          walk_at "go"
          refine ⟨by show 3 ≤ sizeLine; decide, fun a1 m1 => ?_⟩
          have x1 := same_new (o := .tup [.str "move", .int num, .int s.n]) m1
          have y1 : upd H1 a1 (.tup [.str "move", .int num, .int s.n]) a1 = some (.tup [.str "move", .int num, .int s.n]) := upd_same
          generalize upd H1 a1 (.tup [.str "move", .int num, .int s.n]) = G1 at *
          walk_at "go"
          refine go_ixL (.of (x1 _ _ (s1 _ _ hp))) ip ?_
          walk_at "go"
          refine ⟨by show 2 ≤ sizeLine; decide, fun a2 m2 => ?_⟩
          have x2 := same_new (o := .tup [.str "did", .int x]) m2
          have y2 : upd G1 a2 (.tup [.str "did", .int x]) a2 = some (.tup [.str "did", .int x]) := upd_same
          generalize upd G1 a2 (.tup [.str "did", .int x]) = G2 at *
          walk_at "go"
          refine ⟨by show 2 ≤ sizeLine; decide, fun a3 m3 => ?_⟩
          have x3 := same_new (o := .tup [.ref a1, .ref a2]) m3
          have y3 : upd G2 a3 (.tup [.ref a1, .ref a2]) a3 = some (.tup [.ref a1, .ref a2]) := upd_same
          generalize upd G2 a3 (.tup [.ref a1, .ref a2]) = G3 at *
          obtain ⟨b, ys, e, h1, h2⟩ := dp_tup (dp_same (x1.trans (x2.trans x3)) _ _ dv)
          cases e
          have hlen := dpAll_len h2
          refine go_catA h1 (.of y3) (by simp; omega) (by simp) fun p3 G4 s4 e4 => ?_
          walk_at "go"
          rw [if_pos hw]
          refine ⟨_, rfl, x1.trans (x2.trans (x3.trans s4)), .tup e4 (dpAll_append (dpAll_same s4 _ _ h2) (.cons (.tup (.of (s4 _ _ (x3 _ _ (x2 _ _ y1)))) (.cons (.str _) (.cons (.int _) (.cons (.int _) .nil)))) (.cons (.tup (.of (s4 _ _ (x3 _ _ y2))) (.cons (.str _) (.cons (.int _) .nil))) .nil)))⟩
        · intro hw
          walk_at "go"
          rw [if_neg hw, List.append_nil]
          exact ⟨_, rfl, Same.refl _, dv⟩
      rintro σ' H2 ⟨v', rfl, s2, dv2⟩
      generalize hvd : (vd ++ if s.w = pl then [dMove num s.n, dDid x] else []) = vd2 at *
      have hvl2 : vd2.length ≤ 1 + 3 * i + 2 := by rw [← hvd, List.length_append]; split <;> simp <;> omega
      have et2 := s2 _ _ et
      refine go_cut (fun σ' H' => σ' = [some (.ref l), some (.ref p), some (.int pl), some (.ref v'), some (.int (if s.w = 0 then num else num + 1)), some (.int (i : Nat)), some (.ref t)] ∧ H' = H2) ?_ ?_
      · walk_at "go"
        by_cases hw : s.w = 0
        · rw [decide_eq_true hw]
          walk_at "go"
          rw [if_pos hw]
          exact ⟨rfl, rfl⟩
        · rw [decide_eq_false hw]
          walk_at "go"
          rw [if_neg hw]
          exact ⟨rfl, rfl⟩
      rintro σ' H' ⟨rfl, rfl⟩
      rw [eN, eV]
      by_cases c1 : s.s = pl
      · rw [if_pos (Or.inl c1)]
        walk_at "go"
        rw [decide_eq_true c1]
        walk_at "go"
        refine go_ixL (.of (s2 _ _ (s1 _ _ hp))) ip ?_
        walk_at "go"
        refine ⟨by show 2 ≤ sizeLine; decide, fun a1 m1 => ?_⟩
        walk_at "go"
        refine ⟨by show 1 ≤ sizeLine; decide, fun a2 m2 => ?_⟩
        refine add_dp dv2 m1 m2 (fun _ => .cons (.str _) (.cons (.int _) .nil)) (by omega) fun p3 H3 s3 d3 => ?_
        walk_at "go"
        exact ⟨_, _, _, rfl, s1.trans (s2.trans s3), d3⟩
      · walk_at "go"
        rw [decide_eq_false c1]
        walk_at "go"
        by_cases c2 : s.s = 3
        · rw [if_pos (Or.inr c2), decide_eq_true c2]
          walk_at "go"
          refine go_ixL (.of (s2 _ _ (s1 _ _ hp))) ip ?_
          walk_at "go"
          refine ⟨by show 2 ≤ sizeLine; decide, fun a1 m1 => ?_⟩
          walk_at "go"
          refine ⟨by show 1 ≤ sizeLine; decide, fun a2 m2 => ?_⟩
          refine add_dp dv2 m1 m2 (fun _ => .cons (.str _) (.cons (.int _) .nil)) (by omega) fun p3 H3 s3 d3 => ?_
          walk_at "go"
          exact ⟨_, _, _, rfl, s1.trans (s2.trans s3), d3⟩
        · rw [if_neg (show ¬ (s.s = pl ∨ s.s = 3) from fun h => h.elim c1 c2), List.append_nil, decide_eq_false c2]
          walk_at "go"
          exact ⟨_, _, _, rfl, s1.trans s2, dv2⟩
    · rintro σ' H1 ⟨v, v5, v6, rfl, s1, dv⟩
      walk_at "go"
      exact q v _ s1 dv
end
end K35

namespace K35
open PySem PySem.Spec PyProof.Rows L2 Gx
section
variable {P : Program} {w : World} {K : PySem.W.Frag} {mg : Str → Option Value} {base : Heap} {A : Ad}
def sp__law_last (K : PySem.W.Frag) : Sp := fun vs H Q _ => ∃ (v : V) (ds : List PyData), vs = [v] ∧ Dp K H v (.tuple ds) ∧ ds.length ≤ 1000 ∧ (∀ d ∈ ds, Item d) ∧ ∀ x H', Same H H' → Dp K H' x (dO (lastRow ds)) → Q x H'
theorem G__law_last (T : Txt P K mg A) : FnOk P w K mg base CX0 1 A.f__law_last A.d__law_last ["_law_view_here"] (sp__law_last K) := by
  refine (T.F__law_last.ok (k := 0) sc__law_last (fun vs H Q E h => ?_) (fun cdv Ar outer s H vs Q E hr h => ?_))
  · obtain ⟨v, ds, rfl, _⟩ := h
    rfl
  · obtain ⟨v, ds, rfl, hv, hl, hI, q⟩ := h
    obtain ⟨a, xs, rfl, ha, hx⟩ := dp_tup hv
    have hlen := dpAll_len hx
    refine ⟨_, (pss_cons (ps_for PassesOwn.never rfl (pi_range1 rfl T.n_range (pa_cons (pe_callB k_len (by rfl) T.n_len (by decide +kernel) (pa_cons (pv 0) pa_nil)) pa_nil)) (pg_name (i := 1) sc__law_last.nd rfl (Or.inl rfl))
        (pss_cons (ps_set (i := 2) sc__law_last.nd rfl (Or.inl rfl) (pe_op op_sub (pe_op op_sub (pe_callB k_len (by rfl) T.n_len (by decide +kernel) (pa_cons (pv 0) pa_nil)) pe_int) (pv 1)))
      (pss_one (ps_if (pt_cmpR op_eq (pe_ix ix_tup (pe_ix ix_tup (pv 0) (pv 2) (fun _ _ => rfl)) pe_int (fun _ _ => rfl)) pe_str (nomark _))
        (pss_one (ps_ret (pe_tup (pa_cons (pe_slice sl_tupA (pv 0) po_none (po_some (pv 2))) (pa_cons (pe_ix ix_tup (pe_ix ix_tup (pv 0) (pv 2) (fun _ _ => rfl)) pe_int (fun _ _ => rfl)) pa_nil)))))
        pss_nil))))
      (pss_one (ps_ret pe_non))), ?_⟩
    try dsimp only [cxOf, Cx.nox, Cx.wish]
    walk_at "go"
    refine go_lenT ha ?_
    walk_at "go"
    rw [hlen]
    refine foR1 (fun i σ' H' => ∃ (v1 v2 : Option V), σ' = [some (.ref a), v1, v2] ∧ H' = H ∧ ∀ j x, ds.length - i ≤ j → ds[j]? = some x → isDid x = none) (by omega) ⟨_, _, rfl, rfl, fun j x hj e => ?_⟩ ?_ ?_
    · have := (List.getElem?_eq_some_iff.mp e).1
      omega
    · rintro i σ' H' hi ⟨v1, v2, rfl, rfl, hno⟩
      obtain ⟨d, ed⟩ : ∃ d, ds[ds.length - 1 - i]? = some d := ⟨_, List.getElem?_eq_getElem (by omega)⟩
      obtain ⟨n, is, edd, hn, h1⟩ := hI d (List.mem_of_getElem? ed)
      subst edd
      obtain ⟨x, ex, hxd⟩ := dpAll_get hx ed
      obtain ⟨b, ys, rfl, hb, hy⟩ := dp_tup hxd
      cases hy with
      | @cons y1 vs _ _ hy1 hy2 =>
      cases hy1
      walk_at "go"
      refine go_lenT ha ?_
      rw [hlen]
      walk_at "go"
      rw [show (ds.length : Int) - 1 - (i : Int) = ((ds.length - 1 - i : Nat) : Int) by omega]
      walk_at "go"
      refine go_ixT ha (at_nat ex) ?_
      walk_at "go"
      refine go_ixT hb at_0 ?_
      walk_at "go"
      walk_at "br"
      · intro hd
        obtain ⟨m, rfl⟩ := h1 hd
        subst hd
        have hvs : vs = [.int m] := by
          cases hy2 with
          | cons z1 z2 => cases z1; cases z2; rfl
        subst hvs
        walk_at "go"
        refine go_slTo ha (by omega) (fun p H1 s1 e1 => ?_)
        walk_at "go"
        refine go_ixT (same_sqT s1 ha) (at_nat ex) ?_
        walk_at "go"
        refine go_ixT (same_sqT s1 hb) at_1 ?_
        walk_at "go"
        refine ⟨by show 2 ≤ sizeLine; decide, fun l hl => ?_⟩
        have s2 : Same H1 (upd H1 l (.tup [.ref p, .int m])) := fun c o hc => by rw [upd_ne (ne_of_none hc hl)]; exact hc
        refine q _ _ (s1.trans s2) ?_
        rw [last_did ed did_is fun j x hj e => hno j x (by omega) e]
        exact .tup (.inl (.inl upd_same)) (.cons (.tup (same_sqT s2 e1) (dpAll_same (s1.trans s2) _ _ (dpAll_take _ hx))) (.cons (.int m) .nil))
      · intro hd
        walk_at "go"
        refine ⟨_, _, rfl, rfl, fun j x hj e => ?_⟩
        by_cases hj2 : j = ds.length - 1 - i
        · subst hj2
          rw [ed] at e
          cases e
          exact did_not hd
        · exact hno j x (by omega) e
    · rintro σ' H' ⟨v1, v2, rfl, rfl, hno⟩
      walk_at "go"
      refine q .non H' (Same.refl _) ?_
      rw [last_none fun d hd => ?_]
      · exact .non
      · obtain ⟨j, hj⟩ := List.mem_iff_getElem?.mp hd
        exact hno j d (by omega) hj
end
end K35

namespace K35
open PySem PySem.Spec PyProof.Rows L2 Gx
section
variable {P : Program} {w : World} {K : PySem.W.Frag} {mg : Str → Option Value} {base : Heap} {A : Ad}
def sp__law_spoilt (K : PySem.W.Frag) : Sp := fun vs H Q _ => ∃ (v : V) (c : Int) (vd : List PyData), vs = [v, .int c] ∧ Dp K H v (.tuple vd) ∧ (∀ d ∈ vd, Item d ∧ Itm d) ∧ vd.length ≤ 900 ∧ ∀ x vd' H', Same H H' → Dp K H' x (.tuple vd') → (∀ d ∈ vd', Item d ∧ Itm d) → vd'.length ≤ 1000 → Q x H'
theorem G__law_spoilt (T : Txt P K mg A) : FnOk P w K mg base CX0 1 A.f__law_spoilt A.d__law_spoilt ["_law_view_here", "_law_cell_here"] (sp__law_spoilt K) := by
  refine (T.F__law_spoilt.ok (k := 0) sc__law_spoilt (fun vs H Q E h => ?_) (fun cdv Ar outer s H vs Q E hr h => ?_))
  · obtain ⟨v, c, vd, rfl, _⟩ := h
    rfl
  · obtain ⟨v, c, vd, rfl, hv, hI, hl, q⟩ := h
    obtain ⟨a, xs, rfl, ha, hx⟩ := dp_tup hv
    have hlen := dpAll_len hx
    refine ⟨_, (pss_cons (ps_setLc (i := 2) (own := [("_law_k", 3)]) (g := gName 3) (tt := _) rfl sc__law_spoilt.nd rfl rfl (sw_true rfl rfl rfl (by decide +kernel)) (pi_range1 rfl T.n_range (pa_cons (pe_callB k_len (by rfl) T.n_len (by decide +kernel) (pa_cons (pv 0) pa_nil)) pa_nil)) (blkOk_by (N := ["_law_view_here", "_law_cell_here", "_law_at", "_law_k"]) (sc := defScope s__law_spoilt) (by decide +kernel)) (fun _ _ _ _ _ => (pg_name (i := 3) sc__law_spoilt.nd rfl (Or.inl rfl))) (fun _ _ _ _ _ => by exact (pts_one (pt_cmpR op_eq (pe_ix (ix_tupK (K := K) rfl) (pe_ix (ix_tupK (K := K) rfl) (pv 0) (pv 3) (fun _ _ => rfl)) pe_int (fun _ _ => rfl)) pe_str (nomark _)))) (fun _ _ _ _ _ => by exact (pv 3)))
      (pss_cons (ps_if (pt_cmpR op_eq (pe_callB k_len (by rfl) T.n_len (by decide +kernel) (pa_cons (pv 2) pa_nil)) pe_int (nomark _))
        (pss_one (ps_ret (pe_op op_catA (pe_tup (pa_cons (pe_tup (pa_cons pe_str (pa_cons (pe_op op_mod (pe_callTy k_int1 (by rfl) T.n_int (by decide +kernel) (pa_cons (pv 1) pa_nil)) pe_int) pa_nil))) pa_nil)) (pv 0))))
        pss_nil)
      (pss_cons (ps_set (i := 3) sc__law_spoilt.nd rfl (Or.inl rfl) (pe_ix ix_list (pv 2) (pe_op op_mod (pe_callTy k_int1 (by rfl) T.n_int (by decide +kernel) (pa_cons (pv 1) pa_nil)) (pe_callB k_len (by rfl) T.n_len (by decide +kernel) (pa_cons (pv 2) pa_nil))) (fun _ _ => rfl)))
      (pss_one (ps_ret (pe_op op_catA (pe_op op_catA (pe_slice sl_tupA (pv 0) po_none (po_some (pv 3))) (pe_tup (pa_cons (pe_tup (pa_cons pe_str (pa_cons (pe_op op_add (pe_op op_add (pe_ix ix_tup (pe_ix ix_tup (pv 0) (pv 3) (fun _ _ => rfl)) pe_int (fun _ _ => rfl)) pe_int) (pe_op op_mod (pe_op op_fdiv (pv 1) pe_int) pe_int)) pa_nil))) pa_nil))) (pe_slice sl_tupA (pv 0) (po_some (pe_op op_add (pv 3) pe_int)) po_none))))))), ?_⟩
    try dsimp only [cxOf, Cx.nox, Cx.wish]
    walk_at "go"
    refine go_lenT ha ?_
    rw [hlen]
    walk_at "go"
    refine ⟨_, rfl, by omega, by omega, fun D hD => ?_⟩
    rw [Int.toNat_natCast]
    have sD := same_new (o := .lst []) hD
    refine walkR (fun j H' => ∃ at_ : List Nat, Same H H' ∧ H' D = some (.lst (at_.map fun (k : Nat) => V.int (k : Int))) ∧ at_.length ≤ j ∧ ∀ k ∈ at_, ∃ m, vd[k]? = some (.tuple [.str "did", .int m])) ⟨[], sD, upd_same, Nat.le_refl _, fun k h => nomatch h⟩ ?_ ?_
    · rintro j H1 hj ⟨at_, s1, eD, hal, hat⟩
      obtain ⟨d, ed⟩ : ∃ d, vd[j]? = some d := ⟨_, List.getElem?_eq_getElem hj⟩
      obtain ⟨n, is, edd, hn, h1⟩ := (hI d (List.mem_of_getElem? ed)).1
      subst edd
      obtain ⟨x, ex, hxd⟩ := dpAll_get hx ed
      obtain ⟨b, ys, rfl, hb, hy⟩ := dp_tup hxd
      cases hy with
      | @cons y1 vs _ _ hy1 hy2 =>
      cases hy1
      have ha1 := same_sqT s1 ha
      have hb1 := same_sqT s1 hb
      walk_at "go"
      refine ⟨rfl, ?_⟩
      walk_at "go"
      refine go_ixT ha1 (at_nat ex) ?_
      walk_at "go"
      refine go_ixT hb1 at_0 ?_
      walk_at "go"
      by_cases hd : n = "did"
      · obtain ⟨m, rfl⟩ := h1 hd
        subst hd
        rw [decide_eq_true rfl, if_pos rfl]
        walk_at "go"
        refine ⟨_, eD, szlt (by rw [List.length_map]; omega), at_ ++ [j], same_but s1 hD (But.refl D H1).upd, by rw [upd_same, List.map_append]; rfl, by rw [List.length_append]; exact Nat.succ_le_succ hal, fun k hk => ?_⟩
        rcases List.mem_append.mp hk with hk | hk
        · exact hat k hk
        · rw [List.mem_singleton.mp hk]
          exact ⟨m, ed⟩
      · rw [decide_eq_false hd, if_neg (by decide)]
        exact ⟨at_, s1, eD, by omega, hat⟩
    rintro H1 ⟨at_, s1, eD, hal, hat⟩
    have ha1 := same_sqT s1 ha
    walk_at "go"
    refine go_lenL (.of eD) ?_
    rw [List.length_map]
    walk_at "go"
    by_cases hz : (at_.length : Int) = 0
    · rw [decide_eq_true hz]
      walk_at "go"
      refine ⟨by show 2 ≤ sizeLine; decide, fun t1 n1 => ?_⟩
      have x1 := same_new (o := .tup [.str "did", .int (c % 3)]) n1
      have y1 : upd H1 t1 (.tup [.str "did", .int (c % 3)]) t1 = some (.tup [.str "did", .int (c % 3)]) := upd_same
      generalize upd H1 t1 (.tup [.str "did", .int (c % 3)]) = H2 at *
      walk_at "go"
      refine ⟨by show 1 ≤ sizeLine; decide, fun t2 n2 => ?_⟩
      have x2 := same_new (o := .tup [.ref t1]) n2
      have y2 : upd H2 t2 (.tup [.ref t1]) t2 = some (.tup [.ref t1]) := upd_same
      generalize upd H2 t2 (.tup [.ref t1]) = H3 at *
      walk_at "go"
      have s3 := s1.trans (x1.trans x2)
      refine go_catAnyC (.of y2) (same_sqT (x1.trans x2) ha1) (by simp; omega) fun p H4 s4 h4 => ?_
      refine q _ (dDid (c % 3) :: vd) H4 (s3.trans s4) (.tup h4 (.cons (.tup (.of (s4 _ _ (x2 _ _ y1))) (.cons (.str _) (.cons (.int _) .nil))) (dpAll_same (s3.trans s4) _ _ hx))) (fun d hd => ?_) (by rw [List.length_cons]; omega)
      rcases List.mem_cons.mp hd with rfl | hd
      · exact ⟨item_did, itm_did _⟩
      · exact hI d hd
    rw [decide_eq_false hz]
    walk_at "go"
    refine go_lenL (.of eD) ?_
    rw [List.length_map]
    walk_at "go"
    obtain ⟨i, hi, hin⟩ : ∃ i : Nat, c % (at_.length : Int) = (i : Int) ∧ i < at_.length := by
      have p := Int.emod_nonneg c hz
      have p2 := Int.emod_lt_of_pos c (show 0 < (at_.length : Int) by omega)
      exact ⟨(c % (at_.length : Int)).toNat, by omega, by omega⟩
    rw [hi]
    obtain ⟨k, hk⟩ : ∃ k, at_[i]? = some k := ⟨_, List.getElem?_eq_getElem hin⟩
    obtain ⟨m, em⟩ := hat k (List.mem_of_getElem? hk)
    have klt := (List.getElem?_eq_some_iff.mp em).1
    obtain ⟨x, ex, hxd⟩ := dpAll_get hx em
    obtain ⟨b, ys, rfl, hb, hy⟩ := dp_tup hxd
    cases hy with
    | @cons _ vs _ _ hy1 hy2 =>
    cases hy1
    cases hy2 with
    | @cons _ vs2 _ _ hy3 hy4 =>
    cases hy3
    cases hy4
    refine go_ixL (.of eD) (show atI (at_.map fun (k : Nat) => V.int (k : Int)) (i : Int) = some (.int (k : Int)) from atI_nat (by rw [List.getElem?_map, hk]; rfl)) ?_
    walk_at "go"
    refine go_slTo ha1 (by omega) fun p1 H2 s2 h2 => ?_
    walk_at "go"
    refine go_ixT (same_sqT s2 ha1) (at_nat ex) ?_
    walk_at "go"
    refine go_ixT (same_sqT (s1.trans s2) hb) at_1 ?_
    walk_at "go"
    refine ⟨by show 2 ≤ sizeLine; decide, fun t1 n1 => ?_⟩
    have x1 := same_new (o := .tup [.str "did", .int (m + 1 + c / 7 % 2)]) n1
    have y1 : upd H2 t1 (.tup [.str "did", .int (m + 1 + c / 7 % 2)]) t1 = some (.tup [.str "did", .int (m + 1 + c / 7 % 2)]) := upd_same
    generalize upd H2 t1 (.tup [.str "did", .int (m + 1 + c / 7 % 2)]) = H3 at *
    walk_at "go"
    refine ⟨by show 1 ≤ sizeLine; decide, fun t2 n2 => ?_⟩
    have x2 := same_new (o := .tup [.ref t1]) n2
    have y2 : upd H3 t2 (.tup [.ref t1]) t2 = some (.tup [.ref t1]) := upd_same
    generalize upd H3 t2 (.tup [.ref t1]) = H4 at *
    have s24 := x1.trans x2
    refine go_catAnyC (same_sqT s24 h2) (.of y2) (by simp; omega) fun p5 H5 s5 h5 => ?_
    have s15 := s2.trans (s24.trans s5)
    walk_at "go"
    rw [show (k : Int) + 1 = ((k + 1 : Nat) : Int) by omega]
    refine go_slFrom (same_sqT s15 ha1) fun p6 H6 s6 h6 => ?_
    walk_at "go"
    refine go_catAnyC (same_sqT s6 h5) h6 (by simp; omega) fun p7 H7 s7 h7 => ?_
    have sA := s1.trans (s15.trans (s6.trans s7))
    refine q _ (vd.take k ++ [dDid (m + 1 + c / 7 % 2)] ++ vd.drop (k + 1)) H7 sA (.tup h7 (dpAll_append (dpAll_append (dpAll_take _ (dpAll_same sA _ _ hx)) (.cons (.tup (.of (s7 _ _ (s6 _ _ (s5 _ _ (x2 _ _ y1))))) (.cons (.str _) (.cons (.int _) .nil))) .nil)) (dpAll_drop _ (dpAll_same sA _ _ hx)))) (fun d hd => ?_) (by simp; omega)
    rcases List.mem_append.mp hd with hd | hd
    · rcases List.mem_append.mp hd with hd | hd
      · exact hI d (List.mem_of_mem_take hd)
      · rw [List.mem_singleton.mp hd]
        exact ⟨item_did, itm_did _⟩
    · exact hI d (List.mem_of_mem_drop hd)
end
end K35

namespace K35
open PySem PySem.Spec PyProof.Rows L2 Gx
section
variable {P : Program} {w : World} {K : PySem.W.Frag} {mg : Str → Option Value} {base : Heap} {A : Ad}
def sp__law_bool (K : PySem.W.Frag) : Sp := fun vs H Q _ => ∃ (b : Bool), vs = [.bl b, .bl b] ∧ Q (.bl true) H
theorem G__law_bool (T : Txt P K mg A) : FnOk P w K mg base CX0 1 A.f__law_bool A.d__law_bool ["_law_actual", "_law_due"] (sp__law_bool K) := by
  refine (T.F__law_bool.ok (k := 0) sc__law_bool (fun vs H Q E h => ?_) (fun cdv Ar outer s H vs Q E hr h => ?_))
  · obtain ⟨b, rfl, _⟩ := h
    rfl
  · obtain ⟨b, rfl, q⟩ := h
    refine ⟨_, (pss_one (ps_ret (pe_and (pe_callB call_isi (by rfl) T.n_isinstance (by decide +kernel) (pa_cons (pv 0) (pa_cons (pe_bltn (v := .ty "bool") (by rfl) T.n_bool (by decide +kernel) rfl) pa_nil))) (pe_one (pe_cmpR op_eq (pv 0) (pv 1) (nomark _)))))), ?_⟩
    try dsimp only [cxOf, Cx.nox, Cx.wish]
    walk_at "go"
    rw [decide_eq_true rfl]
    exact q
end
end K35

namespace K35
open PySem PySem.Spec PyProof.Rows L2 Gx
section
variable {P : Program} {w : World} {K : PySem.W.Frag} {mg : Str → Option Value} {base : Heap} {A : Ad}
def sp__law_stages (K : PySem.W.Frag) : Sp := fun vs H Q _ => ∃ (a : Addr) (ns : List Int) (m : Int), vs = [.ref a, .int m] ∧ SqL K H a (ns.map V.int) ∧ ∀ (l : Addr) (st : List Stg) H', Same H H' → H l = none → StAt H' l st → (1 ≤ m → prodN st ≤ m) → Q (.ref l) H'
theorem G__law_stages (T : Txt P K mg A) : FnOk P w K mg base CX0 2 A.f__law_stages A.d__law_stages ["_law_script", "_law_most"] (sp__law_stages K) := by
  refine (T.F__law_stages.ok (k := 1) sc__law_stages (fun vs H Q E h => ?_) (fun cdv Ar outer s H vs Q E hr h => ?_))
  · obtain ⟨a, ns, m, rfl, _⟩ := h
    rfl
  · obtain ⟨a, ns, m, rfl, hs, q⟩ := h
    refine ⟨_, (pss_cons (ps_set (i := 2) sc__law_stages.nd rfl (Or.inl rfl) (pe_lst pa_nil))
      (pss_cons (ps_set (i := 3) sc__law_stages.nd rfl (Or.inl rfl) pe_int)
      (pss_cons (ps_set (i := 4) sc__law_stages.nd rfl (Or.inl rfl) (pe_call (G__law_row T) (hr.mono (by decide)) rfl T.m__law_row T.F__law_row.kp T.b__law_row .nil pass0 (pa_cons (pe_call (G__law_cell T) (hr.mono (by decide)) rfl T.m__law_cell T.F__law_cell.kp T.b__law_cell .nil pass0 (pa_cons (pv 0) (pa_cons pe_int pa_nil))) (pa_cons pe_int (pa_cons pe_int pa_nil)))))
      (pss_cons (ps_for PassesOwn.never rfl (pi_range1 rfl T.n_range (pa_cons (pe_op op_mod (pe_callTy k_int1 (by rfl) T.n_int (by decide +kernel) (pa_cons (pe_ix ix_list (pv 4) pe_int (fun _ _ => rfl)) pa_nil)) pe_int) pa_nil)) (pg_name (i := 5) sc__law_stages.nd rfl (Or.inl rfl))
        (pss_cons (ps_set (i := 6) sc__law_stages.nd rfl (Or.inl rfl) (pe_op op_add pe_int (pe_op op_mod (pe_callTy k_int1 (by rfl) T.n_int (by decide +kernel) (pa_cons (pe_ix ix_list (pv 4) (pe_op op_add (pe_op op_mul pe_int (pv 5)) pe_int) (fun _ _ => rfl)) pa_nil)) pe_int)))
      (Evl.pss_cut (ps_if (pt_cmpR op_gt (pe_op op_mul (pv 3) (pv 6)) (pv 1) (nomark _))
        (pss_one (ps_set (i := 6) sc__law_stages.nd rfl (Or.inl rfl) pe_int))
        pss_nil)
      (pss_cons (ps_set (i := 3) sc__law_stages.nd rfl (Or.inl rfl) (pe_op op_mul (pv 3) (pv 6)))
      (pss_cons (ps_set (i := 7) sc__law_stages.nd rfl (Or.inl rfl) (pe_ix ix_tup (pe_tup (pa_cons pe_int (pa_cons pe_int (pa_cons pe_int (pa_cons pe_int (pa_cons pe_int pa_nil)))))) (pe_op op_mod (pe_callTy k_int1 (by rfl) T.n_int (by decide +kernel) (pa_cons (pe_ix ix_list (pv 4) (pe_op op_add (pe_op op_mul pe_int (pv 5)) pe_int) (fun _ _ => rfl)) pa_nil)) pe_int) (fun _ _ => rfl)))
      (pss_one (ps_expr (pe_bm PySem.F.plainAttrs_list PySem.F.slot_list_append PySem.F.type_list_append mt_append (pv 2) (pa_cons (pe_tup (pa_cons (pe_op op_mod (pe_callTy k_int1 (by rfl) T.n_int (by decide +kernel) (pa_cons (pe_ix ix_list (pv 4) (pe_op op_add (pe_op op_mul pe_int (pv 5)) pe_int) (fun _ _ => rfl)) pa_nil)) pe_int) (pa_cons (pv 6) (pa_cons (pv 7) pa_nil)))) pa_nil)))))))))
      (pss_one (ps_ret (pv 2))))))), ?_⟩
    try dsimp only [cxOf, Cx.nox, Cx.wish]
    walk_at "go"
    refine ⟨by show 0 ≤ sizeLine; decide, fun l nl => ?_⟩
    have s1 := same_new (o := .lst []) nl
    have el : upd H l (.lst []) l = some (.lst []) := upd_same
    generalize upd H l (.lst []) = H1 at *
    walk_at "go"
    refine ⟨a, ns, 0, rfl, s1.seq hs, by decide, ?_⟩
    walk_at "go"
    refine ⟨_, 20, 60, rfl, by decide, by decide, by decide, by decide, fun ld ds H2 s2 nd ed hdl hdr => ?_⟩
    have hdl : ds.length = 20 := hdl
    walk_at "go"
    refine go_ixL (.of ed) (at_int (by decide) (by omega)) ?_
    walk_at "go"
    have g0 := Int.emod_nonneg (ds.getD (0 : Int).toNat 0) (b := 5) (by decide)
    have g1 := Int.emod_lt_of_pos (ds.getD (0 : Int).toNat 0) (b := 5) (by decide)
    generalize ds.getD (0 : Int).toNat 0 % 5 = num at *
    have ldl : ld ≠ l := fun z => by rw [z, el] at nd; cases nd
    refine foR1 (fun i σ' H' => ∃ (cnt : Int) (v5 v6 v7 : Option V) (xs : List V) (st : List Stg), σ' = [some (.ref a), some (.int m), some (.ref l), some (.int cnt), some (.ref ld), v5, v6, v7] ∧ Same H H' ∧ H' ld = some (.lst (ds.map V.int)) ∧ H' l = some (.lst xs) ∧ xs.length = st.length ∧ st.length = i ∧ 1 ≤ cnt ∧ cnt ≤ p3 i ∧ cnt = prodN st ∧ (1 ≤ m → cnt ≤ m) ∧ (∀ (k : Nat) (s : Stg), st[k]? = some s → ∃ t, xs[k]? = some (.ref t) ∧ H' t = some (.tup [.int s.w, .int s.n, .int s.s])) ∧ ∀ s ∈ st, 0 ≤ s.w ∧ s.w ≤ 2 ∧ 1 ≤ s.n ∧ s.n ≤ 3 ∧ 0 ≤ s.s ∧ s.s ≤ 3) (by omega) ⟨_, _, _, _, [], [], rfl, s1.trans s2, ed, s2 _ _ el, rfl, rfl, by decide, by decide, rfl, fun h => h, fun k s h => by simp at h, fun s h => nomatch h⟩ ?_ ?_
    · rintro i σ' H3 hi ⟨cnt, v5, v6, v7, xs, st, rfl, s3, ed3, el3, hxl, hst, c0, c1, cp, cm, hat, hok⟩
      have hi4 : i ≤ 4 := by omega
      have c81 := p3_le hi4
      walk_at "go"
      refine go_ixL (.of ed3) (at_int (by omega) (by omega)) ?_
      walk_at "go"
      have z0 := Int.emod_nonneg (ds.getD (4 * (i : Int) + 1).toNat 0) (b := 3) (by decide)
      have z1 := Int.emod_lt_of_pos (ds.getD (4 * (i : Int) + 1).toNat 0) (b := 3) (by decide)
      generalize ds.getD (4 * (i : Int) + 1).toNat 0 % 3 = z at *
      refine go_cut (fun σ' H' => ∃ sz : Int, σ' = [some (.ref a), some (.int m), some (.ref l), some (.int cnt), some (.ref ld), some (.int (i : Nat)), some (.int sz), v7] ∧ H' = H3 ∧ 1 ≤ sz ∧ sz ≤ 3 ∧ (cnt * sz ≤ m ∨ sz = 1)) ?_ ?_
      · walk_at "go"
        walk_at "br"
        · intro _
          walk_at "go"
          exact ⟨_, rfl, rfl, by decide, by decide, .inr rfl⟩
        · intro hle
          walk_at "go"
          exact ⟨_, rfl, rfl, by omega, by omega, .inl (Int.not_lt.mp hle)⟩
      rintro σ' H' ⟨sz, rfl, rfl, y0, y1, y2⟩
      walk_at "go"
      refine ⟨by show 5 ≤ sizeLine; decide, fun t5 n5 => ?_⟩
      have s5 := same_new (o := .tup [.int 0, .int 0, .int 1, .int 2, .int 3]) n5
      have e5 : upd H' t5 (.tup [.int 0, .int 0, .int 1, .int 2, .int 3]) t5 = some (.tup [.int 0, .int 0, .int 1, .int 2, .int 3]) := upd_same
      generalize upd H' t5 (.tup [.int 0, .int 0, .int 1, .int 2, .int 3]) = H4 at *
      walk_at "go"
      refine go_ixL (.of (s5 _ _ ed3)) (at_int (by omega) (by omega)) ?_
      walk_at "go"
      have w0 := Int.emod_nonneg (ds.getD (4 * (i : Int) + 2).toNat 0) (b := 5) (by decide)
      have w1 := Int.emod_lt_of_pos (ds.getD (4 * (i : Int) + 2).toNat 0) (b := 5) (by decide)
      obtain ⟨sh, esh, sh0, sh1⟩ := show_at w0 w1
      refine go_ixT (.of e5) esh ?_
      walk_at "go"
      refine ⟨.inl ⟨rfl, _, .inl (.inl (s5 _ _ el3))⟩, ?_⟩
      walk_at "go"
      refine go_ixL (.of (s5 _ _ ed3)) (at_int (by omega) (by omega)) ?_
      walk_at "go"
      have x0 := Int.emod_nonneg (ds.getD (4 * (i : Int) + 3).toNat 0) (b := 3) (by decide)
      have x1 := Int.emod_lt_of_pos (ds.getD (4 * (i : Int) + 3).toNat 0) (b := 3) (by decide)
      generalize ds.getD (4 * (i : Int) + 3).toNat 0 % 3 = wh at *
      refine ⟨by show 3 ≤ sizeLine; decide, fun t nt => ?_⟩
      have s6 := same_new (o := .tup [.int wh, .int sz, .int sh]) nt
      have et : upd H4 t (.tup [.int wh, .int sz, .int sh]) t = some (.tup [.int wh, .int sz, .int sh]) := upd_same
      generalize upd H4 t (.tup [.int wh, .int sz, .int sh]) = H5 at *
      have s56 := s5.trans s6
      walk_at "go"
      have el5 := s56 _ _ el3
      refine go_append el5 (szlt (by omega)) ?_
      walk_at "go"
      refine ⟨_, _, _, _, xs ++ [.ref t], st ++ [⟨wh, sz, sh⟩], rfl, same_mut (s3.trans s56) nl, by rw [upd_ne ldl]; exact s56 _ _ ed3, upd_same, by rw [List.length_append, List.length_append, hxl]; rfl, by rw [List.length_append, List.length_singleton, hst], ?_, ?_, by rw [prodN_snoc, ← cp], fun hm => (y2.elim (fun h => h) fun h => by rw [h, Int.mul_one]; exact cm hm), fun k s hk => ?_, fun s hs => ?_⟩
      · have := Int.mul_le_mul c0 y0 (by decide) (by omega)
        omega
      · show _ ≤ 3 * p3 i
        rcases (by omega : sz = 1 ∨ sz = 2 ∨ sz = 3) with h | h | h <;> rw [h] <;> omega
      · rcases Nat.lt_or_ge k st.length with z | z
        · rw [List.getElem?_append_left z] at hk
          obtain ⟨t', a1, a2⟩ := hat k s hk
          have a3 := s56 _ _ a2
          exact ⟨t', by rw [List.getElem?_append_left (by omega)]; exact a1, by rw [upd_ne (ne_of a3 el5 (by intro z; cases z))]; exact a3⟩
        · have h2 := (List.getElem?_eq_some_iff.mp hk).1
          rw [List.length_append, List.length_singleton] at h2
          obtain rfl : k = st.length := by omega
          rw [List.getElem?_append_right (Nat.le_refl _), Nat.sub_self] at hk
          cases hk
          exact ⟨t, by rw [List.getElem?_append_right (by omega), hxl, Nat.sub_self]; rfl, by rw [upd_ne (ne_of et el5 (by intro z; cases z))]; exact et⟩
      · rcases List.mem_append.mp hs with hs | hs
        · exact hok s hs
        · rw [List.mem_singleton.mp hs]
          exact ⟨x0, by show wh ≤ 2; omega, y0, y1, sh0, sh1⟩
    · rintro σ' H3 ⟨cnt, v5, v6, v7, xs, st, rfl, s3, ed3, el3, hxl, hst, c0, c1, cp, cm, hat, hok⟩
      walk_at "go"
      exact q l st _ s3 nl ⟨⟨xs, el3, hxl, hat⟩, by omega, hok⟩ fun h => by rw [← cp]; exact cm h
end
end K35

namespace K35
open PySem PySem.Spec PyProof.Rows L2 Gx
section
variable {P : Program} {w : World} {K : PySem.W.Frag} {mg : Str → Option Value} {base : Heap} {A : Ad}
def sp__law_asked (K : PySem.W.Frag) : Sp := fun vs H Q _ => ∃ (l p : Addr) (st : List Stg) (path : List Int) (s : Stg), vs = [.ref l, .ref p] ∧ StAt H l st ∧ H p = some (.lst (path.map V.int)) ∧ st[path.length]? = some s ∧ ∀ (v : Addr) H', Same H H' → Dp K H' (.ref v) (.tuple (askD st path s)) → Q (.ref v) H'
theorem G__law_asked (T : Txt P K mg A) : FnOk P w K mg base CX0 2 A.f__law_asked A.d__law_asked ["_law_stages_here", "_law_path"] (sp__law_asked K) := by
  refine (T.F__law_asked.ok (k := 1) sc__law_asked (fun vs H Q E h => ?_) (fun cdv Ar outer s H vs Q E hr h => ?_))
  · obtain ⟨l, p, st, path, s, rfl, _⟩ := h
    rfl
  · obtain ⟨l, p, st, path, s, rfl, hst, hp, hs, q⟩ := h
    have h4 := hst.le
    have hpl := (List.getElem?_eq_some_iff.mp hs).1
    refine ⟨_, (pss_cons (ps_set (i := 2) sc__law_asked.nd rfl (Or.inl rfl) pe_int)
      (pss_cons (ps_for PassesOwn.never rfl (pi_range1 rfl T.n_range (pa_cons (pe_callB k_len (by rfl) T.n_len (by decide +kernel) (pa_cons (pv 1) pa_nil)) pa_nil)) (pg_name (i := 3) sc__law_asked.nd rfl (Or.inl rfl))
        (pss_one (ps_set (i := 2) sc__law_asked.nd rfl (Or.inl rfl) (pe_op op_add (pv 2) (pe_callTy k_int1 (by rfl) T.n_int (by decide +kernel) (pa_cons (pe_cmpR op_ne (pe_ix ix_tup (pe_ix ix_list (pv 0) (pv 3) (fun _ _ => rfl)) pe_int (fun _ _ => rfl)) pe_int (nomark _)) pa_nil))))))
      (pss_cons (ps_set (i := 4) sc__law_asked.nd rfl (Or.inl rfl) (pe_ix ix_list (pv 0) (pe_callB k_len (by rfl) T.n_len (by decide +kernel) (pa_cons (pv 1) pa_nil)) (fun _ _ => rfl)))
      (pss_one (ps_ret (pe_op op_catA (pe_call (G__law_view T) (hr.mono (by decide)) rfl T.m__law_view T.F__law_view.kp T.b__law_view .nil pass0 (pa_cons (pv 0) (pa_cons (pv 1) (pa_cons (pe_ix ix_tup (pv 4) pe_int (fun _ _ => rfl)) pa_nil)))) (pe_tup (pa_cons (pe_tup (pa_cons pe_str (pa_cons (pv 2) (pa_cons (pe_ix ix_tup (pv 4) pe_int (fun _ _ => rfl)) pa_nil)))) pa_nil)))))))), ?_⟩
    try dsimp only [cxOf, Cx.nox, Cx.wish]
    walk_at "go"
    refine go_lenL (.of hp) ?_
    rw [List.length_map]
    walk_at "go"
    refine foR1 (fun i σ' H' => ∃ (v3 v4 : Option V), σ' = [some (.ref l), some (.ref p), some (.int (nStep st i)), v3, v4] ∧ H' = H) (by omega) ⟨_, _, rfl, rfl⟩ ?_ ?_
    · rintro i σ' H1 hi ⟨v3, v4, rfl, rfl⟩
      obtain ⟨s', es⟩ : ∃ s, st[i]? = some s := ⟨_, List.getElem?_eq_getElem (by omega)⟩
      obtain ⟨xs, t, el, hxl, it, et⟩ := hst.get es
      have eN : nStep st (i + 1) = if s'.w = 0 then nStep st i else nStep st i + 1 := by
        show (match st[i]? with | some s => _ | none => _) = _
        rw [es]
      walk_at "go"
      refine go_ixL (.of el) it ?_
      walk_at "go"
      have e1 : (nStep st i + if (!decide (s'.w = 0)) = true then 1 else 0) = nStep st (i + 1) := by
        rw [eN]
        by_cases hw : s'.w = 0 <;> simp [hw]
      rw [e1]
      exact ⟨_, _, rfl, rfl⟩
    · rintro σ' H1 ⟨v3, v4, rfl, rfl⟩
      obtain ⟨xs, t, el, hxl, it, et⟩ := hst.get hs
      walk_at "go"
      refine go_lenL (.of hp) ?_
      rw [List.length_map]
      walk_at "go"
      refine go_ixL (.of el) it ?_
      walk_at "go"
      refine ⟨l, p, st, path, s.w, rfl, hst, hp, by omega, fun v H2 s2 dv => ?_⟩
      have et2 := s2 _ _ et
      walk_at "go"
      refine ⟨by show 3 ≤ sizeLine; decide, fun a1 m1 => ?_⟩
      walk_at "go"
      refine ⟨by show 1 ≤ sizeLine; decide, fun a2 m2 => ?_⟩
      refine add_dp dv m1 m2 (fun _ => .cons (.str _) (.cons (.int _) (.cons (.int _) .nil))) (by have := vStep_len st path s.w path.length; show (vStep st path s.w path.length).length ≤ 1000; omega) fun p3 H3 s3 d3 => ?_
      exact q p3 H3 (s2.trans s3) d3
end
end K35

namespace K35
open PySem PySem.Spec PyProof.Rows L2 Gx
section
variable {P : Program} {w : World} {K : PySem.W.Frag} {mg : Str → Option Value} {base : Heap} {A : Ad}
def sp__law_keeps (K : PySem.W.Frag) : Sp := fun vs H Q _ => ∃ (l : Addr) (pc vw : V) (st : List Stg) (place : Option (List Int)) (vd : List PyData), vs = [.ref l, pc, vw] ∧ StAt H l st ∧ PlV H pc place ∧ Dp K H vw (.tuple vd) ∧ (∀ d ∈ vd, Item d) ∧ vd.length ≤ 1000 ∧ ∀ H', Same H H' → Q (.bl ((pathsD st).all fun p => walkB st place vd p st.length 0 none none)) H'
theorem G__law_keeps (T : Txt P K mg A) : FnOk P w K mg base CX0 3 A.f__law_keeps A.d__law_keeps ["_law_stages_here", "_law_place", "_law_view_here"] (sp__law_keeps K) := by
  refine (T.F__law_keeps.ok (k := 2) sc__law_keeps (fun vs H Q E h => ?_) (fun cdv Ar outer s H vs Q E hr h => ?_))
  · obtain ⟨l, pc, vw, st, place, vd, rfl, _⟩ := h
    rfl
  · obtain ⟨l, pc, vw, st, place, vd, rfl, hst, hpc, hvw, hit, hvl, q⟩ := h
    have h4 := hst.le
    have ok3 : ∀ s ∈ st, 1 ≤ s.n ∧ s.n ≤ 3 := fun s h => ⟨(hst.ok s h).2.2.1, (hst.ok s h).2.2.2.1⟩
    obtain ⟨sx, esx, hsl, hsf⟩ := hst.ex
    refine ⟨_, (pss_cons (ps_for PassesOwn.never rfl (pi_list (pe_call (G__law_paths T) (hr.mono (by decide)) rfl T.m__law_paths T.F__law_paths.kp T.b__law_paths .nil pass0 (pa_cons (pv 0) pa_nil))) (pg_name (i := 3) sc__law_keeps.nd rfl (Or.inl rfl))
        (pss_cons (ps_set (i := 4) sc__law_keeps.nd rfl (Or.inl rfl) (pe_lst (pa_cons pe_non (pa_cons pe_non (pa_cons pe_non pa_nil)))))
      (pss_one (ps_for PassesOwn.never rfl (pi_range1 rfl T.n_range (pa_cons (pe_callB k_len (by rfl) T.n_len (by decide +kernel) (pa_cons (pv 0) pa_nil)) pa_nil)) (pg_name (i := 5) sc__law_keeps.nd rfl (Or.inl rfl))
        (pss_cons (ps_set (i := 6) sc__law_keeps.nd rfl (Or.inl rfl) (pe_ix ix_tup (pe_ix ix_list (pv 0) (pv 5) (fun _ _ => rfl)) pe_int (fun _ _ => rfl)))
      (pss_one (ps_if (pt_cmpR op_ne (pv 6) pe_int (nomark _))
        (pss_cons (ps_set (i := 7) sc__law_keeps.nd rfl (Or.inl rfl) (pe_call (G__law_asked T) (hr.mono (by decide)) rfl T.m__law_asked T.F__law_asked.kp T.b__law_asked .nil pass0 (pa_cons (pv 0) (pa_cons (pe_slice sl_list (pv 3) po_none (po_some (pv 5))) pa_nil))))
      (pss_cons (ps_if (pt_cmpR (op_eqD hr.units) (pe_slice sl_list (pv 3) po_none (po_some (pv 5))) (pv 1) (nomark _))
        (pss_one (ps_set (i := 7) sc__law_keeps.nd rfl (Or.inl rfl) (pv 2)))
        pss_nil)
      (pss_cons (ps_if (pt_cmpR (op_neD hr.units) (pe_call (G__law_last T) (hr.mono (by decide)) rfl T.m__law_last T.F__law_last.kp T.b__law_last .nil pass0 (pa_cons (pv 7) pa_nil)) (pe_ix ix_list (pv 4) (pv 6) (fun _ _ => rfl)) (nomark _))
        (pss_one (ps_ret pe_bl))
        pss_nil)
      (pss_one (ps_asg (pe_tup (pa_cons (pv 7) (pa_cons (pe_ix ix_list (pv 3) (pv 5) (fun _ _ => rfl)) pa_nil))) (pg_sub (pv 4) (pv 6) set_list))))))
        pss_nil)))))))
      (pss_one (ps_ret pe_bl))), ?_⟩
    try dsimp only [cxOf, Cx.nox, Cx.wish]
    walk_at "go"
    refine ⟨l, st, rfl, hst, fun r H1 s1 hps => ?_⟩
    obtain ⟨px, epx, pxl, pxf⟩ := hps.ex
    have q : ∀ H', Same H1 H' → Q (.bl ((pathsD st).all fun p => walkB st place vd p st.length 0 none none)) H' := fun H' s => q H' (s1.trans s)
    walk_at "go"
    refine foL px (fun i σ' H' => ∃ (v3 v4 v5 v6 v7 : Option V), σ' = [some (.ref l), some pc, some vw, v3, v4, v5, v6, v7] ∧ Same H1 H' ∧ ((pathsD st).take i).all (fun p => walkB st place vd p st.length 0 none none) = true) ⟨_, _, _, _, _, rfl, Same.refl _, rfl⟩ ?_ ?_ ?_
    · rintro i σ' H' _ ⟨v3, v4, v5, v6, v7, rfl, s, _⟩
      exact .of (s _ _ epx)
    · rintro i x σ' H2 hx ⟨v3, v4, v5, v6, v7, rfl, s2, hall⟩
      have hi := (List.getElem?_eq_some_iff.mp hx).1
      obtain ⟨p, ep⟩ : ∃ p, (pathsD st)[i]? = some p := ⟨_, List.getElem?_eq_getElem (by omega)⟩
      obtain ⟨pa, e1, _, epa⟩ := pxf i p ep
      rw [hx] at e1
      cases e1
      have mem := List.mem_of_getElem? ep
      have plen := pStep_mem (st := st) (k := st.length) (Nat.le_refl _) p mem
      have tk : ((pathsD st).take (i + 1)).all (fun p => walkB st place vd p st.length 0 none none) = (true && walkB st place vd p st.length 0 none none) := by
        rw [List.take_add_one, ep, List.all_append, hall]
        show (true && (walkB st place vd p st.length 0 none none && true)) = _
        rw [Bool.and_true]
      have s12 := s1.trans s2
      have epa2 := s2 _ _ epa
      have q : ∀ H', Same H2 H' → Q (.bl ((pathsD st).all fun p => walkB st place vd p st.length 0 none none)) H' := fun H' s => q H' (s2.trans s)
      walk_at "go"
      refine ⟨by show 3 ≤ sizeLine; decide, fun LL nLL => ?_⟩
      have s3 := same_new (o := .lst [.non, .non, .non]) nLL
      have eLL : upd H2 LL (.lst [.non, .non, .non]) LL = some (.lst [.non, .non, .non]) := upd_same
      generalize upd H2 LL (.lst [.non, .non, .non]) = H3 at *
      walk_at "go"
      refine go_lenL (.of (s3 _ _ (s12 _ _ esx))) ?_
      rw [hsl]
      walk_at "go"
      refine foR1 (fun k σ' H' => ∃ (v5 v6 v7 : Option V) (x1 x2 : V) (r1 r2 : Option PyData), σ' = [some (.ref l), some pc, some vw, some (.ref pa), some (.ref LL), v5, v6, v7] ∧ Same H2 H' ∧ H' LL = some (.lst [.non, x1, x2]) ∧ Dp K H' x1 (dO r1) ∧ Dp K H' x2 (dO r2) ∧ RowD r1 ∧ RowD r2 ∧ walkB st place vd p st.length 0 none none = walkB st place vd p (st.length - k) k r1 r2) (by omega) ⟨_, _, _, .non, .non, none, none, rfl, s3, eLL, .non, .non, RowD.none, RowD.none, rfl⟩ ?_ ?_
      · rintro k σ' H4 hk ⟨v5, v6, v7, x1, x2, r1, r2, rfl, s4, eLL4', d1, d2, hr1, hr2, hW⟩
        have hk2 : k < st.length := by omega
        obtain ⟨s, es⟩ : ∃ s, st[k]? = some s := ⟨_, List.getElem?_eq_getElem hk2⟩
        obtain ⟨y, ey⟩ : ∃ y, p[k]? = some y := ⟨_, List.getElem?_eq_getElem (by omega)⟩
        have ixk : atI (p.map V.int) (k : Int) = some (.int y) := atI_nat (by rw [List.getElem?_map, ey]; rfl)
        obtain ⟨xs, t0, el, hxl, it, et⟩ := (hst.same (s12.trans s4)).get es
        have sok := hst.ok s (List.mem_of_getElem? es)
        rw [show st.length - k = (st.length - (k + 1)) + 1 by omega, walkB_at es] at hW
        have gy : p.getD k 0 = y := by rw [List.getD_eq_getElem?_getD, ey]; rfl
        rw [gy] at hW
        walk_at "go"
        refine go_ixL (.of el) it ?_
        walk_at "go"
        by_cases hw0 : s.w = 0
        · rw [decide_eq_true hw0]
          rw [if_pos hw0] at hW
          walk_at "go"
          exact ⟨_, _, _, x1, x2, r1, r2, rfl, s4, eLL4', d1, d2, hr1, hr2, hW⟩
        rw [decide_eq_false hw0]
        rw [if_neg hw0] at hW
        have ecut : cutV (p.map V.int) none (some (k : Int)) = (p.take k).map V.int := by
          unfold cutV
          have h2 : HT.sIx (p.map V.int).length (p.map V.int).length (some (k : Int)) = min k (p.map V.int).length := HT.sIx_nat _ _ k
          rw [h2]
          show List.take (min k (p.map V.int).length - 0) ((p.map V.int).drop 0) = _
          rw [List.drop_zero, Nat.sub_zero, List.length_map, Nat.min_eq_left (by omega), List.map_take]
        have tl : (p.take k).length = k := by rw [List.length_take]; omega
        have alen : (askD st (p.take k) s).length ≤ 20 := (mItem_ok (pl := s.w) (p := p) (k := k) h4 ok3 (by omega) (by unfold mItem; rw [es]; exact if_pos rfl)).z
        walk_at "go"
        refine go_slL (.of (s4 _ _ epa2)) fun ca nc => ?_
        rw [ecut]
        have z1 := same_new (o := .lst ((p.take k).map V.int)) nc
        have y1 : upd H4 ca (.lst ((p.take k).map V.int)) ca = some (.lst ((p.take k).map V.int)) := upd_same
        generalize upd H4 ca (.lst ((p.take k).map V.int)) = G0 at *
        walk_at "go"
        refine ⟨l, ca, st, p.take k, s, rfl, hst.same (s12.trans (s4.trans z1)), y1, by rw [tl]; exact es, fun v G1 z2 dv => ?_⟩
        have z12 := z1.trans z2
        walk_at "go"
        refine go_slL (.of (z12 _ _ (s4 _ _ epa2))) fun cb nb => ?_
        rw [ecut]
        have z3 := same_new (o := .lst ((p.take k).map V.int)) nb
        have y3 : upd G1 cb (.lst ((p.take k).map V.int)) cb = some (.lst ((p.take k).map V.int)) := upd_same
        generalize upd G1 cb (.lst ((p.take k).map V.int)) = G2 at *
        have sxv := z12.trans z3
        have sG2 := s4.trans sxv
        have eLLv := sxv _ _ eLL4'
        walk_at "go"
        refine pl_eq y3 (hpc.same (s12.trans sG2)) ?_
        walk_at "go"
        by_cases hpp : some (p.take k) = place
        · rw [decide_eq_true hpp]
          have dsv : Dp K G2 vw (.tuple (viewC st place vd (p.take k) s)) := by
            unfold viewC
            rw [if_pos hpp]
            exact dp_same (s12.trans sG2) _ _ hvw
          obtain ⟨sv, esv⟩ : ∃ sv, sv = vw := ⟨_, rfl⟩
          rw [← esv] at dsv
          walk_at "go"
          rw [← esv]
          have vit := viewC_items (st := st) (place := place) hit (q := p.take k) (s := s)
          have vlen : (viewC st place vd (p.take k) s).length ≤ 1000 := by
            unfold viewC
            split
            · exact hvl
            · omega
          generalize viewC st place vd (p.take k) s = vv at *
          walk_at "go"
          refine ⟨sv, vv, rfl, dsv, vlen, vit, fun xl G3 x3 dxl => ?_⟩
          have sG3 := sG2.trans x3
          have eLL3 := x3 _ _ eLLv
          have d13 := dp_same (sxv.trans x3) _ _ d1
          have d23 := dp_same (sxv.trans x3) _ _ d2
          have dsv3 := dp_same x3 _ _ dsv
          obtain ⟨xr, hix, dxr, rs⟩ : ∃ xr, atI [V.non, x1, x2] s.w = some xr ∧ Dp K G3 xr (dO (if s.w = 1 then r1 else r2)) ∧ SeqAt.shaped (dO (if s.w = 1 then r1 else r2)) = true := by
            rcases (by omega : s.w = 1 ∨ s.w = 2) with z | z
            · rw [z]
              exact ⟨x1, at_1, d13, hr1.s⟩
            · rw [z]
              exact ⟨x2, at_2, d23, hr2.s⟩
          have lsh : SeqAt.shaped (dO (lastRow vv)) = true := by
            cases hq : lastRow vv with
            | none => decide
            | some r => exact last_shaped vit hq
          walk_at "go"
          refine go_ixL (.of eLL3) hix ?_
          walk_at "go"
          refine ⟨_, _, dxl, dxr, lsh, rs, ?_⟩
          cases hv : PyData.eqv (dO (lastRow vv)) (dO (if s.w = 1 then r1 else r2)) with
          | false =>
            rw [hv, Bool.false_and] at hW
            walk_at "go"
            have al : (pathsD st).all (fun p => walkB st place vd p st.length 0 none none) = false := by
              rw [List.all_eq_false]
              exact ⟨p, mem, by rw [hW]; decide⟩
            rw [al] at q
            exact q G3 (same_but sG3 nLL (But.refl LL G3))
          | true =>
            rw [hv, Bool.true_and] at hW
            walk_at "go"
            have epa3 := sG3 _ _ epa2
            refine go_ixL (.of epa3) ixk ?_
            walk_at "go"
            refine ⟨by show 2 ≤ sizeLine; decide, fun t nt => ?_⟩
            have x4 := same_new (o := .tup [sv, .int y]) nt
            have y4 : upd G3 t (.tup [sv, .int y]) t = some (.tup [sv, .int y]) := upd_same
            generalize upd G3 t (.tup [sv, .int y]) = G4 at *
            have eLL4 := x4 _ _ eLL3
            have dnew : Dp K G4 (.ref t) (dO (some (row vv y))) := .tup (.of y4) (.cons (dp_same x4 _ _ dsv3) (.cons (.int y) .nil))
            have d14 := dp_same x4 _ _ d13
            have d24 := dp_same x4 _ _ d23
            have rn := RowD.row vit y
            walk_at "go"
            rcases (by omega : s.w = 1 ∨ s.w = 2) with z | z
            · rw [if_pos z, if_pos z] at hW
              refine go_setL eLL4 (show ixN 3 s.w = some 1 by rw [z]; rfl) ?_
              exact ⟨_, _, _, .ref t, x2, _, r2, rfl, same_but (sG3.trans x4) nLL (But.refl LL G4).upd, upd_same, dp_put eLL4 _ _ rn.l dnew, dp_put eLL4 _ _ hr2.l d24, rn, hr2, hW⟩
            · rw [if_neg (by omega), if_neg (by omega)] at hW
              refine go_setL eLL4 (show ixN 3 s.w = some 2 by rw [z]; rfl) ?_
              exact ⟨_, _, _, x1, .ref t, r1, _, rfl, same_but (sG3.trans x4) nLL (But.refl LL G4).upd, upd_same, dp_put eLL4 _ _ hr1.l d14, dp_put eLL4 _ _ rn.l dnew, hr1, rn, hW⟩

        · rw [decide_eq_false hpp]
          have dsv : Dp K G2 (.ref v) (.tuple (viewC st place vd (p.take k) s)) := by
            unfold viewC
            rw [if_neg hpp]
            exact dp_same z3 _ _ dv
          obtain ⟨sv, esv⟩ : ∃ sv, sv = V.ref v := ⟨_, rfl⟩
          rw [← esv] at dsv
          walk_at "go"
          rw [← esv]
          have vit := viewC_items (st := st) (place := place) hit (q := p.take k) (s := s)
          have vlen : (viewC st place vd (p.take k) s).length ≤ 1000 := by
            unfold viewC
            split
            · exact hvl
            · omega
          generalize viewC st place vd (p.take k) s = vv at *
          walk_at "go"
          refine ⟨sv, vv, rfl, dsv, vlen, vit, fun xl G3 x3 dxl => ?_⟩
          have sG3 := sG2.trans x3
          have eLL3 := x3 _ _ eLLv
          have d13 := dp_same (sxv.trans x3) _ _ d1
          have d23 := dp_same (sxv.trans x3) _ _ d2
          have dsv3 := dp_same x3 _ _ dsv
          obtain ⟨xr, hix, dxr, rs⟩ : ∃ xr, atI [V.non, x1, x2] s.w = some xr ∧ Dp K G3 xr (dO (if s.w = 1 then r1 else r2)) ∧ SeqAt.shaped (dO (if s.w = 1 then r1 else r2)) = true := by
            rcases (by omega : s.w = 1 ∨ s.w = 2) with z | z
            · rw [z]
              exact ⟨x1, at_1, d13, hr1.s⟩
            · rw [z]
              exact ⟨x2, at_2, d23, hr2.s⟩
          have lsh : SeqAt.shaped (dO (lastRow vv)) = true := by
            cases hq : lastRow vv with
            | none => decide
            | some r => exact last_shaped vit hq
          walk_at "go"
          refine go_ixL (.of eLL3) hix ?_
          walk_at "go"
          refine ⟨_, _, dxl, dxr, lsh, rs, ?_⟩
          cases hv : PyData.eqv (dO (lastRow vv)) (dO (if s.w = 1 then r1 else r2)) with
          | false =>
            rw [hv, Bool.false_and] at hW
            walk_at "go"
            have al : (pathsD st).all (fun p => walkB st place vd p st.length 0 none none) = false := by
              rw [List.all_eq_false]
              exact ⟨p, mem, by rw [hW]; decide⟩
            rw [al] at q
            exact q G3 (same_but sG3 nLL (But.refl LL G3))
          | true =>
            rw [hv, Bool.true_and] at hW
            walk_at "go"
            have epa3 := sG3 _ _ epa2
            refine go_ixL (.of epa3) ixk ?_
            walk_at "go"
            refine ⟨by show 2 ≤ sizeLine; decide, fun t nt => ?_⟩
            have x4 := same_new (o := .tup [sv, .int y]) nt
            have y4 : upd G3 t (.tup [sv, .int y]) t = some (.tup [sv, .int y]) := upd_same
            generalize upd G3 t (.tup [sv, .int y]) = G4 at *
            have eLL4 := x4 _ _ eLL3
            have dnew : Dp K G4 (.ref t) (dO (some (row vv y))) := .tup (.of y4) (.cons (dp_same x4 _ _ dsv3) (.cons (.int y) .nil))
            have d14 := dp_same x4 _ _ d13
            have d24 := dp_same x4 _ _ d23
            have rn := RowD.row vit y
            walk_at "go"
            rcases (by omega : s.w = 1 ∨ s.w = 2) with z | z
            · rw [if_pos z, if_pos z] at hW
              refine go_setL eLL4 (show ixN 3 s.w = some 1 by rw [z]; rfl) ?_
              exact ⟨_, _, _, .ref t, x2, _, r2, rfl, same_but (sG3.trans x4) nLL (But.refl LL G4).upd, upd_same, dp_put eLL4 _ _ rn.l dnew, dp_put eLL4 _ _ hr2.l d24, rn, hr2, hW⟩
            · rw [if_neg (by omega), if_neg (by omega)] at hW
              refine go_setL eLL4 (show ixN 3 s.w = some 2 by rw [z]; rfl) ?_
              exact ⟨_, _, _, x1, .ref t, r1, _, rfl, same_but (sG3.trans x4) nLL (But.refl LL G4).upd, upd_same, dp_put eLL4 _ _ hr1.l d14, dp_put eLL4 _ _ rn.l dnew, hr1, rn, hW⟩

      · rintro σ' H4 ⟨v5, v6, v7, x1, x2, r1, r2, rfl, s4, _, _, _, _, _, hW⟩
        rw [show ((st.length : Int)).toNat = st.length by omega, Nat.sub_self] at hW
        have hW : walkB st place vd p st.length 0 none none = true := hW
        exact ⟨_, _, _, _, _, rfl, s2.trans s4, by rw [tk, hW]; rfl⟩
    · rintro σ' H2 ⟨v3, v4, v5, v6, v7, rfl, s2, hall⟩
      rw [pxl, List.take_length] at hall
      rw [hall] at q
      walk_at "go"
      exact q H2 s2
end
end K35

namespace K35
open PySem PySem.Spec PyProof.Rows L2 Gx
section
variable {P : Program} {w : World} {K : PySem.W.Frag} {mg : Str → Option Value} {base : Heap} {A : Ad}
def sp__keeps (P : Program) (w : World) (K : PySem.W.Frag) (CE CL CT : Addr) (n : Nat) : Sp := fun vs H Q _ => ∃ (a rw1 : Addr) (x1 x2 : V) (tr : Tr) (r1 r2 : Option PyData), vs = [.ref a, .ref rw1] ∧ TrAt K CE CL CT H (.ref a) tr ∧ TOk tr ∧ hgt tr < n ∧ H rw1 = some (.tup [x1, x2]) ∧ Dp K H x1 (dO r1) ∧ Dp K H x2 (dO r2) ∧ SeqAt.shaped (dO r1) = true ∧ SeqAt.shaped (dO r2) = true ∧ TItm tr ∧ ∀ H', Same H H' → Q (.bl (keepB tr r1 r2)) H'
theorem Z__keeps {n : Nat} (P : Program) (w : World) (K : PySem.W.Frag) (CE CL CT : Addr) {vs : List V} {H : Hp} {Q : VK} {E : XK} (hn : n = 0) (h : sp__keeps P w K CE CL CT n vs H Q E) : False := by
  subst hn
  obtain ⟨a, rw1, x1, x2, tr, r1, r2, rfl, _, _, h, _⟩ := h
  omega
theorem R__keeps (T : Txt P K mg A) : ∀ n : Nat, FnOk P w K mg base CX0 (n + 4) A.f__keeps A.d__keeps ["tree", "rows"] (sp__keeps P w K A.c_End A.c_Lot A.c_Turn n)
  | 0 => ⟨fun vs H Q E h => (Z__keeps P w K A.c_End A.c_Lot A.c_Turn rfl h).elim, fun _ _ _ _ _ _ _ _ _ _ _ _ _ h => (Z__keeps P w K A.c_End A.c_Lot A.c_Turn rfl h).elim⟩
  | n + 1 => by
    have IH := R__keeps T n
    refine (T.F__keeps.ok (k := n + 4) sc__keeps (fun vs H Q E h => ?_) (fun cdv Ar outer s H vs Q E hr h => ?_))
    · obtain ⟨a, rw1, x1, x2, tr, r1, r2, rfl, _⟩ := h
      rfl
    · obtain ⟨a, rw1, x1, x2, tr, r1, r2, rfl, ht, tok, hh, erw, hx1, hx2, sh1, sh2, htm, q⟩ := h

      have cE := T.cl_End
      have cL := T.cl_Lot
      have cT := T.cl_Turn
      have nE := T.na_End_paid
      have nL := T.na_Lot_parts
      have nT1 := T.na_Turn_player
      have nT2 := T.na_Turn_view
      have nT3 := T.na_Turn_parts
      have iE := T.ic_End
      have iL := T.ic_Lot
      have iT := T.ic_Turn

      refine ⟨_, (pss_cons (ps_if (pt_val (pe_callB call_isi (by rfl) T.n_isinstance (by decide +kernel) (pa_cons (pv 0) (pa_cons (pe_glob (v := .ref A.c_End) rfl T.m_End rfl) pa_nil))))
        (pss_one (ps_ret pe_bl))
        pss_nil)
      (pss_cons (ps_if (pt_not (pt_val (pe_callB call_isi (by rfl) T.n_isinstance (by decide +kernel) (pa_cons (pv 0) (pa_cons (pe_glob (v := .ref A.c_Turn) rfl T.m_Turn rfl) pa_nil)))))
        (pss_one (ps_ret (pe_callB (cr_all rfl) (by rfl) T.n_all (by decide +kernel) (pa_cons (pe_lc (own := [("part", 3)]) (g := gName 3) (tt := tYes) rfl sc__keeps.nd (pi_tup (pe_fld (pv 0) rfl)) (blkOk_by (N := ["tree", "rows", "k", "part", "after"]) (sc := defScope s__keeps) (by decide +kernel)) (fun _ _ _ _ _ => (pg_name (i := 3) sc__keeps.nd rfl (Or.inl rfl))) (fun _ _ _ _ _ => by exact pts_nil) (fun _ _ _ _ _ => by exact (pe_call IH (hr.mono (by omega)) rfl T.m__keeps T.F__keeps.kp T.b__keeps .nil pass0 (pa_cons (pv 3) (pa_cons (pv 1) pa_nil))))) pa_nil))))
        pss_nil)
      (pss_cons (ps_if (pt_cmpR (op_neD hr.units) (pe_call (G_last_row T) (hr.mono (by omega)) rfl T.m_last_row T.F_last_row.kp T.b_last_row .nil pass0 (pa_cons (pe_fld (pv 0) rfl) pa_nil)) (pe_ix ix_tup (pv 1) (pe_op op_sub (pe_fld (pv 0) rfl) pe_int) (fun _ _ => rfl)) (nomark _))
        (pss_one (ps_ret pe_bl))
        pss_nil)
      (pss_cons (ps_for PassesOwn.never rfl (pi_enumT rfl T.n_enumerate (pa_cons (pe_fld (pv 0) rfl) pa_nil)) (pg_tup rfl (pgs_cons (pg_name (i := 2) sc__keeps.nd rfl (Or.inl rfl)) (pgs_cons (pg_name (i := 3) sc__keeps.nd rfl (Or.inl rfl)) pgs_nil)))
        (pss_cons (ps_set (i := 4) sc__keeps.nd rfl (Or.inl rfl) (pe_tup (pa_cons (pe_ix ix_tup (pv 1) pe_int (fun _ _ => rfl)) (pa_cons (pe_tup (pa_cons (pe_fld (pv 0) rfl) (pa_cons (pv 2) pa_nil))) pa_nil))))
      (pss_cons (ps_if (pt_cmpR op_eq (pe_fld (pv 0) rfl) pe_int (nomark _))
        (pss_one (ps_set (i := 4) sc__keeps.nd rfl (Or.inl rfl) (pe_tup (pa_cons (pe_tup (pa_cons (pe_fld (pv 0) rfl) (pa_cons (pv 2) pa_nil))) (pa_cons (pe_ix ix_tup (pv 1) pe_int (fun _ _ => rfl)) pa_nil)))))
        pss_nil)
      (pss_one (ps_if (pt_not (pt_val (pe_call IH (hr.mono (by omega)) rfl T.m__keeps T.F__keeps.kp T.b__keeps .nil pass0 (pa_cons (pv 3) (pa_cons (pv 4) pa_nil)))))
        (pss_one (ps_ret pe_bl))
        pss_nil)))))
      (pss_one (ps_ret pe_bl)))))), ?_⟩
      try dsimp only [cxOf, Cx.nox, Cx.wish]
      walk_at "go"
      cases ht with
      | @fin _ dx p e =>
        refine go_isi (.own _) (.base (.ins e cE iE.ha iE.hn iE.htk iE.hm)) T.ki_End_End ?_

        walk_at "go"
        exact q _ (Same.refl _)
      | @lot _ dx t0 xs ps e e2 hs =>
        obtain ⟨pn, tks⟩ : (1 ≤ ps.length ∧ ps.length ≤ 3) ∧ TOks ps := tok
        have xl := trsAt_len hs
        have hg : hgt (.lot ps) = hgts ps + 1 := rfl
        have hti : TItms ps := htm
        refine go_isi (.own _) (.base (.ins e cL iL.ha iL.hn iL.htk iL.hm)) T.ki_Lot_End ?_

        walk_at "go"
        refine go_isi (.own _) (.base (.ins e cL iL.ha iL.hn iL.htk iL.hm)) T.ki_Lot_Turn ?_

        walk_at "go"
        refine ⟨t0, rfl, ⟨_, .of e2⟩, fun D hD => ?_⟩
        refine lc_tup (xs := xs) (fun i H' => Same H H' ∧ H' D = some (.lst (((ps.take i).map fun t => keepB t r1 r2).map V.bl))) ⟨same_new hD, upd_same⟩ ?_ ?_ ?_
        · rintro i H' _ ⟨s, _⟩
          exact .of (s _ _ e2)
        · rintro i x H' hx ⟨s, eD⟩
          have hi := (List.getElem?_eq_some_iff.mp hx).1
          obtain ⟨t, et⟩ : ∃ t, ps[i]? = some t := ⟨_, List.getElem?_eq_getElem (by omega)⟩
          obtain ⟨x', hx', htt⟩ := trsAt_get hs et
          rw [hx] at hx'
          cases hx'
          obtain ⟨ta, rfl⟩ : ∃ ta, x = .ref ta := by cases htt <;> exact ⟨_, rfl⟩
          have mem := List.mem_of_getElem? et
          have hhi := hgts_mem mem
          walk_at "go"
          refine ⟨rfl, ?_⟩
          refine go_yes ?_
          refine iteT ?_
          walk_at "go"
          refine ⟨ta, rw1, x1, x2, t, r1, r2, rfl, trAt_same s htt, tOks_mem tks mem, by omega, s _ _ erw, dp_same s _ _ hx1, dp_same s _ _ hx2, sh1, sh2, tItms_mem hti mem, fun H2 s2 => ?_⟩
          refine ⟨_, s2 _ _ eD, szlt (by rw [List.length_map, List.length_map, List.length_take]; omega), same_but (s.trans s2) hD (But.refl D H2).upd, ?_⟩
          rw [List.take_add_one, et, Option.toList_some, List.map_append, List.map_append]
          exact upd_same
        · rintro H1 ⟨s1, eD⟩
          rw [xl, List.take_length] at eD
          have q : ∀ H', Same H H' → Q (.bl (keepsB ps (fun _ => (r1, r2)) 0)) H' := q
          rw [keepsB_const] at q
          walk_at "go"
          refine go_all (.of eD) ?_
          walk_at "go"
          exact q H1 s1
      | @turn _ dx0 v t0 pl vd xs ps e dv iv e2 hs =>
        obtain ⟨⟨hpl, pn⟩, tks⟩ : ((pl = 1 ∨ pl = 2) ∧ 1 ≤ ps.length ∧ ps.length ≤ 3) ∧ TOks ps := tok
        have xl := trsAt_len hs
        have hg : hgt (.turn pl vd ps) = hgts ps + 1 := rfl
        obtain ⟨⟨hit, hvl⟩, hti⟩ : ((∀ d ∈ vd, Item d) ∧ vd.length ≤ 1000) ∧ TItms ps := htm
        have q : ∀ H', Same H H' → Q (.bl (PyData.eqv (dO (lastRow vd)) (dO (if pl = 1 then r1 else r2)) && keepsB ps (fun k => if pl = 1 then (some (row vd (k : Int)), r2) else (r1, some (row vd (k : Int)))) 0)) H' := q
        generalize hff : (fun (k : Nat) => if pl = 1 then (some (row vd (k : Int)), r2) else (r1, some (row vd (k : Int)))) = ff at *
        have ffi : ∀ i : Nat, ff i = if pl = 1 then (some (row vd (i : Int)), r2) else (r1, some (row vd (i : Int))) := fun i => by rw [← hff]
        clear hff
        obtain ⟨xr, hix, hxr, shr⟩ : ∃ xr, atI [x1, x2] (pl - 1) = some xr ∧ Dp K H xr (dO (if pl = 1 then r1 else r2)) ∧ SeqAt.shaped (dO (if pl = 1 then r1 else r2)) = true := by
          rcases hpl with rfl | rfl
          · exact ⟨x1, at_0, hx1, sh1⟩
          · exact ⟨x2, at_1, hx2, sh2⟩
        have shp : SeqAt.shaped (dO (lastRow vd)) = true := by
          cases hq : lastRow vd with
          | none => decide
          | some r => exact last_shaped hit hq
        refine go_isi (.own _) (.base (.ins e cT iT.ha iT.hn iT.htk iT.hm)) T.ki_Turn_End ?_

        walk_at "go"
        refine go_isi (.own _) (.base (.ins e cT iT.ha iT.hn iT.htk iT.hm)) T.ki_Turn_Turn ?_

        walk_at "go"
        refine ⟨.ref v, vd, rfl, dv, hvl, hit, fun hn => ?_, fun r hr p H2 s2 dr => ?_⟩
        · have s2 := Same.refl H
          have dx : Dp K H .non (dO (lastRow vd)) := by rw [hn]; exact .non
          have eS2 := s2 _ _ e
          have xr2 := dp_same s2 _ _ hxr
          walk_at "go"
          refine go_ixT (.of (s2 _ _ erw)) hix ?_
          walk_at "go"
          refine ⟨_, _, dx, xr2, shp, shr, ?_⟩
          cases hv : PyData.eqv (dO (lastRow vd)) (dO (if pl = 1 then r1 else r2)) with
          | false =>
            rw [hv] at q
            walk_at "go"
            exact q _ s2
          | true =>
            rw [hv, Bool.true_and] at q
            have q : ∀ H', Same H H' → Q (.bl (true && keepsB ps ff 0)) H' := fun H' s => by rw [Bool.true_and]; exact q H' s
            walk_at "go"
            refine ⟨t0, xs, rfl, .of (s2 _ _ e2), ?_⟩
            refine foEnT xs (fun i σ' H' => ∃ (v2 v3 v4 : Option V), σ' = [some (.ref a), some (.ref rw1), v2, v3, v4] ∧ Same H H' ∧ keepsB (ps.take i) ff 0 = true) ⟨_, _, _, rfl, s2, by rw [List.take_zero]; rfl⟩ ?_ ?_ ?_
            · rintro i σ' H' _ ⟨v2, v3, v4, rfl, s, _⟩
              exact .of (s _ _ e2)
            · rintro i y Tt σ' H' hx ⟨v2, v3, v4, rfl, s3, hki⟩ hT
              have hi := (List.getElem?_eq_some_iff.mp hx).1
              obtain ⟨t, et⟩ : ∃ t, ps[i]? = some t := ⟨_, List.getElem?_eq_getElem (by omega)⟩
              obtain ⟨y', hy', htt⟩ := trsAt_get hs et
              rw [hx] at hy'
              cases hy'
              obtain ⟨ta, rfl⟩ : ∃ ta, y = .ref ta := by cases htt <;> exact ⟨_, rfl⟩
              have mem := List.mem_of_getElem? et
              have hhi := hgts_mem mem
              have kt := keepsB_take (f := ff) et
              rw [hki, Bool.true_and] at kt
              have kno := keepsB_no (f := ff) et
              have x1' := same_new (o := .tup [.int (i : Nat), .ref ta]) hT
              have eT : SqT K (upd H' Tt (.tup [.int (i : Nat), .ref ta])) Tt [.int (i : Nat), .ref ta] := .of upd_same
              show gTup K _ _ (.ref Tt) _ (upd H' Tt (.tup [.int (i : Nat), .ref ta])) _
              generalize upd H' Tt (.tup [.int (i : Nat), .ref ta]) = G1 at *
              have s3G := s3.trans x1'
              have eG := s3G _ _ e
              have erG := s3G _ _ erw
              rw [ffi] at kt kno
              refine ⟨Tt, _, rfl, eT, rfl, ?_⟩
              walk_at "go"
              refine ⟨by show 2 ≤ sizeLine; decide, fun t1 n1 => ?_⟩
              have z1 := same_new (o := .tup [.ref v, .int (i : Nat)]) n1
              have y1 : upd G1 t1 (.tup [.ref v, .int (i : Nat)]) t1 = some (.tup [.ref v, .int (i : Nat)]) := upd_same
              generalize upd G1 t1 (.tup [.ref v, .int (i : Nat)]) = G2 at *
              refine ⟨by show 2 ≤ sizeLine; decide, fun t2 n2 => ?_⟩
              have z2 := same_new (o := .tup [x1, .ref t1]) n2
              have y2 : upd G2 t2 (.tup [x1, .ref t1]) t2 = some (.tup [x1, .ref t1]) := upd_same
              generalize upd G2 t2 (.tup [x1, .ref t1]) = G3 at *
              have s3a := s3G.trans (z1.trans z2)
              have eG3 := s3a _ _ e
              have erG3 := s3a _ _ erw
              walk_at "go"
              by_cases hp : pl = 1
              · rw [decide_eq_true hp]
                rw [if_pos hp] at kt kno
                walk_at "go"
                refine ⟨by show 2 ≤ sizeLine; decide, fun t3 n3 => ?_⟩
                have z3 := same_new (o := .tup [.ref v, .int (i : Nat)]) n3
                have y3 : upd G3 t3 (.tup [.ref v, .int (i : Nat)]) t3 = some (.tup [.ref v, .int (i : Nat)]) := upd_same
                generalize upd G3 t3 (.tup [.ref v, .int (i : Nat)]) = G4 at *
                have erG4 := z3 _ _ erG3
                walk_at "go"
                refine ⟨by show 2 ≤ sizeLine; decide, fun t4 n4 => ?_⟩
                have z4 := same_new (o := .tup [.ref t3, x2]) n4
                have y4 : upd G4 t4 (.tup [.ref t3, x2]) t4 = some (.tup [.ref t3, x2]) := upd_same
                generalize upd G4 t4 (.tup [.ref t3, x2]) = G5 at *
                have s5a := s3a.trans (z3.trans z4)
                walk_at "go"
                refine ⟨ta, t4, .ref t3, x2, t, some (row vd (i : Int)), r2, rfl, trAt_same s5a htt, tOks_mem tks mem, by omega, y4, .tup (.of (z4 _ _ y3)) (.cons (dp_same s5a _ _ dv) (.cons (.int _) .nil)), dp_same s5a _ _ hx2, row_shaped hit _, sh2, tItms_mem hti mem, fun H6 s6 => ?_⟩
                cases hb : keepB t (some (row vd (i : Int))) r2 with
                | false =>
                  walk_at "go"
                  have := q H6 (s5a.trans s6)
                  rw [kno hb, Bool.and_false] at this
                  exact this
                | true =>
                  rw [hb] at kt
                  walk_at "go"
                  exact ⟨_, _, _, rfl, s5a.trans s6, kt⟩
              · rw [decide_eq_false hp]
                rw [if_neg hp] at kt kno
                walk_at "go"
                refine ⟨ta, t2, x1, .ref t1, t, r1, some (row vd (i : Int)), rfl, trAt_same s3a htt, tOks_mem tks mem, by omega, y2, dp_same s3a _ _ hx1, .tup (.of (z2 _ _ y1)) (.cons (dp_same s3a _ _ dv) (.cons (.int _) .nil)), sh1, row_shaped hit _, tItms_mem hti mem, fun H6 s6 => ?_⟩
                cases hb : keepB t r1 (some (row vd (i : Int))) with
                | false =>
                  walk_at "go"
                  have := q H6 (s3a.trans s6)
                  rw [kno hb, Bool.and_false] at this
                  exact this
                | true =>
                  rw [hb] at kt
                  walk_at "go"
                  exact ⟨_, _, _, rfl, s3a.trans s6, kt⟩
            · rintro σ' H' ⟨v2, v3, v4, rfl, s, hki⟩
              rw [xl, List.take_length] at hki
              rw [hki, Bool.and_true] at q
              walk_at "go"
              exact q H' s

        · have dx : Dp K H2 (.ref p) (dO (lastRow vd)) := by rw [hr]; exact dr
          have eS2 := s2 _ _ e
          have xr2 := dp_same s2 _ _ hxr
          walk_at "go"
          refine go_ixT (.of (s2 _ _ erw)) hix ?_
          walk_at "go"
          refine ⟨_, _, dx, xr2, shp, shr, ?_⟩
          cases hv : PyData.eqv (dO (lastRow vd)) (dO (if pl = 1 then r1 else r2)) with
          | false =>
            rw [hv] at q
            walk_at "go"
            exact q _ s2
          | true =>
            rw [hv, Bool.true_and] at q
            have q : ∀ H', Same H H' → Q (.bl (true && keepsB ps ff 0)) H' := fun H' s => by rw [Bool.true_and]; exact q H' s
            walk_at "go"
            refine ⟨t0, xs, rfl, .of (s2 _ _ e2), ?_⟩
            refine foEnT xs (fun i σ' H' => ∃ (v2 v3 v4 : Option V), σ' = [some (.ref a), some (.ref rw1), v2, v3, v4] ∧ Same H H' ∧ keepsB (ps.take i) ff 0 = true) ⟨_, _, _, rfl, s2, by rw [List.take_zero]; rfl⟩ ?_ ?_ ?_
            · rintro i σ' H' _ ⟨v2, v3, v4, rfl, s, _⟩
              exact .of (s _ _ e2)
            · rintro i y Tt σ' H' hx ⟨v2, v3, v4, rfl, s3, hki⟩ hT
              have hi := (List.getElem?_eq_some_iff.mp hx).1
              obtain ⟨t, et⟩ : ∃ t, ps[i]? = some t := ⟨_, List.getElem?_eq_getElem (by omega)⟩
              obtain ⟨y', hy', htt⟩ := trsAt_get hs et
              rw [hx] at hy'
              cases hy'
              obtain ⟨ta, rfl⟩ : ∃ ta, y = .ref ta := by cases htt <;> exact ⟨_, rfl⟩
              have mem := List.mem_of_getElem? et
              have hhi := hgts_mem mem
              have kt := keepsB_take (f := ff) et
              rw [hki, Bool.true_and] at kt
              have kno := keepsB_no (f := ff) et
              have x1' := same_new (o := .tup [.int (i : Nat), .ref ta]) hT
              have eT : SqT K (upd H' Tt (.tup [.int (i : Nat), .ref ta])) Tt [.int (i : Nat), .ref ta] := .of upd_same
              show gTup K _ _ (.ref Tt) _ (upd H' Tt (.tup [.int (i : Nat), .ref ta])) _
              generalize upd H' Tt (.tup [.int (i : Nat), .ref ta]) = G1 at *
              have s3G := s3.trans x1'
              have eG := s3G _ _ e
              have erG := s3G _ _ erw
              rw [ffi] at kt kno
              refine ⟨Tt, _, rfl, eT, rfl, ?_⟩
              walk_at "go"
              refine ⟨by show 2 ≤ sizeLine; decide, fun t1 n1 => ?_⟩
              have z1 := same_new (o := .tup [.ref v, .int (i : Nat)]) n1
              have y1 : upd G1 t1 (.tup [.ref v, .int (i : Nat)]) t1 = some (.tup [.ref v, .int (i : Nat)]) := upd_same
              generalize upd G1 t1 (.tup [.ref v, .int (i : Nat)]) = G2 at *
              refine ⟨by show 2 ≤ sizeLine; decide, fun t2 n2 => ?_⟩
              have z2 := same_new (o := .tup [x1, .ref t1]) n2
              have y2 : upd G2 t2 (.tup [x1, .ref t1]) t2 = some (.tup [x1, .ref t1]) := upd_same
              generalize upd G2 t2 (.tup [x1, .ref t1]) = G3 at *
              have s3a := s3G.trans (z1.trans z2)
              have eG3 := s3a _ _ e
              have erG3 := s3a _ _ erw
              walk_at "go"
              by_cases hp : pl = 1
              · rw [decide_eq_true hp]
                rw [if_pos hp] at kt kno
                walk_at "go"
                refine ⟨by show 2 ≤ sizeLine; decide, fun t3 n3 => ?_⟩
                have z3 := same_new (o := .tup [.ref v, .int (i : Nat)]) n3
                have y3 : upd G3 t3 (.tup [.ref v, .int (i : Nat)]) t3 = some (.tup [.ref v, .int (i : Nat)]) := upd_same
                generalize upd G3 t3 (.tup [.ref v, .int (i : Nat)]) = G4 at *
                have erG4 := z3 _ _ erG3
                walk_at "go"
                refine ⟨by show 2 ≤ sizeLine; decide, fun t4 n4 => ?_⟩
                have z4 := same_new (o := .tup [.ref t3, x2]) n4
                have y4 : upd G4 t4 (.tup [.ref t3, x2]) t4 = some (.tup [.ref t3, x2]) := upd_same
                generalize upd G4 t4 (.tup [.ref t3, x2]) = G5 at *
                have s5a := s3a.trans (z3.trans z4)
                walk_at "go"
                refine ⟨ta, t4, .ref t3, x2, t, some (row vd (i : Int)), r2, rfl, trAt_same s5a htt, tOks_mem tks mem, by omega, y4, .tup (.of (z4 _ _ y3)) (.cons (dp_same s5a _ _ dv) (.cons (.int _) .nil)), dp_same s5a _ _ hx2, row_shaped hit _, sh2, tItms_mem hti mem, fun H6 s6 => ?_⟩
                cases hb : keepB t (some (row vd (i : Int))) r2 with
                | false =>
                  walk_at "go"
                  have := q H6 (s5a.trans s6)
                  rw [kno hb, Bool.and_false] at this
                  exact this
                | true =>
                  rw [hb] at kt
                  walk_at "go"
                  exact ⟨_, _, _, rfl, s5a.trans s6, kt⟩
              · rw [decide_eq_false hp]
                rw [if_neg hp] at kt kno
                walk_at "go"
                refine ⟨ta, t2, x1, .ref t1, t, r1, some (row vd (i : Int)), rfl, trAt_same s3a htt, tOks_mem tks mem, by omega, y2, dp_same s3a _ _ hx1, .tup (.of (z2 _ _ y1)) (.cons (dp_same s3a _ _ dv) (.cons (.int _) .nil)), sh1, row_shaped hit _, tItms_mem hti mem, fun H6 s6 => ?_⟩
                cases hb : keepB t r1 (some (row vd (i : Int))) with
                | false =>
                  walk_at "go"
                  have := q H6 (s3a.trans s6)
                  rw [kno hb, Bool.and_false] at this
                  exact this
                | true =>
                  rw [hb] at kt
                  walk_at "go"
                  exact ⟨_, _, _, rfl, s3a.trans s6, kt⟩
            · rintro σ' H' ⟨v2, v3, v4, rfl, s, hki⟩
              rw [xl, List.take_length] at hki
              rw [hki, Bool.and_true] at q
              walk_at "go"
              exact q H' s
end
end K35

namespace K35
open PySem PySem.Spec PyProof.Rows L2 Gx
section
variable {P : Program} {w : World} {K : PySem.W.Frag} {mg : Str → Option Value} {base : Heap} {A : Ad}
def sp__law_changed (P : Program) (w : World) (K : PySem.W.Frag) (CE CL CT : Addr) (n : Nat) : Sp := fun vs H Q _ => ∃ (l p : Addr) (pc vw : V) (st : List Stg) (path : List Int) (place : Option (List Int)) (vd : List PyData), vs = [.ref l, .ref p, pc, vw] ∧ StAt H l st ∧ H p = some (.lst (path.map V.int)) ∧ path.length ≤ st.length ∧ st.length - path.length < n ∧ PathIn st path ∧ PlV H pc place ∧ Dp K H vw (.tuple vd) ∧ Itms vd ∧ ∀ z H', Same H H' → TrAt K CE CL CT H' (.ref z) (chD st place vd (st.length - path.length) path) → Q (.ref z) H'
theorem Z__law_changed {n : Nat} (P : Program) (w : World) (K : PySem.W.Frag) (CE CL CT : Addr) {vs : List V} {H : Hp} {Q : VK} {E : XK} (hn : n = 0) (h : sp__law_changed P w K CE CL CT n vs H Q E) : False := by
  subst hn
  obtain ⟨l, p, pc, vw, st, path, place, vd, rfl, _, _, _, hn, _⟩ := h
  omega
theorem R__law_changed (T : Txt P K mg A) : ∀ n : Nat, FnOk P w K mg base CX0 (n + 5) A.f__law_changed A.d__law_changed ["_law_stages_here", "_law_path", "_law_place", "_law_view_here"] (sp__law_changed P w K A.c_End A.c_Lot A.c_Turn n)
  | 0 => ⟨fun vs H Q E h => (Z__law_changed P w K A.c_End A.c_Lot A.c_Turn rfl h).elim, fun _ _ _ _ _ _ _ _ _ _ _ _ _ h => (Z__law_changed P w K A.c_End A.c_Lot A.c_Turn rfl h).elim⟩
  | n + 1 => by
    have IH := R__law_changed T n
    refine (T.F__law_changed.ok (k := n + 5) sc__law_changed (fun vs H Q E h => ?_) (fun cdv Ar outer s H vs Q E hr h => ?_))
    · obtain ⟨l, p, pc, vw, st, path, place, vd, rfl, _⟩ := h
      rfl
    · obtain ⟨l, p, pc, vw, st, path, place, vd, rfl, hst, hp, hpl, hn, hin, hpc, hvw, him, q⟩ := h
      obtain ⟨va, vxs, rfl, hva, _⟩ := dp_tup hvw
      refine ⟨_, (pss_cons (ps_if (pt_cmpR op_eq (pe_callB k_len (by rfl) T.n_len (by decide +kernel) (pa_cons (pv 1) pa_nil)) (pe_callB k_len (by rfl) T.n_len (by decide +kernel) (pa_cons (pv 0) pa_nil)) (nomark _))
        (pss_one (ps_ret (pe_make T.mk_End (G_End___init__ (w := w) T) (hr.mono (by omega)) rfl T.m_End T.b_End___init__ .nil pass0 (pa_cons pe_int pa_nil))))
        pss_nil)
      (pss_cons (ps_set (i := 4) sc__law_changed.nd rfl (Or.inl rfl) (pe_ix ix_list (pv 0) (pe_callB k_len (by rfl) T.n_len (by decide +kernel) (pa_cons (pv 1) pa_nil)) (fun _ _ => rfl)))
      (pss_cons (ps_set (i := 5) sc__law_changed.nd rfl (Or.inl rfl) (pe_lst pa_nil))
      (pss_cons (ps_for PassesOwn.never rfl (pi_range1 rfl T.n_range (pa_cons (pe_ix ix_tup (pv 4) pe_int (fun _ _ => rfl)) pa_nil)) (pg_name (i := 6) sc__law_changed.nd rfl (Or.inl rfl))
        (pss_one (ps_expr (pe_bm PySem.F.plainAttrs_list PySem.F.slot_list_append PySem.F.type_list_append mt_append (pv 5) (pa_cons (pe_call IH (hr.mono (by omega)) rfl T.m__law_changed T.F__law_changed.kp T.b__law_changed .nil pass0 (pa_cons (pv 0) (pa_cons (pe_op op_cat (pv 1) (pe_lst (pa_cons (pv 6) pa_nil))) (pa_cons (pv 2) (pa_cons (pv 3) pa_nil))))) pa_nil)))))
      (pss_cons (ps_if (pt_cmpR op_eq (pe_ix ix_tup (pv 4) pe_int (fun _ _ => rfl)) pe_int (nomark _))
        (pss_one (ps_ret (pe_make T.mk_Lot (G_Lot___init__ (w := w) T) (hr.mono (by omega)) rfl T.m_Lot T.b_Lot___init__ .nil pass0 (pa_cons (pe_callTy k_tuple_of (by rfl) T.n_tuple (by decide +kernel) (pa_cons (pv 5) pa_nil)) pa_nil))))
        pss_nil)
      (pss_cons (ps_if (pt_cmpR (op_eqD hr.units) (pv 1) (pv 2) (nomark _))
        (pss_one (ps_ret (pe_make T.mk_Turn (G_Turn___init__ (w := w) T) (hr.mono (by omega)) rfl T.m_Turn T.b_Turn___init__ .nil pass0 (pa_cons (pe_ix ix_tup (pv 4) pe_int (fun _ _ => rfl)) (pa_cons (pv 3) (pa_cons (pe_callTy k_tuple_of (by rfl) T.n_tuple (by decide +kernel) (pa_cons (pv 5) pa_nil)) pa_nil))))))
        pss_nil)
      (pss_one (ps_ret (pe_make T.mk_Turn (G_Turn___init__ (w := w) T) (hr.mono (by omega)) rfl T.m_Turn T.b_Turn___init__ .nil pass0 (pa_cons (pe_ix ix_tup (pv 4) pe_int (fun _ _ => rfl)) (pa_cons (pe_call (G__law_asked T) (hr.mono (by omega)) rfl T.m__law_asked T.F__law_asked.kp T.b__law_asked .nil pass0 (pa_cons (pv 0) (pa_cons (pv 1) pa_nil))) (pa_cons (pe_callTy k_tuple_of (by rfl) T.n_tuple (by decide +kernel) (pa_cons (pv 5) pa_nil)) pa_nil)))))))))))), ?_⟩
      try dsimp only [cxOf, Cx.nox, Cx.wish]
      walk_at "go"
      refine go_lenL (.of hp) ?_
      rw [List.length_map]
      walk_at "go"
      obtain ⟨sx, esx, hsl, hsf⟩ := hst.ex
      have h4 := hst.le
      refine go_lenL (.of esx) ?_
      rw [hsl]
      walk_at "go"
      by_cases he : path.length = st.length
      · rw [decide_eq_true (show (path.length : Int) = st.length by omega)]
        walk_at "go"
        intro z dz hz hdz hne
        refine ⟨z, dz, _, rfl, upd_same, fun H2 B e => ⟨rfl, ?_⟩⟩
        have s2 : Same H H2 := same_made hz hdz fun c o n e => B c o n e
        refine q z H2 s2 ?_
        rw [show st.length - path.length = 0 by omega]
        exact .fin e
      · have hlt : path.length < st.length := by omega
        rw [decide_eq_false (show ¬ (path.length : Int) = st.length by omega)]
        obtain ⟨s, es⟩ : ∃ s, st[path.length]? = some s := ⟨_, List.getElem?_eq_getElem hlt⟩
        obtain ⟨xs, t, el, hxl, it, et⟩ := hst.get es
        have sn := hst.ok s (List.mem_of_getElem? es)
        obtain ⟨f, hf⟩ : ∃ f, st.length - path.length = f + 1 := ⟨st.length - path.length - 1, by omega⟩
        rw [hf, chD_at es] at q
        walk_at "go"
        refine go_lenL (.of hp) ?_
        rw [List.length_map]
        walk_at "go"
        refine go_ixL (.of el) it ?_
        walk_at "go"
        refine ⟨by show 0 ≤ sizeLine; decide, fun L nL => ?_⟩
        have s0 := same_new (o := .lst []) nL
        have eL0 : upd H L (.lst []) L = some (.lst []) := upd_same
        generalize upd H L (.lst []) = H0 at *
        have et0 := s0 _ _ et
        walk_at "go"
        refine foR1 (fun i σ' H' => ∃ (v6 : Option V) (ys : List V), σ' = [some (.ref l), some (.ref p), some pc, some (.ref va), some (.ref t), some (.ref L), v6] ∧ Same H H' ∧ H' L = some (.lst ys) ∧ TrsAt K A.c_End A.c_Lot A.c_Turn H' ys ((List.range i).map fun (j : Nat) => chD st place vd f (path ++ [(j : Int)]))) (by omega) ⟨_, [], rfl, s0, eL0, .nil⟩ ?_ ?_
        · rintro i σ' H1 hi ⟨v6, ys, rfl, s1, eL, hys⟩
          have yl := trsAt_len hys
          rw [List.length_map, List.length_range] at yl
          walk_at "go"
          refine ⟨.inl ⟨rfl, _, .inl (.inl eL)⟩, ?_⟩
          walk_at "go"
          refine ⟨by show 1 ≤ sizeLine; decide, fun o no => ?_⟩
          have x1 := same_new (o := .lst [.int (i : Nat)]) no
          have y1 : upd H1 o (.lst [.int (i : Nat)]) o = some (.lst [.int (i : Nat)]) := upd_same
          generalize upd H1 o (.lst [.int (i : Nat)]) = G1 at *
          refine go_cat (x1 _ _ (s1 _ _ hp)) y1 (sz (by simp; omega)) fun nw nn => ?_
          have x2 := same_new (o := .lst (path.map V.int ++ [.int (i : Nat)])) nn
          have y2 : upd G1 nw (.lst (path.map V.int ++ [.int (i : Nat)])) nw = some (.lst ((path ++ [(i : Int)]).map V.int)) := by rw [upd_same, List.map_append]; rfl
          generalize upd G1 nw (.lst (path.map V.int ++ [.int (i : Nat)])) = G2 at *
          have x12 := x1.trans x2
          have s12 := s1.trans x12
          walk_at "go"
          refine ⟨l, nw, pc, .ref va, st, path ++ [(i : Int)], place, vd, rfl, hst.same s12, y2, by rw [List.length_append, List.length_singleton]; omega, by rw [List.length_append, List.length_singleton]; omega, path_snoc hin es ⟨by omega, hi⟩, hpc.same s12, dp_same s12 _ _ hvw, him, fun z G3 x3 hz => ?_⟩
          have ef : st.length - (path ++ [(i : Int)]).length = f := by rw [List.length_append, List.length_singleton]; omega
          rw [ef] at hz
          have x13 := x12.trans x3
          have eL3 := x13 _ _ eL
          walk_at "go"
          refine go_append eL3 (szlt (by omega)) ?_
          walk_at "go"
          have o5 : Off (fun c => c = L) G3 (upd G3 L (.lst (ys ++ [.ref z]))) := But.off ((But.refl L G3).upd)
          have nS := noT_lst eL3
          have nI : ∀ c C dx fs, c = L → G3 c ≠ some (.ins C dx fs) := fun c C dx fs z => by rw [z, eL3]; intro z; cases z
          refine ⟨_, ys ++ [.ref z], rfl, same_mut (s1.trans x13) nL, upd_same, ?_⟩
          rw [List.range_succ, List.map_append]
          exact trsAt_snoc (trAt_off o5 nS nI _ _ hz) (trsAt_off o5 nS nI _ _ (trsAt_same x13 hys))
        · rintro σ' H1 ⟨v6, ys, rfl, s1, eL, hys⟩
          have et1 := s1 _ _ et
          walk_at "go"
          by_cases hw : s.w = 0
          · rw [if_pos hw] at q
            rw [decide_eq_true hw]
            walk_at "go"
            refine ⟨L, ys, rfl, .inl ⟨.of eL, fun tp ntp => ?_⟩⟩
            have x1 := same_new (o := .tup ys) ntp
            have y1 : upd H1 tp (.tup ys) tp = some (.tup ys) := upd_same
            generalize upd H1 tp (.tup ys) = G1 at *
            walk_at "go"
            intro z dz hz hdz hne
            refine ⟨z, dz, _, rfl, upd_same, fun H2 B e => ⟨rfl, ?_⟩⟩
            have s2 : Same G1 H2 := same_made hz hdz fun c o n e => B c o n e
            exact q z H2 (s1.trans (x1.trans s2)) (.lot e (s2 _ _ y1) (trsAt_same (x1.trans s2) hys))
          · rw [if_neg hw] at q
            rw [decide_eq_false hw]
            walk_at "go"
            refine pl_eq (s1 _ _ hp) (hpc.same s1) ?_
            walk_at "go"
            unfold viewC at q
            by_cases hpp : some path = place
            · rw [decide_eq_true hpp]
              rw [if_pos hpp] at q
              walk_at "go"
              refine ⟨L, ys, rfl, .inl ⟨.of eL, fun tp ntp => ?_⟩⟩
              have x1 := same_new (o := .tup ys) ntp
              have y1 : upd H1 tp (.tup ys) tp = some (.tup ys) := upd_same
              generalize upd H1 tp (.tup ys) = G1 at *
              walk_at "go"
              intro z dz hz hdz hne
              refine ⟨z, dz, _, _, _, rfl, upd_same, fun H2 B e => ⟨rfl, ?_⟩⟩
              have s2 : Same G1 H2 := same_made hz hdz fun c o n e => B c o n e
              exact q z H2 (s1.trans (x1.trans s2)) (.turn e (dp_same (s1.trans (x1.trans s2)) _ _ hvw) him (s2 _ _ y1) (trsAt_same (x1.trans s2) hys))
            · rw [decide_eq_false hpp]
              rw [if_neg hpp] at q
              walk_at "go"
              refine ⟨l, p, st, path, s, rfl, hst.same s1, s1 _ _ hp, es, fun v G0 x0 dv => ?_⟩
              walk_at "go"
              refine ⟨L, ys, rfl, .inl ⟨.of (x0 _ _ eL), fun tp ntp => ?_⟩⟩
              have x1 := same_new (o := .tup ys) ntp
              have y1 : upd G0 tp (.tup ys) tp = some (.tup ys) := upd_same
              generalize upd G0 tp (.tup ys) = G1 at *
              walk_at "go"
              intro z dz hz hdz hne
              refine ⟨z, dz, _, _, _, rfl, upd_same, fun H2 B e => ⟨rfl, ?_⟩⟩
              have s2 : Same G1 H2 := same_made hz hdz fun c o n e => B c o n e
              exact q z H2 (s1.trans (x0.trans (x1.trans s2))) (.turn e (dp_same (x1.trans s2) _ _ dv) ask_itms (s2 _ _ y1) (trsAt_same (x0.trans (x1.trans s2)) hys))
end
end K35

namespace K35
open PySem PySem.Spec PyProof.Rows L2 Gx
section
variable {P : Program} {w : World} {K : PySem.W.Frag} {mg : Str → Option Value} {base : Heap} {A : Ad}
def sp_remembers (P : Program) (w : World) (K : PySem.W.Frag) (CE CL CT : Addr) : Sp := fun vs H Q _ => ∃ (a : Addr) (tr : Tr), vs = [.ref a] ∧ TrAt K CE CL CT H (.ref a) tr ∧ TOk tr ∧ hgt tr < 6 ∧ TItm tr ∧ ∀ H', Same H H' → Q (.bl (keepB tr none none)) H'
theorem G_remembers (T : Txt P K mg A) : FnOk P w K mg base CX0 11 A.f_remembers A.d_remembers ["tree"] (sp_remembers P w K A.c_End A.c_Lot A.c_Turn) := by
  refine (T.F_remembers.ok (k := 10) sc_remembers (fun vs H Q E h => ?_) (fun cdv Ar outer s H vs Q E hr h => ?_))
  · obtain ⟨a, tr, rfl, _⟩ := h
    rfl
  · obtain ⟨a, tr, rfl, ht, tok, hh, hti, q⟩ := h
    refine ⟨_, (pss_one (ps_ret (pe_call (R__keeps T 6) (hr.mono (by decide)) rfl T.m__keeps T.F__keeps.kp T.b__keeps .nil pass0 (pa_cons (pv 0) (pa_cons (pe_tup (pa_cons pe_non (pa_cons pe_non pa_nil))) pa_nil))))), ?_⟩
    try dsimp only [cxOf, Cx.nox, Cx.wish]
    walk_at "go"
    refine ⟨by show 2 ≤ sizeLine; decide, fun t nt => ?_⟩
    have s1 := same_new (o := .tup [.non, .non]) nt
    have e1 : upd H t (.tup [.non, .non]) t = some (.tup [.non, .non]) := upd_same
    generalize upd H t (.tup [.non, .non]) = H1 at *
    walk_at "go"
    exact ⟨a, t, .non, .non, tr, none, none, rfl, trAt_same s1 ht, tok, hh, e1, .non, .non, by decide, by decide, hti, fun H2 s2 => q H2 (s1.trans s2)⟩
end
end K35

namespace K35
open PySem PySem.Spec PyProof.Rows L2 Gx
section
variable {P : Program} {w : World} {K : PySem.W.Frag} {mg : Str → Option Value} {base : Heap} {A : Ad}
def sp_law (K : PySem.W.Frag) : Sp := fun vs H Q _ => ∃ (a : Addr) (ns : List Int), vs = [.ref a] ∧ SqL K H a (ns.map V.int) ∧ ns.length ≤ 63 ∧ ∀ H', Q (.bl true) H'
theorem G_law (T : Txt P K mg A) : FnOk P w K mg base CX0 12 A.f_law A.d_law ["_law_script"] (sp_law K) := by
  refine (T.F_law.ok (k := 11) sc_law (fun vs H Q E h => ?_) (fun cdv Ar outer s H vs Q E hr h => ?_))
  · obtain ⟨a, ns, rfl, _⟩ := h
    rfl
  · obtain ⟨a, ns, rfl, hs, hl, q⟩ := h
    refine ⟨_, (pss_cons (ps_set (i := 1) sc_law.nd rfl (Or.inl rfl) (pe_call (G__law_stages T) (hr.mono (by decide)) rfl T.m__law_stages T.F__law_stages.kp T.b__law_stages .nil pass0 (pa_cons (pv 0) (pa_cons pe_int pa_nil))))
      (pss_cons (ps_set (i := 2) sc_law.nd rfl (Or.inl rfl) (pe_lst pa_nil))
      (pss_cons (ps_for PassesOwn.never rfl (pi_list (pe_call (G__law_paths T) (hr.mono (by decide)) rfl T.m__law_paths T.F__law_paths.kp T.b__law_paths .nil pass0 (pa_cons (pv 1) pa_nil))) (pg_name (i := 3) sc_law.nd rfl (Or.inl rfl))
        (pss_one (ps_for PassesOwn.never rfl (pi_range1 rfl T.n_range (pa_cons (pe_callB k_len (by rfl) T.n_len (by decide +kernel) (pa_cons (pv 1) pa_nil)) pa_nil)) (pg_name (i := 4) sc_law.nd rfl (Or.inl rfl))
        (pss_one (ps_if (PW.pt (pw_and (pt_cmpR op_ne (pe_ix ix_tup (pe_ix ix_list (pv 1) (pv 4) (fun _ _ => rfl)) pe_int (fun _ _ => rfl)) pe_int (nomark _)) (pw_and1 (pt_cmpR (op_notInD (room65 hr)) (pe_slice sl_list (pv 3) po_none (po_some (pv 4))) (pv 2) (by rfl)))))
        (pss_one (ps_expr (pe_bm PySem.F.plainAttrs_list PySem.F.slot_list_append PySem.F.type_list_append mt_append (pv 2) (pa_cons (pe_slice sl_list (pv 3) po_none (po_some (pv 4))) pa_nil))))
        pss_nil)))))
      (pss_cons (ps_if (pt_not (pt_val (pe_call (G_remembers (w := w) T) (hr.mono (by decide)) rfl T.m_remembers T.F_remembers.kp T.b_remembers .nil pass0 (pa_cons (pe_call (R__law_changed T 5) (hr.mono (by decide)) rfl T.m__law_changed T.F__law_changed.kp T.b__law_changed .nil pass0 (pa_cons (pv 1) (pa_cons (pe_lst pa_nil) (pa_cons pe_non (pa_cons (pe_tup pa_nil) pa_nil))))) pa_nil))))
        (pss_one (ps_ret pe_bl))
        pss_nil)
      (pss_cons (ps_if (pt_cmpR op_eq (pe_callB k_len (by rfl) T.n_len (by decide +kernel) (pa_cons (pv 2) pa_nil)) pe_int (nomark _))
        (pss_one (ps_ret pe_bl))
        pss_nil)
      (pss_cons (ps_set (i := 5) sc_law.nd rfl (Or.inl rfl) (pe_call (G__law_cell T) (hr.mono (by decide)) rfl T.m__law_cell T.F__law_cell.kp T.b__law_cell .nil pass0 (pa_cons (pv 0) (pa_cons pe_int pa_nil))))
      (pss_cons (ps_set (i := 6) sc_law.nd rfl (Or.inl rfl) (pe_ix ix_list (pv 2) (pe_op op_mod (pe_callTy k_int1 (by rfl) T.n_int (by decide +kernel) (pa_cons (pe_call (G__law_cell T) (hr.mono (by decide)) rfl T.m__law_cell T.F__law_cell.kp T.b__law_cell .nil pass0 (pa_cons (pv 0) (pa_cons pe_int pa_nil))) pa_nil)) (pe_callB k_len (by rfl) T.n_len (by decide +kernel) (pa_cons (pv 2) pa_nil))) (fun _ _ => rfl)))
      (pss_cons (ps_set (i := 7) sc_law.nd rfl (Or.inl rfl) (pe_call (G__law_spoilt T) (hr.mono (by decide)) rfl T.m__law_spoilt T.F__law_spoilt.kp T.b__law_spoilt .nil pass0 (pa_cons (pe_call (G__law_asked T) (hr.mono (by decide)) rfl T.m__law_asked T.F__law_asked.kp T.b__law_asked .nil pass0 (pa_cons (pv 1) (pa_cons (pv 6) pa_nil))) (pa_cons (pe_op op_fdiv (pv 5) pe_int) pa_nil))))
      (Evl.pss_cut (ps_if (pt_cmpR op_eq (pe_op op_mod (pe_callTy k_int1 (by rfl) T.n_int (by decide +kernel) (pa_cons (pv 5) pa_nil)) pe_int) pe_int (nomark _))
        (pss_cons (ps_set (i := 8) sc_law.nd rfl (Or.inl rfl) (pe_ix ix_list (pv 2) (pe_op op_mod (pe_op op_fdiv (pv 5) pe_int) (pe_callB k_len (by rfl) T.n_len (by decide +kernel) (pa_cons (pv 2) pa_nil))) (fun _ _ => rfl)))
      (pss_one (ps_if (pt_cmpR op_eq (pe_ix ix_tup (pe_ix ix_list (pv 1) (pe_callB k_len (by rfl) T.n_len (by decide +kernel) (pa_cons (pv 8) pa_nil)) (fun _ _ => rfl)) pe_int (fun _ _ => rfl)) (pe_ix ix_tup (pe_ix ix_list (pv 1) (pe_callB k_len (by rfl) T.n_len (by decide +kernel) (pa_cons (pv 6) pa_nil)) (fun _ _ => rfl)) pe_int (fun _ _ => rfl)) (nomark _))
        (pss_one (ps_set (i := 7) sc_law.nd rfl (Or.inl rfl) (pe_call (G__law_asked T) (hr.mono (by decide)) rfl T.m__law_asked T.F__law_asked.kp T.b__law_asked .nil pass0 (pa_cons (pv 1) (pa_cons (pv 8) pa_nil)))))
        pss_nil)))
        pss_nil)
      (pss_one (ps_ret (pe_call (G__law_bool T) (hr.mono (by decide)) rfl T.m__law_bool T.F__law_bool.kp T.b__law_bool .nil pass0 (pa_cons (pe_call (G_remembers (w := w) T) (hr.mono (by decide)) rfl T.m_remembers T.F_remembers.kp T.b_remembers .nil pass0 (pa_cons (pe_call (R__law_changed T 5) (hr.mono (by decide)) rfl T.m__law_changed T.F__law_changed.kp T.b__law_changed .nil pass0 (pa_cons (pv 1) (pa_cons (pe_lst pa_nil) (pa_cons (pv 6) (pa_cons (pv 7) pa_nil))))) pa_nil)) (pa_cons (pe_call (G__law_keeps T) (hr.mono (by decide)) rfl T.m__law_keeps T.F__law_keeps.kp T.b__law_keeps .nil pass0 (pa_cons (pv 1) (pa_cons (pv 6) (pa_cons (pv 7) pa_nil)))) pa_nil)))))))))))))), ?_⟩
    try dsimp only [cxOf, Cx.nox, Cx.wish]
    walk_at "go"
    refine ⟨a, ns, 24, rfl, hs, fun ls st H1 s1 n1 hst hpr => ?_⟩
    have h4 := hst.le
    have ok3 : ∀ s ∈ st, 1 ≤ s.n ∧ s.n ≤ 3 := fun s h => ⟨(hst.ok s h).2.2.1, (hst.ok s h).2.2.2.1⟩
    have okw : ∀ s ∈ st, 0 ≤ s.w ∧ s.w ≤ 2 := fun s h => ⟨(hst.ok s h).1, (hst.ok s h).2.1⟩
    have hpr := hpr (by decide)
    have pcard := paths_card ok3
    obtain ⟨sx, esx, hsl, hsf⟩ := hst.ex
    walk_at "go"
    refine ⟨by show 0 ≤ sizeLine; decide, fun TL nTL => ?_⟩
    have s2 := same_new (o := .lst []) nTL
    have eTL : upd H1 TL (.lst []) TL = some (.lst []) := upd_same
    generalize upd H1 TL (.lst []) = H2 at *
    walk_at "go"
    refine ⟨ls, st, rfl, hst.same s2, fun r H3 s3 hps => ?_⟩
    obtain ⟨px, epx, pxl, pxf⟩ := hps.ex
    have s13 := s2.trans s3
    have eTL3 := s3 _ _ eTL
    have rTL : r ≠ TL := fun z => by have := hps.nb; rw [z, eTL] at this; cases this
    walk_at "go"
    refine foL px (fun i σ' H' => ∃ (v3 v4 : Option V) (ts : List (List Int)), σ' = [some (.ref a), some (.ref ls), some (.ref TL), v3, v4, none, none, none, none] ∧ Same H1 H' ∧ But TL H3 H' ∧ TnAt st H' TL ts ∧ ts.length ≤ 4 * i) ⟨_, _, [], rfl, s13, But.refl _ _, ⟨⟨[], eTL3, rfl, fun k t h => by simp at h⟩, fun t h => nomatch h⟩, Nat.zero_le _⟩ ?_ ?_ ?_
    · rintro i σ' H' _ ⟨v3, v4, ts, rfl, _, B, _⟩
      exact .of (B _ _ rTL epx)
    · rintro i x σ' H4 hx ⟨v3, v4, ts, rfl, s14, B4, hT, hTl⟩
      have hi := (List.getElem?_eq_some_iff.mp hx).1
      obtain ⟨p, ep⟩ : ∃ p, (pathsD st)[i]? = some p := ⟨_, List.getElem?_eq_getElem (by omega)⟩
      obtain ⟨pa, e1, n2, epa⟩ := pxf i p ep
      rw [hx] at e1
      cases e1
      have paT : pa ≠ TL := fun z => by rw [z, eTL] at n2; cases n2
      have plen := pStep_mem (st := st) (k := st.length) (Nat.le_refl _) p (List.mem_of_getElem? ep)
      walk_at "go"
      refine go_lenL (.of (s14 _ _ esx)) ?_
      rw [hsl]
      walk_at "go"
      refine foR1 (fun k σ' H' => ∃ (v4 : Option V) (ts : List (List Int)), σ' = [some (.ref a), some (.ref ls), some (.ref TL), some (.ref pa), v4, none, none, none, none] ∧ Same H1 H' ∧ But TL H3 H' ∧ TnAt st H' TL ts ∧ ts.length ≤ 4 * i + k) (by omega) ⟨_, ts, rfl, s14, B4, hT, by omega⟩ ?_ ?_
      · rintro k σ' H5 hk ⟨v4, ts, rfl, s15, B5, hT, hTl⟩
        have hk2 : k < st.length := by omega
        obtain ⟨s, es⟩ : ∃ s, st[k]? = some s := ⟨_, List.getElem?_eq_getElem hk2⟩
        obtain ⟨xs, t0, el, hxl, it, et⟩ := (hst.same s15).get es
        have epa5 := B5 _ _ paT epa
        have ecut : cutV (p.map V.int) none (some (k : Int)) = (p.take k).map V.int := by
          unfold cutV
          have h2 : HT.sIx (p.map V.int).length (p.map V.int).length (some (k : Int)) = min k (p.map V.int).length := HT.sIx_nat _ _ k
          rw [h2]
          show List.take (min k (p.map V.int).length - 0) ((p.map V.int).drop 0) = _
          rw [List.drop_zero, Nat.sub_zero, List.length_map, Nat.min_eq_left (by omega), List.map_take]
        have tl : (p.take k).length = k := by rw [List.length_take]; omega
        walk_at "go"
        refine go_ixL (.of el) it ?_
        walk_at "go"
        by_cases hw0 : s.w = 0
        · rw [decide_eq_true hw0]
          walk_at "go"
          exact ⟨_, ts, rfl, s15, B5, hT, by omega⟩
        rw [decide_eq_false hw0]
        walk_at "go"
        refine go_slL (.of epa5) fun ca nc => ?_
        rw [ecut]
        have z1 := same_new (o := .lst ((p.take k).map V.int)) nc
        have y1 : upd H5 ca (.lst ((p.take k).map V.int)) ca = some (.lst ((p.take k).map V.int)) := upd_same
        generalize upd H5 ca (.lst ((p.take k).map V.int)) = G0 at *
        have B0 : But TL H3 G0 := fun c o n e => z1 _ _ (B5 c o n e)
        have hT0 := hT.same z1
        walk_at "go"
        refine ⟨_, _, dp_ints y1, hT0.dp, ints_shaped _, lists_shaped ts, ?_⟩
        refine ⟨_, rfl, ?_⟩
        cases hin : (ts.map fun t => PyData.list (t.map PyData.int)).any fun z => PyData.eqv z (.list ((p.take k).map PyData.int)) with
        | true =>
          walk_at "go"
          exact ⟨_, ts, rfl, s15.trans z1, B0, hT0, by omega⟩
        | false =>
          obtain ⟨us, eus, usl, _⟩ := hT0.ex
          walk_at "go"
          refine ⟨.inl ⟨rfl, _, .inl (.inl eus)⟩, ?_⟩
          walk_at "go"
          refine go_slL (.of (z1 _ _ epa5)) fun cb nb => ?_
          rw [ecut]
          have z2 := same_new (o := .lst ((p.take k).map V.int)) nb
          have y2 : upd G0 cb (.lst ((p.take k).map V.int)) cb = some (.lst ((p.take k).map V.int)) := upd_same
          have cbT : cb ≠ TL := fun z => by rw [z, eus] at nb; cases nb
          generalize upd G0 cb (.lst ((p.take k).map V.int)) = G1 at *
          have hT1 := hT0.same z2
          have eus1 := z2 _ _ eus
          walk_at "go"
          refine go_append eus1 (szlt (by omega)) ?_
          walk_at "go"
          exact ⟨_, ts ++ [p.take k], rfl, same_but (s15.trans (z1.trans z2)) nTL (But.refl TL G1).upd, fun c o n e => by rw [upd_ne n]; exact z2 _ _ (B0 c o n e), hT1.snoc eus1 y2 cbT ⟨s, by rw [tl]; exact es⟩, by rw [List.length_append, List.length_singleton]; omega⟩
      · rintro σ' H5 ⟨v4, ts, rfl, s15, B5, hT, hTl⟩
        exact ⟨_, _, ts, rfl, s15, B5, hT, by omega⟩
    rintro σ' H4 ⟨v3, v4, ts, rfl, s14, B4, hT, hTl⟩
    walk_at "go"
    refine ⟨by show 0 ≤ sizeLine; decide, fun p0 np0 => ?_⟩
    have s5 := same_new (o := .lst []) np0
    have ep0 : upd H4 p0 (.lst []) p0 = some (.lst (([] : List Int).map V.int)) := upd_same
    generalize upd H4 p0 (.lst []) = H5 at *
    walk_at "go"
    refine ⟨by show 0 ≤ sizeLine; decide, fun t0 nt0 => ?_⟩
    have s6 := same_new (o := .tup []) nt0
    have et0 : upd H5 t0 (.tup []) t0 = some (.tup []) := upd_same
    generalize upd H5 t0 (.tup []) = H6 at *
    have s16 := s14.trans (s5.trans s6)
    have no := ch_ok (place := none) (vd := []) okw ok3 (fun d h => (nomatch h)) (by decide) h4 st.length [] (by simp)
    walk_at "go"
    refine ⟨ls, p0, .non, .ref t0, st, [], none, [], rfl, hst.same s16, s6 _ _ ep0, Nat.zero_le _, by rw [List.length_nil]; omega, fun j x s h => by simp at h, rfl, .tup (.of et0) .nil, itms (fun d h => (nomatch h)), fun z H7 s7 hz => ?_⟩
    rw [List.length_nil, Nat.sub_zero] at hz
    walk_at "go"
    refine ⟨z, _, rfl, hz, no.1, by omega, no.2.2, fun H8 s8 => ?_⟩
    have kt : keepB (chD st none [] st.length []) none none = true := by
      rw [chD_none]
      exact keep_of _ none none (fun r h => by cases h) (fun r h => by cases h) (node_keep (paid := []) okw h4 ok3 st.length [] (by simp))
    rw [kt]
    have s78 := s7.trans s8
    have s18 := s16.trans s78
    have hT8 := hT.same (s5.trans (s6.trans s78))
    obtain ⟨us, eus, usl, usf⟩ := hT8.ex
    clear hz no kt
    walk_at "go"
    refine go_lenL (.of eus) ?_
    walk_at "go"
    by_cases hz : (us.length : Int) = 0
    · rw [decide_eq_true hz]
      walk_at "go"
      exact q _
    rw [decide_eq_false hz]
    have pick : ∀ c : Int, ∃ (i : Nat) (t : List Int) (qa : Addr) (s : Stg), c % (us.length : Int) = (i : Int) ∧ us[i]? = some (.ref qa) ∧ H8 qa = some (.lst (t.map V.int)) ∧ st[t.length]? = some s ∧ (askD st t s).length ≤ 20 := fun c => by
      have p := Int.emod_nonneg c hz
      have p2 := Int.emod_lt_of_pos c (show 0 < (us.length : Int) by omega)
      obtain ⟨t, et⟩ : ∃ t, ts[(c % (us.length : Int)).toNat]? = some t := ⟨_, List.getElem?_eq_getElem (by omega)⟩
      obtain ⟨qa, e1, _, eqa⟩ := usf _ t et
      obtain ⟨s, es⟩ := hT8.ok t (List.mem_of_getElem? et)
      have mz := (mItem_ok (pl := s.w) (p := t) (k := t.length) h4 ok3 (Nat.le_refl _) (by unfold mItem; rw [es]; exact if_pos rfl)).z
      rw [List.take_length] at mz
      exact ⟨(c % (us.length : Int)).toNat, t, qa, s, by omega, e1, eqa, es, mz⟩
    walk_at "go"
    refine ⟨a, ns, 2, rfl, (s1.trans s18).seq hs, by decide, ?_⟩
    walk_at "go"
    refine ⟨a, ns, 1, rfl, (s1.trans s18).seq hs, by decide, ?_⟩
    walk_at "go"
    refine go_lenL (.of eus) ?_
    walk_at "go"
    obtain ⟨i, t, qa, s, hi, eu, eqa, es, alen⟩ := pick (ns.getD (Int.toNat 1) 0)
    rw [hi]
    refine go_ixL (.of eus) (atI_nat eu) ?_
    walk_at "go"
    refine ⟨ls, qa, st, t, s, rfl, hst.same s18, eqa, es, fun v H9 s9 dv => ?_⟩
    walk_at "go"
    refine ⟨.ref v, _, askD st t s, rfl, dv, fun d h => ⟨ask_item d h, ask_itm d h⟩, by omega, fun x vd' H10 s10 dx hI hlv => ?_⟩
    have s810 := s9.trans s10
    walk_at "go"
    refine go_cut (fun σ' H' => ∃ (sv : V) (vd2 : List PyData) (v8 : Option V), σ' = [some (.ref a), some (.ref ls), some (.ref TL), v3, v4, some (.int (ns.getD (Int.toNat 2) 0)), some (.ref qa), some sv, v8] ∧ Same H10 H' ∧ Dp K H' sv (.tuple vd2) ∧ (∀ d ∈ vd2, Item d ∧ Itm d) ∧ vd2.length ≤ 1000) ?_ ?_
    · walk_at "go"
      walk_at "br"
      · intro hb
        walk_at "go"
        refine go_lenL (.of (s810 _ _ eus)) ?_
        walk_at "go"
        obtain ⟨i2, t2, qb, s2', hi2, eu2, eqb, es2, alen2⟩ := pick (ns.getD (Int.toNat 2) 0 / 2)
        rw [hi2]
        refine go_ixL (.of (s810 _ _ eus)) (atI_nat eu2) ?_
        have st10 := hst.same (s18.trans s810)
        obtain ⟨xs1, w1, el1, hxl1, it1, et1⟩ := st10.get es
        obtain ⟨xs2, w2, el2, hxl2, it2, et2⟩ := st10.get es2
        walk_at "go"
        refine go_lenL (.of (s810 _ _ eqb)) ?_
        rw [List.length_map]
        walk_at "go"
        refine go_ixL (.of el2) it2 ?_
        walk_at "go"
        refine go_lenL (.of (s810 _ _ eqa)) ?_
        rw [List.length_map]
        walk_at "go"
        refine go_ixL (.of el1) it1 ?_
        walk_at "go"
        by_cases hww : s2'.w = s.w
        · rw [decide_eq_true hww]
          walk_at "go"
          refine ⟨ls, qb, st, t2, s2', rfl, st10, s810 _ _ eqb, es2, fun v2 H11 s11 dv2 => ?_⟩
          walk_at "go"
          exact ⟨_, askD st t2 s2', _, rfl, s11, dv2, fun d h => ⟨ask_item d h, ask_itm d h⟩, by omega⟩
        · rw [decide_eq_false hww]
          walk_at "go"
          exact ⟨x, vd', _, rfl, Same.refl _, dx, hI, hlv⟩
      · intro hb
        walk_at "go"
        exact ⟨x, vd', _, rfl, Same.refl _, dx, hI, hlv⟩
    rintro σ' H11 ⟨sv, vd2, v8, rfl, s11, dsv, hI2, hl2⟩
    have no := ch_ok (place := some t) (vd := vd2) okw ok3 (fun d h => (hI2 d h).1) hl2 h4 st.length [] (by simp)
    have s111 := s18.trans (s810.trans s11)
    have eqa11 := s11 _ _ (s810 _ _ eqa)
    walk_at "go"
    refine ⟨by show 0 ≤ sizeLine; decide, fun p1 np1 => ?_⟩
    have s12 := same_new (o := .lst []) np1
    have ep1 : upd H11 p1 (.lst []) p1 = some (.lst (([] : List Int).map V.int)) := upd_same
    generalize upd H11 p1 (.lst []) = H12 at *
    walk_at "go"
    refine ⟨ls, p1, .ref qa, sv, st, [], some t, vd2, rfl, hst.same (s111.trans s12), ep1, Nat.zero_le _, by rw [List.length_nil]; omega, fun j x s h => by simp at h, ⟨qa, rfl, s12 _ _ eqa11⟩, dp_same s12 _ _ dsv, itms fun d h => (hI2 d h).2, fun z H13 s13' hz => ?_⟩
    rw [List.length_nil, Nat.sub_zero] at hz
    walk_at "go"
    refine ⟨z, _, rfl, hz, no.1, by omega, no.2.2, fun H14 s14' => ?_⟩
    rw [keep_law okw ok3]
    have s1114 := s12.trans (s13'.trans s14')
    walk_at "go"
    refine ⟨ls, .ref qa, sv, st, some t, vd2, rfl, hst.same (s111.trans s1114), ⟨qa, rfl, s1114 _ _ eqa11⟩, dp_same s1114 _ _ dsv, fun d h => (hI2 d h).1, hl2, fun H15 s15 => ?_⟩
    walk_at "go"
    exact ⟨_, rfl, q _⟩
end
end K35

set_option pp.maxSteps 60
namespace K35
open PySem L2 Gx
theorem all_mk {P : Program} {w : World} {K : PySem.W.Frag} {h : Heap} {mg : Str → Option Value} {f_End___init__ f_Lot___init__ f_Turn___init__ f_last_row f__keeps f_remembers f__law_cell f__law_row f__law_stages f__law_paths f__law_view f__law_asked f__law_changed f__law_last f__law_keeps f__law_spoilt f__law_bool f_law c_End c_Lot c_Turn : Addr} (X : K.In h) (G : h.Ns mainGlobals mg) {fa : Addr} (hfa : mg "law" = some (.ref fa))
    {oc_End___init__ kV_End___init__ dc_End___init__ pm_End___init__ cd_End___init__ ct_End___init__ : Value} {od_End___init__ an_End___init__ : Option Addr} {sl_End___init__ : Array (Option Value)}
    {oc_Lot___init__ kV_Lot___init__ dc_Lot___init__ pm_Lot___init__ cd_Lot___init__ ct_Lot___init__ : Value} {od_Lot___init__ an_Lot___init__ : Option Addr} {sl_Lot___init__ : Array (Option Value)}
    {oc_Turn___init__ kV_Turn___init__ dc_Turn___init__ pm_Turn___init__ cd_Turn___init__ ct_Turn___init__ : Value} {od_Turn___init__ an_Turn___init__ : Option Addr} {sl_Turn___init__ : Array (Option Value)}
    {oc_last_row kV_last_row dc_last_row pm_last_row cd_last_row ct_last_row : Value} {od_last_row an_last_row : Option Addr} {sl_last_row : Array (Option Value)}
    {oc__keeps kV__keeps dc__keeps pm__keeps cd__keeps ct__keeps : Value} {od__keeps an__keeps : Option Addr} {sl__keeps : Array (Option Value)}
    {oc_remembers kV_remembers dc_remembers pm_remembers cd_remembers ct_remembers : Value} {od_remembers an_remembers : Option Addr} {sl_remembers : Array (Option Value)}
    {oc__law_cell kV__law_cell dc__law_cell pm__law_cell cd__law_cell ct__law_cell : Value} {od__law_cell an__law_cell : Option Addr} {sl__law_cell : Array (Option Value)}
    {oc__law_row kV__law_row dc__law_row pm__law_row cd__law_row ct__law_row : Value} {od__law_row an__law_row : Option Addr} {sl__law_row : Array (Option Value)}
    {oc__law_stages kV__law_stages dc__law_stages pm__law_stages cd__law_stages ct__law_stages : Value} {od__law_stages an__law_stages : Option Addr} {sl__law_stages : Array (Option Value)}
    {oc__law_paths kV__law_paths dc__law_paths pm__law_paths cd__law_paths ct__law_paths : Value} {od__law_paths an__law_paths : Option Addr} {sl__law_paths : Array (Option Value)}
    {oc__law_view kV__law_view dc__law_view pm__law_view cd__law_view ct__law_view : Value} {od__law_view an__law_view : Option Addr} {sl__law_view : Array (Option Value)}
    {oc__law_asked kV__law_asked dc__law_asked pm__law_asked cd__law_asked ct__law_asked : Value} {od__law_asked an__law_asked : Option Addr} {sl__law_asked : Array (Option Value)}
    {oc__law_changed kV__law_changed dc__law_changed pm__law_changed cd__law_changed ct__law_changed : Value} {od__law_changed an__law_changed : Option Addr} {sl__law_changed : Array (Option Value)}
    {oc__law_last kV__law_last dc__law_last pm__law_last cd__law_last ct__law_last : Value} {od__law_last an__law_last : Option Addr} {sl__law_last : Array (Option Value)}
    {oc__law_keeps kV__law_keeps dc__law_keeps pm__law_keeps cd__law_keeps ct__law_keeps : Value} {od__law_keeps an__law_keeps : Option Addr} {sl__law_keeps : Array (Option Value)}
    {oc__law_spoilt kV__law_spoilt dc__law_spoilt pm__law_spoilt cd__law_spoilt ct__law_spoilt : Value} {od__law_spoilt an__law_spoilt : Option Addr} {sl__law_spoilt : Array (Option Value)}
    {oc__law_bool kV__law_bool dc__law_bool pm__law_bool cd__law_bool ct__law_bool : Value} {od__law_bool an__law_bool : Option Addr} {sl__law_bool : Array (Option Value)}
    {oc_law kV_law dc_law pm_law cd_law ct_law : Value} {od_law an_law : Option Addr} {sl_law : Array (Option Value)}
    (C_End : PySem.W.nsIn K mainGlobals "End" = some (some (.ref c_End)))
    (C_Lot : PySem.W.nsIn K mainGlobals "Lot" = some (some (.ref c_Lot)))
    (C_Turn : PySem.W.nsIn K mainGlobals "Turn" = some (some (.ref c_Turn)))
    (g_End___init__ : PySem.W.findIn K (.ref c_End) "__init__" = some (some (.ref f_End___init__)))
    (i_End___init__ : PySem.W.isFn K (.ref f_End___init__) = true)
    (l_End___init__ : K.lookup f_End___init__ = some ⟨oc_End___init__, od_End___init__, .func (PySem.W.fnOf "__init__" "End.__init__" (defArgs s_End___init__) (defBody s_End___init__) (defScope s_End___init__) .none kV_End___init__ dc_End___init__ pm_End___init__ an_End___init__ cd_End___init__ ct_End___init__), sl_End___init__⟩)
    (c_End___init___ : PySem.W.codeIn K cd_End___init__ "End.__init__" = true)
    (k_End___init__ : PySem.W.keepIn K (.ref f_End___init__) = true)
    (g_Lot___init__ : PySem.W.findIn K (.ref c_Lot) "__init__" = some (some (.ref f_Lot___init__)))
    (i_Lot___init__ : PySem.W.isFn K (.ref f_Lot___init__) = true)
    (l_Lot___init__ : K.lookup f_Lot___init__ = some ⟨oc_Lot___init__, od_Lot___init__, .func (PySem.W.fnOf "__init__" "Lot.__init__" (defArgs s_Lot___init__) (defBody s_Lot___init__) (defScope s_Lot___init__) .none kV_Lot___init__ dc_Lot___init__ pm_Lot___init__ an_Lot___init__ cd_Lot___init__ ct_Lot___init__), sl_Lot___init__⟩)
    (c_Lot___init___ : PySem.W.codeIn K cd_Lot___init__ "Lot.__init__" = true)
    (k_Lot___init__ : PySem.W.keepIn K (.ref f_Lot___init__) = true)
    (g_Turn___init__ : PySem.W.findIn K (.ref c_Turn) "__init__" = some (some (.ref f_Turn___init__)))
    (i_Turn___init__ : PySem.W.isFn K (.ref f_Turn___init__) = true)
    (l_Turn___init__ : K.lookup f_Turn___init__ = some ⟨oc_Turn___init__, od_Turn___init__, .func (PySem.W.fnOf "__init__" "Turn.__init__" (defArgs s_Turn___init__) (defBody s_Turn___init__) (defScope s_Turn___init__) .none kV_Turn___init__ dc_Turn___init__ pm_Turn___init__ an_Turn___init__ cd_Turn___init__ ct_Turn___init__), sl_Turn___init__⟩)
    (c_Turn___init___ : PySem.W.codeIn K cd_Turn___init__ "Turn.__init__" = true)
    (k_Turn___init__ : PySem.W.keepIn K (.ref f_Turn___init__) = true)
    (g_last_row : PySem.W.nsIn K mainGlobals "last_row" = some (some (.ref f_last_row)))
    (i_last_row : PySem.W.isFn K (.ref f_last_row) = true)
    (l_last_row : K.lookup f_last_row = some ⟨oc_last_row, od_last_row, .func (PySem.W.fnOf "last_row" "last_row" (defArgs s_last_row) (defBody s_last_row) (defScope s_last_row) .none kV_last_row dc_last_row pm_last_row an_last_row cd_last_row ct_last_row), sl_last_row⟩)
    (c_last_row_ : PySem.W.codeIn K cd_last_row "last_row" = true)
    (k_last_row : PySem.W.keepIn K (.ref f_last_row) = true)
    (g__keeps : PySem.W.nsIn K mainGlobals "_keeps" = some (some (.ref f__keeps)))
    (i__keeps : PySem.W.isFn K (.ref f__keeps) = true)
    (l__keeps : K.lookup f__keeps = some ⟨oc__keeps, od__keeps, .func (PySem.W.fnOf "_keeps" "_keeps" (defArgs s__keeps) (defBody s__keeps) (defScope s__keeps) .none kV__keeps dc__keeps pm__keeps an__keeps cd__keeps ct__keeps), sl__keeps⟩)
    (c__keeps_ : PySem.W.codeIn K cd__keeps "_keeps" = true)
    (k__keeps : PySem.W.keepIn K (.ref f__keeps) = true)
    (g_remembers : PySem.W.nsIn K mainGlobals "remembers" = some (some (.ref f_remembers)))
    (i_remembers : PySem.W.isFn K (.ref f_remembers) = true)
    (l_remembers : K.lookup f_remembers = some ⟨oc_remembers, od_remembers, .func (PySem.W.fnOf "remembers" "remembers" (defArgs s_remembers) (defBody s_remembers) (defScope s_remembers) .none kV_remembers dc_remembers pm_remembers an_remembers cd_remembers ct_remembers), sl_remembers⟩)
    (c_remembers_ : PySem.W.codeIn K cd_remembers "remembers" = true)
    (k_remembers : PySem.W.keepIn K (.ref f_remembers) = true)
    (g__law_cell : PySem.W.nsIn K mainGlobals "_law_cell" = some (some (.ref f__law_cell)))
    (i__law_cell : PySem.W.isFn K (.ref f__law_cell) = true)
    (l__law_cell : K.lookup f__law_cell = some ⟨oc__law_cell, od__law_cell, .func (PySem.W.fnOf "_law_cell" "_law_cell" (defArgs s__law_cell) (defBody s__law_cell) (defScope s__law_cell) .none kV__law_cell dc__law_cell pm__law_cell an__law_cell cd__law_cell ct__law_cell), sl__law_cell⟩)
    (c__law_cell_ : PySem.W.codeIn K cd__law_cell "_law_cell" = true)
    (k__law_cell : PySem.W.keepIn K (.ref f__law_cell) = true)
    (g__law_row : PySem.W.nsIn K mainGlobals "_law_row" = some (some (.ref f__law_row)))
    (i__law_row : PySem.W.isFn K (.ref f__law_row) = true)
    (l__law_row : K.lookup f__law_row = some ⟨oc__law_row, od__law_row, .func (PySem.W.fnOf "_law_row" "_law_row" (defArgs s__law_row) (defBody s__law_row) (defScope s__law_row) .none kV__law_row dc__law_row pm__law_row an__law_row cd__law_row ct__law_row), sl__law_row⟩)
    (c__law_row_ : PySem.W.codeIn K cd__law_row "_law_row" = true)
    (k__law_row : PySem.W.keepIn K (.ref f__law_row) = true)
    (g__law_stages : PySem.W.nsIn K mainGlobals "_law_stages" = some (some (.ref f__law_stages)))
    (i__law_stages : PySem.W.isFn K (.ref f__law_stages) = true)
    (l__law_stages : K.lookup f__law_stages = some ⟨oc__law_stages, od__law_stages, .func (PySem.W.fnOf "_law_stages" "_law_stages" (defArgs s__law_stages) (defBody s__law_stages) (defScope s__law_stages) .none kV__law_stages dc__law_stages pm__law_stages an__law_stages cd__law_stages ct__law_stages), sl__law_stages⟩)
    (c__law_stages_ : PySem.W.codeIn K cd__law_stages "_law_stages" = true)
    (k__law_stages : PySem.W.keepIn K (.ref f__law_stages) = true)
    (g__law_paths : PySem.W.nsIn K mainGlobals "_law_paths" = some (some (.ref f__law_paths)))
    (i__law_paths : PySem.W.isFn K (.ref f__law_paths) = true)
    (l__law_paths : K.lookup f__law_paths = some ⟨oc__law_paths, od__law_paths, .func (PySem.W.fnOf "_law_paths" "_law_paths" (defArgs s__law_paths) (defBody s__law_paths) (defScope s__law_paths) .none kV__law_paths dc__law_paths pm__law_paths an__law_paths cd__law_paths ct__law_paths), sl__law_paths⟩)
    (c__law_paths_ : PySem.W.codeIn K cd__law_paths "_law_paths" = true)
    (k__law_paths : PySem.W.keepIn K (.ref f__law_paths) = true)
    (g__law_view : PySem.W.nsIn K mainGlobals "_law_view" = some (some (.ref f__law_view)))
    (i__law_view : PySem.W.isFn K (.ref f__law_view) = true)
    (l__law_view : K.lookup f__law_view = some ⟨oc__law_view, od__law_view, .func (PySem.W.fnOf "_law_view" "_law_view" (defArgs s__law_view) (defBody s__law_view) (defScope s__law_view) .none kV__law_view dc__law_view pm__law_view an__law_view cd__law_view ct__law_view), sl__law_view⟩)
    (c__law_view_ : PySem.W.codeIn K cd__law_view "_law_view" = true)
    (k__law_view : PySem.W.keepIn K (.ref f__law_view) = true)
    (g__law_asked : PySem.W.nsIn K mainGlobals "_law_asked" = some (some (.ref f__law_asked)))
    (i__law_asked : PySem.W.isFn K (.ref f__law_asked) = true)
    (l__law_asked : K.lookup f__law_asked = some ⟨oc__law_asked, od__law_asked, .func (PySem.W.fnOf "_law_asked" "_law_asked" (defArgs s__law_asked) (defBody s__law_asked) (defScope s__law_asked) .none kV__law_asked dc__law_asked pm__law_asked an__law_asked cd__law_asked ct__law_asked), sl__law_asked⟩)
    (c__law_asked_ : PySem.W.codeIn K cd__law_asked "_law_asked" = true)
    (k__law_asked : PySem.W.keepIn K (.ref f__law_asked) = true)
    (g__law_changed : PySem.W.nsIn K mainGlobals "_law_changed" = some (some (.ref f__law_changed)))
    (i__law_changed : PySem.W.isFn K (.ref f__law_changed) = true)
    (l__law_changed : K.lookup f__law_changed = some ⟨oc__law_changed, od__law_changed, .func (PySem.W.fnOf "_law_changed" "_law_changed" (defArgs s__law_changed) (defBody s__law_changed) (defScope s__law_changed) .none kV__law_changed dc__law_changed pm__law_changed an__law_changed cd__law_changed ct__law_changed), sl__law_changed⟩)
    (c__law_changed_ : PySem.W.codeIn K cd__law_changed "_law_changed" = true)
    (k__law_changed : PySem.W.keepIn K (.ref f__law_changed) = true)
    (g__law_last : PySem.W.nsIn K mainGlobals "_law_last" = some (some (.ref f__law_last)))
    (i__law_last : PySem.W.isFn K (.ref f__law_last) = true)
    (l__law_last : K.lookup f__law_last = some ⟨oc__law_last, od__law_last, .func (PySem.W.fnOf "_law_last" "_law_last" (defArgs s__law_last) (defBody s__law_last) (defScope s__law_last) .none kV__law_last dc__law_last pm__law_last an__law_last cd__law_last ct__law_last), sl__law_last⟩)
    (c__law_last_ : PySem.W.codeIn K cd__law_last "_law_last" = true)
    (k__law_last : PySem.W.keepIn K (.ref f__law_last) = true)
    (g__law_keeps : PySem.W.nsIn K mainGlobals "_law_keeps" = some (some (.ref f__law_keeps)))
    (i__law_keeps : PySem.W.isFn K (.ref f__law_keeps) = true)
    (l__law_keeps : K.lookup f__law_keeps = some ⟨oc__law_keeps, od__law_keeps, .func (PySem.W.fnOf "_law_keeps" "_law_keeps" (defArgs s__law_keeps) (defBody s__law_keeps) (defScope s__law_keeps) .none kV__law_keeps dc__law_keeps pm__law_keeps an__law_keeps cd__law_keeps ct__law_keeps), sl__law_keeps⟩)
    (c__law_keeps_ : PySem.W.codeIn K cd__law_keeps "_law_keeps" = true)
    (k__law_keeps : PySem.W.keepIn K (.ref f__law_keeps) = true)
    (g__law_spoilt : PySem.W.nsIn K mainGlobals "_law_spoilt" = some (some (.ref f__law_spoilt)))
    (i__law_spoilt : PySem.W.isFn K (.ref f__law_spoilt) = true)
    (l__law_spoilt : K.lookup f__law_spoilt = some ⟨oc__law_spoilt, od__law_spoilt, .func (PySem.W.fnOf "_law_spoilt" "_law_spoilt" (defArgs s__law_spoilt) (defBody s__law_spoilt) (defScope s__law_spoilt) .none kV__law_spoilt dc__law_spoilt pm__law_spoilt an__law_spoilt cd__law_spoilt ct__law_spoilt), sl__law_spoilt⟩)
    (c__law_spoilt_ : PySem.W.codeIn K cd__law_spoilt "_law_spoilt" = true)
    (k__law_spoilt : PySem.W.keepIn K (.ref f__law_spoilt) = true)
    (g__law_bool : PySem.W.nsIn K mainGlobals "_law_bool" = some (some (.ref f__law_bool)))
    (i__law_bool : PySem.W.isFn K (.ref f__law_bool) = true)
    (l__law_bool : K.lookup f__law_bool = some ⟨oc__law_bool, od__law_bool, .func (PySem.W.fnOf "_law_bool" "_law_bool" (defArgs s__law_bool) (defBody s__law_bool) (defScope s__law_bool) .none kV__law_bool dc__law_bool pm__law_bool an__law_bool cd__law_bool ct__law_bool), sl__law_bool⟩)
    (c__law_bool_ : PySem.W.codeIn K cd__law_bool "_law_bool" = true)
    (k__law_bool : PySem.W.keepIn K (.ref f__law_bool) = true)
    (g_law : PySem.W.nsIn K mainGlobals "law" = some (some (.ref f_law)))
    (i_law : PySem.W.isFn K (.ref f_law) = true)
    (l_law : K.lookup f_law = some ⟨oc_law, od_law, .func (PySem.W.fnOf "law" "law" (defArgs s_law) (defBody s_law) (defScope s_law) .none kV_law dc_law pm_law an_law cd_law ct_law), sl_law⟩)
    (c_law_ : PySem.W.codeIn K cd_law "law" = true)
    (k_law : PySem.W.keepIn K (.ref f_law) = true)
    (pg_End : PySem.W.plainGet K c_End Str.empty = true)
    (hd_End : PySem.W.hasDictIn K c_End = true)
    (po_End : PySem.W.plainOver K c_End = true)
    (sa_End : PySem.W.findIn K (.ref c_End) "__setattr__" = some (some (.builtin "object.__setattr__")))
    (mk_End : PySem.W.makesIn K c_End = true)
    (kc_End : PySem.W.keepIn K (.ref c_End) = true)
    (na_End_paid : PySem.W.findIn K (.ref c_End) "paid" = some none)
    (ha_End : PySem.W.findIn K (.ref c_End) "__class__" = some (some (.builtin "object.__class__")))
    (hn_End : PySem.W.specialIn K (.builtin "object.__class__") "__get__" = some (some (.builtin "getset_descriptor.__get__")))
    (ht_End : PySem.W.takesIn K (.builtin "object.__class__") = some true)
    (hm_End : PySem.W.mroIn K c_End (.type "object") = some true)
    (pg_Lot : PySem.W.plainGet K c_Lot Str.empty = true)
    (hd_Lot : PySem.W.hasDictIn K c_Lot = true)
    (po_Lot : PySem.W.plainOver K c_Lot = true)
    (sa_Lot : PySem.W.findIn K (.ref c_Lot) "__setattr__" = some (some (.builtin "object.__setattr__")))
    (mk_Lot : PySem.W.makesIn K c_Lot = true)
    (kc_Lot : PySem.W.keepIn K (.ref c_Lot) = true)
    (na_Lot_parts : PySem.W.findIn K (.ref c_Lot) "parts" = some none)
    (ha_Lot : PySem.W.findIn K (.ref c_Lot) "__class__" = some (some (.builtin "object.__class__")))
    (hn_Lot : PySem.W.specialIn K (.builtin "object.__class__") "__get__" = some (some (.builtin "getset_descriptor.__get__")))
    (ht_Lot : PySem.W.takesIn K (.builtin "object.__class__") = some true)
    (hm_Lot : PySem.W.mroIn K c_Lot (.type "object") = some true)
    (pg_Turn : PySem.W.plainGet K c_Turn Str.empty = true)
    (hd_Turn : PySem.W.hasDictIn K c_Turn = true)
    (po_Turn : PySem.W.plainOver K c_Turn = true)
    (sa_Turn : PySem.W.findIn K (.ref c_Turn) "__setattr__" = some (some (.builtin "object.__setattr__")))
    (mk_Turn : PySem.W.makesIn K c_Turn = true)
    (kc_Turn : PySem.W.keepIn K (.ref c_Turn) = true)
    (na_Turn_player : PySem.W.findIn K (.ref c_Turn) "player" = some none)
    (na_Turn_view : PySem.W.findIn K (.ref c_Turn) "view" = some none)
    (na_Turn_parts : PySem.W.findIn K (.ref c_Turn) "parts" = some none)
    (ha_Turn : PySem.W.findIn K (.ref c_Turn) "__class__" = some (some (.builtin "object.__class__")))
    (hn_Turn : PySem.W.specialIn K (.builtin "object.__class__") "__get__" = some (some (.builtin "getset_descriptor.__get__")))
    (ht_Turn : PySem.W.takesIn K (.builtin "object.__class__") = some true)
    (hm_Turn : PySem.W.mroIn K c_Turn (.type "object") = some true)
    (ki_End_End : PySem.W.kitOne K (.ref c_End) (.ref c_End) = some true)
    (ki_End_Lot : PySem.W.kitOne K (.ref c_End) (.ref c_Lot) = some false)
    (ki_End_Turn : PySem.W.kitOne K (.ref c_End) (.ref c_Turn) = some false)
    (ki_Lot_End : PySem.W.kitOne K (.ref c_Lot) (.ref c_End) = some false)
    (ki_Lot_Lot : PySem.W.kitOne K (.ref c_Lot) (.ref c_Lot) = some true)
    (ki_Lot_Turn : PySem.W.kitOne K (.ref c_Lot) (.ref c_Turn) = some false)
    (ki_Turn_End : PySem.W.kitOne K (.ref c_Turn) (.ref c_End) = some false)
    (ki_Turn_Lot : PySem.W.kitOne K (.ref c_Turn) (.ref c_Lot) = some false)
    (ki_Turn_Turn : PySem.W.kitOne K (.ref c_Turn) (.ref c_Turn) = some true)
    (n_range : PySem.W.nsIn K mainGlobals "range" = some none)
    (n_len : PySem.W.nsIn K mainGlobals "len" = some none)
    (n_isinstance : PySem.W.nsIn K mainGlobals "isinstance" = some none)
    (n_enumerate : PySem.W.nsIn K mainGlobals "enumerate" = some none)
    (n_all : PySem.W.nsIn K mainGlobals "all" = some none)
    (n_int : PySem.W.nsIn K mainGlobals "int" = some none)
    (n_bool : PySem.W.nsIn K mainGlobals "bool" = some none)
    (n_tuple : PySem.W.nsIn K mainGlobals "tuple" = some none) :
    ∃ fd : FuncData, (∀ (s : Shared) (v : Value), BindsTo s fd ⟨[v], []⟩ [("_law_script", v)]) ∧ ∀ base : Heap, K.In base → base.Ns mainGlobals mg → FnOk P w K mg base CX0 12 fa fd ["_law_script"] (sp_law K) := by
  have e := hfa.symm.trans (PySem.W.mg_of X G g_law)
  cases e
  have F_End___init__ := fun_mk (st := s_End___init__) l_End___init__ c_End___init___ k_End___init__
  have F_Lot___init__ := fun_mk (st := s_Lot___init__) l_Lot___init__ c_Lot___init___ k_Lot___init__
  have F_Turn___init__ := fun_mk (st := s_Turn___init__) l_Turn___init__ c_Turn___init___ k_Turn___init__
  have F_last_row := fun_mk (st := s_last_row) l_last_row c_last_row_ k_last_row
  have F__keeps := fun_mk (st := s__keeps) l__keeps c__keeps_ k__keeps
  have F_remembers := fun_mk (st := s_remembers) l_remembers c_remembers_ k_remembers
  have F__law_cell := fun_mk (st := s__law_cell) l__law_cell c__law_cell_ k__law_cell
  have F__law_row := fun_mk (st := s__law_row) l__law_row c__law_row_ k__law_row
  have F__law_stages := fun_mk (st := s__law_stages) l__law_stages c__law_stages_ k__law_stages
  have F__law_paths := fun_mk (st := s__law_paths) l__law_paths c__law_paths_ k__law_paths
  have F__law_view := fun_mk (st := s__law_view) l__law_view c__law_view_ k__law_view
  have F__law_asked := fun_mk (st := s__law_asked) l__law_asked c__law_asked_ k__law_asked
  have F__law_changed := fun_mk (st := s__law_changed) l__law_changed c__law_changed_ k__law_changed
  have F__law_last := fun_mk (st := s__law_last) l__law_last c__law_last_ k__law_last
  have F__law_keeps := fun_mk (st := s__law_keeps) l__law_keeps c__law_keeps_ k__law_keeps
  have F__law_spoilt := fun_mk (st := s__law_spoilt) l__law_spoilt c__law_spoilt_ k__law_spoilt
  have F__law_bool := fun_mk (st := s__law_bool) l__law_bool c__law_bool_ k__law_bool
  have F_law := fun_mk (st := s_law) l_law c_law_ k_law
  have T : Txt P K mg ⟨f_End___init__, _, f_Lot___init__, _, f_Turn___init__, _, f_last_row, _, f__keeps, _, f_remembers, _, f__law_cell, _, f__law_row, _, f__law_stages, _, f__law_paths, _, f__law_view, _, f__law_asked, _, f__law_changed, _, f__law_last, _, f__law_keeps, _, f__law_spoilt, _, f__law_bool, _, f_law, _, c_End, c_Lot, c_Turn⟩ := ⟨F_End___init__,
    (F_End___init__.binds (ps := ["self", "paid"]) fun _ _ _ _ _ _ us hl => match us, hl with | [_, _], _ => rfl),
    ⟨mk_End, g_End___init__, i_End___init__, kc_End⟩,
    F_Lot___init__,
    (F_Lot___init__.binds (ps := ["self", "parts"]) fun _ _ _ _ _ _ us hl => match us, hl with | [_, _], _ => rfl),
    ⟨mk_Lot, g_Lot___init__, i_Lot___init__, kc_Lot⟩,
    F_Turn___init__,
    (F_Turn___init__.binds (ps := ["self", "player", "view", "parts"]) fun _ _ _ _ _ _ us hl => match us, hl with | [_, _, _, _], _ => rfl),
    ⟨mk_Turn, g_Turn___init__, i_Turn___init__, kc_Turn⟩,
    F_last_row,
    (F_last_row.binds (ps := ["view"]) fun _ _ _ _ _ _ us hl => match us, hl with | [_], _ => rfl),
    (PySem.W.mg_of X G g_last_row),
    F__keeps,
    (F__keeps.binds (ps := ["tree", "rows"]) fun _ _ _ _ _ _ us hl => match us, hl with | [_, _], _ => rfl),
    (PySem.W.mg_of X G g__keeps),
    F_remembers,
    (F_remembers.binds (ps := ["tree"]) fun _ _ _ _ _ _ us hl => match us, hl with | [_], _ => rfl),
    (PySem.W.mg_of X G g_remembers),
    F__law_cell,
    (F__law_cell.binds (ps := ["_law_script", "_law_k"]) fun _ _ _ _ _ _ us hl => match us, hl with | [_, _], _ => rfl),
    (PySem.W.mg_of X G g__law_cell),
    F__law_row,
    (F__law_row.binds (ps := ["_law_cell_here", "_law_count", "_law_size"]) fun _ _ _ _ _ _ us hl => match us, hl with | [_, _, _], _ => rfl),
    (PySem.W.mg_of X G g__law_row),
    F__law_stages,
    (F__law_stages.binds (ps := ["_law_script", "_law_most"]) fun _ _ _ _ _ _ us hl => match us, hl with | [_, _], _ => rfl),
    (PySem.W.mg_of X G g__law_stages),
    F__law_paths,
    (F__law_paths.binds (ps := ["_law_stages_here"]) fun _ _ _ _ _ _ us hl => match us, hl with | [_], _ => rfl),
    (PySem.W.mg_of X G g__law_paths),
    F__law_view,
    (F__law_view.binds (ps := ["_law_stages_here", "_law_path", "_law_player"]) fun _ _ _ _ _ _ us hl => match us, hl with | [_, _, _], _ => rfl),
    (PySem.W.mg_of X G g__law_view),
    F__law_asked,
    (F__law_asked.binds (ps := ["_law_stages_here", "_law_path"]) fun _ _ _ _ _ _ us hl => match us, hl with | [_, _], _ => rfl),
    (PySem.W.mg_of X G g__law_asked),
    F__law_changed,
    (F__law_changed.binds (ps := ["_law_stages_here", "_law_path", "_law_place", "_law_view_here"]) fun _ _ _ _ _ _ us hl => match us, hl with | [_, _, _, _], _ => rfl),
    (PySem.W.mg_of X G g__law_changed),
    F__law_last,
    (F__law_last.binds (ps := ["_law_view_here"]) fun _ _ _ _ _ _ us hl => match us, hl with | [_], _ => rfl),
    (PySem.W.mg_of X G g__law_last),
    F__law_keeps,
    (F__law_keeps.binds (ps := ["_law_stages_here", "_law_place", "_law_view_here"]) fun _ _ _ _ _ _ us hl => match us, hl with | [_, _, _], _ => rfl),
    (PySem.W.mg_of X G g__law_keeps),
    F__law_spoilt,
    (F__law_spoilt.binds (ps := ["_law_view_here", "_law_cell_here"]) fun _ _ _ _ _ _ us hl => match us, hl with | [_, _], _ => rfl),
    (PySem.W.mg_of X G g__law_spoilt),
    F__law_bool,
    (F__law_bool.binds (ps := ["_law_actual", "_law_due"]) fun _ _ _ _ _ _ us hl => match us, hl with | [_, _], _ => rfl),
    (PySem.W.mg_of X G g__law_bool),
    F_law,
    (F_law.binds (ps := ["_law_script"]) fun _ _ _ _ _ _ us hl => match us, hl with | [_], _ => rfl),
    (PySem.W.mg_of X G g_law),
    (PySem.W.mg_of X G C_End),
    ⟨pg_End, hd_End, po_End, sa_End⟩,
    na_End_paid,
    ⟨⟨pg_End, hd_End, po_End, sa_End⟩, ha_End, hn_End, ht_End, hm_End, by unfold PySem.W.kitOne; simp⟩,
    (PySem.W.mg_of X G C_Lot),
    ⟨pg_Lot, hd_Lot, po_Lot, sa_Lot⟩,
    na_Lot_parts,
    ⟨⟨pg_Lot, hd_Lot, po_Lot, sa_Lot⟩, ha_Lot, hn_Lot, ht_Lot, hm_Lot, by unfold PySem.W.kitOne; simp⟩,
    (PySem.W.mg_of X G C_Turn),
    ⟨pg_Turn, hd_Turn, po_Turn, sa_Turn⟩,
    na_Turn_player,
    na_Turn_view,
    na_Turn_parts,
    ⟨⟨pg_Turn, hd_Turn, po_Turn, sa_Turn⟩, ha_Turn, hn_Turn, ht_Turn, hm_Turn, by unfold PySem.W.kitOne; simp⟩,
    ki_End_End,
    ki_End_Lot,
    ki_End_Turn,
    ki_Lot_End,
    ki_Lot_Lot,
    ki_Lot_Turn,
    ki_Turn_End,
    ki_Turn_Lot,
    ki_Turn_Turn,
    (PySem.W.mg_none_of X G n_range),
    (PySem.W.mg_none_of X G n_len),
    (PySem.W.mg_none_of X G n_isinstance),
    (PySem.W.mg_none_of X G n_enumerate),
    (PySem.W.mg_none_of X G n_all),
    (PySem.W.mg_none_of X G n_int),
    (PySem.W.mg_none_of X G n_bool),
    (PySem.W.mg_none_of X G n_tuple)⟩
  exact ⟨PySem.W.fnOf "law" "law" (defArgs s_law) (defBody s_law) (defScope s_law) .none kV_law dc_law pm_law an_law cd_law ct_law, fun s v => .of_eq rfl, fun base _ _ => G_law (P := P) (w := w) (base := base) T⟩
theorem walk {l : PySem.W.OpenLaw} {q : Program} {loose : List Str} {XP : (Str → Option Value) → Heap → Prop} {YP : World → Heap → Prop} {d : DefRec} {K : Params → PySem.W.Frag} (hn : l.most = some 63) (hdf : d.params.defaults = [])
    (hY : ∀ (w : World) (h : Heap), YP w h → (K w.params).In h)
    (F : ∀ (w : World) (mg : Str → Option Value) (fa : Addr) (h : Heap), (K w.params).In h → h.Ns mainGlobals mg → mg d.name = some (.ref fa) →
      ∃ fd : FuncData, (∀ (s : Shared) (u : Value), BindsTo s fd ⟨[u], []⟩ [("_law_script", u)]) ∧ ∀ base : Heap, (K w.params).In base → base.Ns mainGlobals mg → FnOk l.prog w (K w.params) mg base CX0 12 fa fd ["_law_script"] (sp_law (K w.params))) :
    PySem.W.WalkO q loose XP YP l.row.toRowW d [] (fun f vs => PySem.call f vs) :=
  L2.walk_of (n := 63) (k := 12) (x := "_law_script") (CX := fun _ => CX0) (sp := fun w => sp_law (K w.params)) hn (by decide) hdf ⟨rfl, by decide, by decide⟩ hY F (fun _ _ a ns hl _ hS => ⟨a, ns, rfl, hS, hl, fun _ => rfl⟩) fun _ _ _ _ _ z => z
end K35
open PySem PySem.W PyProof.Rows
set_option maxRecDepth 100000 in
set_option maxHeartbeats 0 in
theorem PySem.Challenge.cw_sureplay_k35_trees_that_do_not_remember_holds : PySem.Challenge.rw_sureplay_k35_trees_that_do_not_remember.Holds := by
  w_on; o_law; k_head; (case hw => w_witness2)
  k_fill
  refine K35.walk (l := PySem.Challenge.rw_sureplay_k35_trees_that_do_not_remember) rfl rfl (fun w h Y => PySem.W.kIn_of Y) ?F
  case F =>
    intro w mg fa h KX G hmg
    refine' K35.all_mk KX G hmg ?C_End ?C_Lot ?C_Turn ?g_End___init__ ?i_End___init__ ?l_End___init__ ?c_End___init___ ?k_End___init__ ?g_Lot___init__ ?i_Lot___init__ ?l_Lot___init__ ?c_Lot___init___ ?k_Lot___init__ ?g_Turn___init__ ?i_Turn___init__ ?l_Turn___init__ ?c_Turn___init___ ?k_Turn___init__ ?g_last_row ?i_last_row ?l_last_row ?c_last_row_ ?k_last_row ?g__keeps ?i__keeps ?l__keeps ?c__keeps_ ?k__keeps ?g_remembers ?i_remembers ?l_remembers ?c_remembers_ ?k_remembers ?g__law_cell ?i__law_cell ?l__law_cell ?c__law_cell_ ?k__law_cell ?g__law_row ?i__law_row ?l__law_row ?c__law_row_ ?k__law_row ?g__law_stages ?i__law_stages ?l__law_stages ?c__law_stages_ ?k__law_stages ?g__law_paths ?i__law_paths ?l__law_paths ?c__law_paths_ ?k__law_paths ?g__law_view ?i__law_view ?l__law_view ?c__law_view_ ?k__law_view ?g__law_asked ?i__law_asked ?l__law_asked ?c__law_asked_ ?k__law_asked ?g__law_changed ?i__law_changed ?l__law_changed ?c__law_changed_ ?k__law_changed ?g__law_last ?i__law_last ?l__law_last ?c__law_last_ ?k__law_last ?g__law_keeps ?i__law_keeps ?l__law_keeps ?c__law_keeps_ ?k__law_keeps ?g__law_spoilt ?i__law_spoilt ?l__law_spoilt ?c__law_spoilt_ ?k__law_spoilt ?g__law_bool ?i__law_bool ?l__law_bool ?c__law_bool_ ?k__law_bool ?g_law ?i_law ?l_law ?c_law_ ?k_law ?pg_End ?hd_End ?po_End ?sa_End ?mk_End ?kc_End ?na_End_paid ?ha_End ?hn_End ?ht_End ?hm_End ?pg_Lot ?hd_Lot ?po_Lot ?sa_Lot ?mk_Lot ?kc_Lot ?na_Lot_parts ?ha_Lot ?hn_Lot ?ht_Lot ?hm_Lot ?pg_Turn ?hd_Turn ?po_Turn ?sa_Turn ?mk_Turn ?kc_Turn ?na_Turn_player ?na_Turn_view ?na_Turn_parts ?ha_Turn ?hn_Turn ?ht_Turn ?hm_Turn ?ki_End_End ?ki_End_Lot ?ki_End_Turn ?ki_Lot_End ?ki_Lot_Lot ?ki_Lot_Turn ?ki_Turn_End ?ki_Turn_Lot ?ki_Turn_Turn ?n_range ?n_len ?n_isinstance ?n_enumerate ?n_all ?n_int ?n_bool ?n_tuple
    (case C_End => k_is)
    (case C_Lot => k_is)
    (case C_Turn => k_is)
    (case g_End___init__ => k_is)
    (case i_End___init__ => k_is)
    (case l_End___init__ => k_is)
    (case c_End___init___ => k_is)
    (case k_End___init__ => k_is)
    (case g_Lot___init__ => k_is)
    (case i_Lot___init__ => k_is)
    (case l_Lot___init__ => k_is)
    (case c_Lot___init___ => k_is)
    (case k_Lot___init__ => k_is)
    (case g_Turn___init__ => k_is)
    (case i_Turn___init__ => k_is)
    (case l_Turn___init__ => k_is)
    (case c_Turn___init___ => k_is)
    (case k_Turn___init__ => k_is)
    (case g_last_row => k_is)
    (case i_last_row => k_is)
    (case l_last_row => k_is)
    (case c_last_row_ => k_is)
    (case k_last_row => k_is)
    (case g__keeps => k_is)
    (case i__keeps => k_is)
    (case l__keeps => k_is)
    (case c__keeps_ => k_is)
    (case k__keeps => k_is)
    (case g_remembers => k_is)
    (case i_remembers => k_is)
    (case l_remembers => k_is)
    (case c_remembers_ => k_is)
    (case k_remembers => k_is)
    (case g__law_cell => k_is)
    (case i__law_cell => k_is)
    (case l__law_cell => k_is)
    (case c__law_cell_ => k_is)
    (case k__law_cell => k_is)
    (case g__law_row => k_is)
    (case i__law_row => k_is)
    (case l__law_row => k_is)
    (case c__law_row_ => k_is)
    (case k__law_row => k_is)
    (case g__law_stages => k_is)
    (case i__law_stages => k_is)
    (case l__law_stages => k_is)
    (case c__law_stages_ => k_is)
    (case k__law_stages => k_is)
    (case g__law_paths => k_is)
    (case i__law_paths => k_is)
    (case l__law_paths => k_is)
    (case c__law_paths_ => k_is)
    (case k__law_paths => k_is)
    (case g__law_view => k_is)
    (case i__law_view => k_is)
    (case l__law_view => k_is)
    (case c__law_view_ => k_is)
    (case k__law_view => k_is)
    (case g__law_asked => k_is)
    (case i__law_asked => k_is)
    (case l__law_asked => k_is)
    (case c__law_asked_ => k_is)
    (case k__law_asked => k_is)
    (case g__law_changed => k_is)
    (case i__law_changed => k_is)
    (case l__law_changed => k_is)
    (case c__law_changed_ => k_is)
    (case k__law_changed => k_is)
    (case g__law_last => k_is)
    (case i__law_last => k_is)
    (case l__law_last => k_is)
    (case c__law_last_ => k_is)
    (case k__law_last => k_is)
    (case g__law_keeps => k_is)
    (case i__law_keeps => k_is)
    (case l__law_keeps => k_is)
    (case c__law_keeps_ => k_is)
    (case k__law_keeps => k_is)
    (case g__law_spoilt => k_is)
    (case i__law_spoilt => k_is)
    (case l__law_spoilt => k_is)
    (case c__law_spoilt_ => k_is)
    (case k__law_spoilt => k_is)
    (case g__law_bool => k_is)
    (case i__law_bool => k_is)
    (case l__law_bool => k_is)
    (case c__law_bool_ => k_is)
    (case k__law_bool => k_is)
    (case g_law => k_is)
    (case i_law => k_is)
    (case l_law => k_is)
    (case c_law_ => k_is)
    (case k_law => k_is)
    (case pg_End => k_is)
    (case hd_End => k_is)
    (case po_End => k_is)
    (case sa_End => k_is)
    (case mk_End => k_is)
    (case kc_End => k_is)
    (case na_End_paid => k_is)
    (case ha_End => k_is)
    (case hn_End => k_is)
    (case ht_End => k_is)
    (case hm_End => k_is)
    (case pg_Lot => k_is)
    (case hd_Lot => k_is)
    (case po_Lot => k_is)
    (case sa_Lot => k_is)
    (case mk_Lot => k_is)
    (case kc_Lot => k_is)
    (case na_Lot_parts => k_is)
    (case ha_Lot => k_is)
    (case hn_Lot => k_is)
    (case ht_Lot => k_is)
    (case hm_Lot => k_is)
    (case pg_Turn => k_is)
    (case hd_Turn => k_is)
    (case po_Turn => k_is)
    (case sa_Turn => k_is)
    (case mk_Turn => k_is)
    (case kc_Turn => k_is)
    (case na_Turn_player => k_is)
    (case na_Turn_view => k_is)
    (case na_Turn_parts => k_is)
    (case ha_Turn => k_is)
    (case hn_Turn => k_is)
    (case ht_Turn => k_is)
    (case hm_Turn => k_is)
    (case ki_End_End => kit_is)
    (case ki_End_Lot => kit_is)
    (case ki_End_Turn => kit_is)
    (case ki_Lot_End => kit_is)
    (case ki_Lot_Lot => kit_is)
    (case ki_Lot_Turn => kit_is)
    (case ki_Turn_End => kit_is)
    (case ki_Turn_Lot => kit_is)
    (case ki_Turn_Turn => kit_is)
    (case n_range => k_is)
    (case n_len => k_is)
    (case n_isinstance => k_is)
    (case n_enumerate => k_is)
    (case n_all => k_is)
    (case n_int => k_is)
    (case n_bool => k_is)
    (case n_tuple => k_is)
#print axioms PySem.Challenge.cw_sureplay_k35_trees_that_do_not_remember_holds
