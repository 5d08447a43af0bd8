import PyProof.Rows.All
import Wide.All
import OpenK.AllK
import Wide.FinOn
import HandS.Iter
import HandS.Style
import KE.KExcSuper
import KE.KSuper
import HandS.Exc
import HandS.ExcField
import HandS.ExcIs
import HandS.ExcInit
import HandS.ExcSuper
import HandS.TryMany
import HandS.CallSlots
import HandS.WordsExc
import KE.KExcIs
import HandS.Dict
import HandS.Deep
import HandS.DeepEq
import HandS.Iter
import HandS.Zip
import HandS.Comp
import KE.KDictKeyed
import KE.KeyNested
import KE.KDictWalk
import HandS.OwnEq
import PyProof.NeKinds
import KE.KDictPairs
import HandS.ForMost
import HandS.Wide
import HandS.IsInst
import HandS.TupAny
import HandS.Evl
import HandS.Codes
import HandS.Gcd
import HandS.OwnEq
import HandS.Defaults
import PySem.Challenge.RW_sureplay_k42_pure_and_even_plans
set_option Elab.async false
set_option linter.all false
set_option maxRecDepth 100000
set_option maxHeartbeats 4000000
set_option Elab.async false
set_option linter.all false
set_option maxRecDepth 100000
/-! Own lemmas: stepping through readings (go_), tests, heaps. No program in sight. -/
namespace Gx
open PySem PySem.Spec PyProof.Rows L2

/-! ### statements -/
section
variable {D : Ends} {σ : L2.St} {H : Hp} {t u c : TS} {te ta tb tc tl th : TE} {i : Nat} {Q : VK} {QB : Bool → Hp → Prop}
theorem go_seq (h : t { D with nx := u D } σ H) : tSeq t u D σ H := h
theorem go_cut (M : L2.St → Hp → Prop) (h : t { D with nx := M } σ H) (k : ∀ σ' H', M σ' H' → u D σ' H') : Evl.tCut t u D σ H := ⟨M, h, k⟩
theorem go_asg {g : TG} (h : te σ H fun x H1 => g x σ H1 D.nx) : tAsg te g D σ H := h
theorem go_name {v : V} {R : L2.St → Hp → Prop} (h : R (σ.set i (some v)) H) : gName i v σ H R := h
theorem go_drop (h : te σ H fun _ H1 => D.nx σ H1) : tDrop te D σ H := h
theorem go_ret (h : te σ H D.rt) : tRet te D σ H := h
theorem go_retN (h : D.rt .non H) : tRetN D σ H := h
theorem go_next (h : D.nx σ H) : tNext D σ H := h
theorem go_brk (h : D.bk σ H) : tBreak D σ H := h
theorem go_cont (h : D.ct σ H) : tCont D σ H := h
theorem go_if {tt : TT} (h : tt σ H fun b H1 => if b = true then t D σ H1 else u D σ H1) : tIfS tt t u D σ H := h
/-! ### expressions -/
theorem go_var {v : V} (e : σ[i]? = some (some v)) (h : Q v H) : tVar i σ H Q := ⟨v, e, h⟩
theorem go_c {v : V} (h : Q v H) : tC v σ H Q := h
theorem go_op {r : R2} (h : ta σ H fun x H1 => tb σ H1 fun y H2 => r x y H2 Q) : tOp r ta tb σ H Q := h
theorem go_un {r : V → Hp → VK → Prop} (h : ta σ H fun x H1 => r x H1 Q) : tUn r ta σ H Q := h
theorem go_rI0 {g : Int → Int → V} {a b : Int} (h : Q (g a b) H) : rI0 g (.int a) (.int b) H Q := ⟨a, b, rfl, rfl, h⟩
theorem go_rI {C : Int → Int → Prop} {g : Int → Int → V} {a b : Int} (hc : C a b) (h : Q (g a b) H) : rI C g (.int a) (.int b) H Q := ⟨a, b, rfl, rfl, hc, h⟩
theorem go_rU {g : Int → V} {a : Int} (h : Q (g a) H) : rU g (.int a) H Q := ⟨a, rfl, h⟩
theorem go_eqI {a b : Int} (h : Q (.bl (decide (a = b))) H) : rEq (.int a) (.int b) H Q := ⟨rfl, by simpa using h⟩
theorem go_neI {a b : Int} (h : Q (.bl (!decide (a = b))) H) : rNe (.int a) (.int b) H Q := ⟨rfl, by simpa using h⟩
theorem go_eqS {a b : Str} (h : Q (.bl (decide (a = b))) H) : rEq (.str a) (.str b) H Q := ⟨rfl, by simpa using h⟩
theorem go_neS {a b : Str} (h : Q (.bl (!decide (a = b))) H) : rNe (.str a) (.str b) H Q := ⟨rfl, by simpa using h⟩
theorem go_eqB {a b : Bool} (h : Q (.bl (decide (a = b))) H) : rEq (.bl a) (.bl b) H Q := ⟨rfl, by simpa using h⟩
theorem go_neB {a b : Bool} (h : Q (.bl (!decide (a = b))) H) : rNe (.bl a) (.bl b) H Q := ⟨rfl, by simpa using h⟩
theorem go_eqN (h : Q (.bl true) H) : rEq .non .non H Q := ⟨rfl, by simpa using h⟩
theorem ite_dt {α : Type} [DecidableEq α] {a : α} {A B : Prop} (h : A) : if decide (a = a) = true then A else B := by rw [decide_eq_true rfl]; exact h
theorem go_test (h : te σ H fun x H1 => ∃ k, x = .bl k ∧ QB k H1) : tTest te σ H QB := h
theorem go_B (h : te σ H fun x H1 => ∃ k, x = .bl k ∧ QB k H1) : tB te σ H QB := h
theorem go_bl {b : Bool} (h : QB b H) : ∃ k, V.bl b = .bl k ∧ QB k H := ⟨b, rfl, h⟩
theorem go_and {t u : TT} (h : t σ H fun b H1 => if b = true then u σ H1 QB else QB false H1) : tAnd t u σ H QB := h
theorem go_or {t u : TT} (h : t σ H fun b H1 => if b = true then QB true H1 else u σ H1 QB) : tOr t u σ H QB := h
theorem go_not {t : TT} (h : t σ H fun b H1 => QB (!b) H1) : tNot t σ H QB := h
theorem go_andV (h : ta σ H fun x H1 => ∃ c, x = .bl c ∧ if c = true then tb σ H1 Q else Q (.bl false) H1) : tAndV ta tb σ H Q := h
theorem go_orV (h : ta σ H fun x H1 => ∃ c, x = .bl c ∧ if c = true then Q (.bl true) H1 else tb σ H1 Q) : tOrV ta tb σ H Q := h
theorem go_notV (h : ta σ H fun x H1 => ∃ c, x = .bl c ∧ Q (.bl (!c)) H1) : tNotV ta σ H Q := h
theorem go_ifE {t : TT} (h : t σ H fun c H1 => if c = true then ta σ H1 Q else tb σ H1 Q) : tIf t ta tb σ H Q := h
theorem go_blA {b : Bool} {R : Bool → Prop} (h : R b) : ∃ k, V.bl b = .bl k ∧ R k := ⟨b, rfl, h⟩
theorem go_not_t {QB : Bool → Hp → Prop} (h : QB false H) : QB (!true) H := h
theorem go_not_f {QB : Bool → Hp → Prop} (h : QB true H) : QB (!false) H := h
theorem go_chain {r r' : R2} (h : ta σ H fun x H1 => tb σ H1 fun y H2 => r x y H2 fun z H3 => ∃ k, z = .bl k ∧ (if k = true then tc σ H3 fun w' H4 => r' y w' H4 Q else Q (.bl false) H3)) : tChain r r' ta tb tc σ H Q := h
/-! ### calls -/
theorem go_CB {r : List V → Hp → VK → Prop} {t : TA} (h : t σ H fun vs H1 => r vs H1 Q) : tCB r t σ H Q := h
theorem go_cons {t : TA} {R : List V → Hp → Prop} (h : ta σ H fun x H1 => t σ H1 fun xs H2 => R (x :: xs) H2) : tCons ta t σ H R := h
theorem go_nil {R : List V → Hp → Prop} (h : R [] H) : tNil σ H R := h
theorem go_call {sp : Sp} {dvs : List V} {E : XK} {t : TA} (h : t σ H fun vs H1 => sp (vs ++ dvs) H1 Q E) : tCall sp dvs E t σ H Q := h
theorem go_isi {K : PySem.W.Frag} {x c : V} {t u : Value} {b : Bool} (k : ClsV c u) (ty : TyX K H x t) (e : PySem.W.kitOne K t u = some b) (h : Q (.bl b) H) : rIsi K [x, c] H Q := ⟨x, c, t, u, b, rfl, k, ty, e, h⟩
theorem go_isiB {K : PySem.W.Frag} {x : V} {a c : String} {b : Bool} (ty : TyX K H x (.type a)) (e : kitB a c = some b) (h : Q (.bl b) H) : rIsi K [x, .ty c] H Q := ⟨x, .ty c, .type a, .type c, b, rfl, .ty c, ty, kit_ty e, h⟩
theorem go_lst {t : TA} (h : t σ H fun vs H1 => vs.length ≤ sizeLine ∧ ∀ l, H1 l = none → Q (.ref l) (upd H1 l (.lst vs))) : tLst t σ H Q := h
theorem go_tup {t : TA} (h : t σ H fun vs H1 => vs.length ≤ sizeLine ∧ ∀ l, H1 l = none → Q (.ref l) (upd H1 l (.tup vs))) : tTup t σ H Q := h
theorem go_sl {r : V → Option Int → Option Int → Hp → VK → Prop} {tlo tho : TO} (h : te σ H fun x H1 => tlo σ H1 fun lo H2 => tho σ H2 fun hi H3 => r x lo hi H3 Q) : tSl r te tlo tho σ H Q := h
theorem go_noPart {R : Option Int → Hp → Prop} (h : R none H) : tNoPart σ H R := h
theorem go_part {R : Option Int → Hp → Prop} (h : te σ H fun x H1 => ∃ i, x = .int i ∧ R (some i) H1) : tPart te σ H R := h
theorem go_partI {a : Int} {R : Int → Prop} (h : R a) : ∃ i, V.int a = .int i ∧ R i := ⟨a, rfl, h⟩
theorem go_slL {K : PySem.W.Frag} {a : Addr} {xs : List V} {lo hi : Option Int} (hs : SqL K H a xs) (h : ∀ p, H p = none → Q (.ref p) (upd H p (.lst (cutV xs lo hi)))) : rSlL K (.ref a) lo hi H Q := ⟨a, xs, rfl, hs, h⟩
theorem go_ixL {K : PySem.W.Frag} {a : Addr} {xs : List V} {k : Int} {v : V} (hs : SqL K H a xs) (e : atI xs k = some v) (h : Q v H) : rIxL K (.ref a) (.int k) H Q := ⟨a, xs, k, v, rfl, rfl, hs, e, h⟩
theorem go_ixT {K : PySem.W.Frag} {a : Addr} {xs : List V} {k : Int} {v : V} (hs : SqT K H a xs) (e : atI xs k = some v) (h : Q v H) : rIxT K (.ref a) (.int k) H Q := ⟨a, xs, k, v, rfl, rfl, hs, e, h⟩
end
/-! ### isinstance of scalars -/
theorem isi_int_int {K : PySem.W.Frag} {H : Hp} {Q : VK} {k : Int} (h : Q (.bl true) H) : rIsi K [(V.int k), .ty "int"] H Q := go_isiB (.base (.int _)) (by decide +kernel) h
theorem isi_int_bool {K : PySem.W.Frag} {H : Hp} {Q : VK} {k : Int} (h : Q (.bl false) H) : rIsi K [(V.int k), .ty "bool"] H Q := go_isiB (.base (.int _)) (by decide +kernel) h
theorem isi_int_str {K : PySem.W.Frag} {H : Hp} {Q : VK} {k : Int} (h : Q (.bl false) H) : rIsi K [(V.int k), .ty "str"] H Q := go_isiB (.base (.int _)) (by decide +kernel) h
theorem isi_int_list {K : PySem.W.Frag} {H : Hp} {Q : VK} {k : Int} (h : Q (.bl false) H) : rIsi K [(V.int k), .ty "list"] H Q := go_isiB (.base (.int _)) (by decide +kernel) h
theorem isi_int_tuple {K : PySem.W.Frag} {H : Hp} {Q : VK} {k : Int} (h : Q (.bl false) H) : rIsi K [(V.int k), .ty "tuple"] H Q := go_isiB (.base (.int _)) (by decide +kernel) h
theorem isi_bool_int {K : PySem.W.Frag} {H : Hp} {Q : VK} {k : Bool} (h : Q (.bl true) H) : rIsi K [(V.bl k), .ty "int"] H Q := go_isiB (.base (.bl _)) (by decide +kernel) h
theorem isi_bool_bool {K : PySem.W.Frag} {H : Hp} {Q : VK} {k : Bool} (h : Q (.bl true) H) : rIsi K [(V.bl k), .ty "bool"] H Q := go_isiB (.base (.bl _)) (by decide +kernel) h
theorem isi_bool_str {K : PySem.W.Frag} {H : Hp} {Q : VK} {k : Bool} (h : Q (.bl false) H) : rIsi K [(V.bl k), .ty "str"] H Q := go_isiB (.base (.bl _)) (by decide +kernel) h
theorem isi_bool_list {K : PySem.W.Frag} {H : Hp} {Q : VK} {k : Bool} (h : Q (.bl false) H) : rIsi K [(V.bl k), .ty "list"] H Q := go_isiB (.base (.bl _)) (by decide +kernel) h
theorem isi_bool_tuple {K : PySem.W.Frag} {H : Hp} {Q : VK} {k : Bool} (h : Q (.bl false) H) : rIsi K [(V.bl k), .ty "tuple"] H Q := go_isiB (.base (.bl _)) (by decide +kernel) h
theorem isi_str_int {K : PySem.W.Frag} {H : Hp} {Q : VK} {k : Str} (h : Q (.bl false) H) : rIsi K [(V.str k), .ty "int"] H Q := go_isiB (.base (.str _)) (by decide +kernel) h
theorem isi_str_bool {K : PySem.W.Frag} {H : Hp} {Q : VK} {k : Str} (h : Q (.bl false) H) : rIsi K [(V.str k), .ty "bool"] H Q := go_isiB (.base (.str _)) (by decide +kernel) h
theorem isi_str_str {K : PySem.W.Frag} {H : Hp} {Q : VK} {k : Str} (h : Q (.bl true) H) : rIsi K [(V.str k), .ty "str"] H Q := go_isiB (.base (.str _)) (by decide +kernel) h
theorem isi_str_list {K : PySem.W.Frag} {H : Hp} {Q : VK} {k : Str} (h : Q (.bl false) H) : rIsi K [(V.str k), .ty "list"] H Q := go_isiB (.base (.str _)) (by decide +kernel) h
theorem isi_str_tuple {K : PySem.W.Frag} {H : Hp} {Q : VK} {k : Str} (h : Q (.bl false) H) : rIsi K [(V.str k), .ty "tuple"] H Q := go_isiB (.base (.str _)) (by decide +kernel) h
theorem isi_NoneType_int {K : PySem.W.Frag} {H : Hp} {Q : VK} (h : Q (.bl false) H) : rIsi K [V.non, .ty "int"] H Q := go_isiB (.base .non) (by decide +kernel) h
theorem isi_NoneType_bool {K : PySem.W.Frag} {H : Hp} {Q : VK} (h : Q (.bl false) H) : rIsi K [V.non, .ty "bool"] H Q := go_isiB (.base .non) (by decide +kernel) h
theorem isi_NoneType_str {K : PySem.W.Frag} {H : Hp} {Q : VK} (h : Q (.bl false) H) : rIsi K [V.non, .ty "str"] H Q := go_isiB (.base .non) (by decide +kernel) h
theorem isi_NoneType_list {K : PySem.W.Frag} {H : Hp} {Q : VK} (h : Q (.bl false) H) : rIsi K [V.non, .ty "list"] H Q := go_isiB (.base .non) (by decide +kernel) h
theorem isi_NoneType_tuple {K : PySem.W.Frag} {H : Hp} {Q : VK} (h : Q (.bl false) H) : rIsi K [V.non, .ty "tuple"] H Q := go_isiB (.base .non) (by decide +kernel) h
theorem isi_list_int {K : PySem.W.Frag} {H : Hp} {Q : VK} {p : Addr} {xs : List V} (e : H p = some (.lst xs)) (h : Q (.bl false) H) : rIsi K [.ref p, .ty "int"] H Q := go_isiB (.base (.lst e)) (by decide +kernel) h
theorem isi_list_bool {K : PySem.W.Frag} {H : Hp} {Q : VK} {p : Addr} {xs : List V} (e : H p = some (.lst xs)) (h : Q (.bl false) H) : rIsi K [.ref p, .ty "bool"] H Q := go_isiB (.base (.lst e)) (by decide +kernel) h
theorem isi_list_str {K : PySem.W.Frag} {H : Hp} {Q : VK} {p : Addr} {xs : List V} (e : H p = some (.lst xs)) (h : Q (.bl false) H) : rIsi K [.ref p, .ty "str"] H Q := go_isiB (.base (.lst e)) (by decide +kernel) h
theorem isi_list_list {K : PySem.W.Frag} {H : Hp} {Q : VK} {p : Addr} {xs : List V} (e : H p = some (.lst xs)) (h : Q (.bl true) H) : rIsi K [.ref p, .ty "list"] H Q := go_isiB (.base (.lst e)) (by decide +kernel) h
theorem isi_list_tuple {K : PySem.W.Frag} {H : Hp} {Q : VK} {p : Addr} {xs : List V} (e : H p = some (.lst xs)) (h : Q (.bl false) H) : rIsi K [.ref p, .ty "tuple"] H Q := go_isiB (.base (.lst e)) (by decide +kernel) h
theorem isi_tuple_int {K : PySem.W.Frag} {H : Hp} {Q : VK} {p : Addr} {xs : List V} (e : H p = some (.tup xs)) (h : Q (.bl false) H) : rIsi K [.ref p, .ty "int"] H Q := go_isiB (.base (.tup e)) (by decide +kernel) h
theorem isi_tuple_bool {K : PySem.W.Frag} {H : Hp} {Q : VK} {p : Addr} {xs : List V} (e : H p = some (.tup xs)) (h : Q (.bl false) H) : rIsi K [.ref p, .ty "bool"] H Q := go_isiB (.base (.tup e)) (by decide +kernel) h
theorem isi_tuple_str {K : PySem.W.Frag} {H : Hp} {Q : VK} {p : Addr} {xs : List V} (e : H p = some (.tup xs)) (h : Q (.bl false) H) : rIsi K [.ref p, .ty "str"] H Q := go_isiB (.base (.tup e)) (by decide +kernel) h
theorem isi_tuple_list {K : PySem.W.Frag} {H : Hp} {Q : VK} {p : Addr} {xs : List V} (e : H p = some (.tup xs)) (h : Q (.bl false) H) : rIsi K [.ref p, .ty "list"] H Q := go_isiB (.base (.tup e)) (by decide +kernel) h
theorem isi_tuple_tuple {K : PySem.W.Frag} {H : Hp} {Q : VK} {p : Addr} {xs : List V} (e : H p = some (.tup xs)) (h : Q (.bl true) H) : rIsi K [.ref p, .ty "tuple"] H Q := go_isiB (.base (.tup e)) (by decide +kernel) h
section
variable {D : Ends} {σ : L2.St} {H : Hp} {t u c : TS} {te ta tb tc tl th : TE} {i : Nat} {Q : VK} {QB : Bool → Hp → Prop}
/-! ### what a test comes to -/
theorem ite_d {p : Prop} [Decidable p] {A B : Prop} (h1 : p → A) (h2 : ¬ p → B) : if decide p = true then A else B := by
  by_cases h : p
  · rw [decide_eq_true h]; exact h1 h
  · rw [decide_eq_false h]; exact h2 h
theorem ite_nd {p : Prop} [Decidable p] {A B : Prop} (h1 : ¬ p → A) (h2 : p → B) : if (!decide p) = true then A else B := by
  by_cases h : p
  · rw [decide_eq_true h]; exact h2 h
  · rw [decide_eq_false h]; exact h1 h
theorem ite_nt {A B : Prop} (h : B) : if (!true) = true then A else B := h
theorem ite_nf {A B : Prop} (h : A) : if (!false) = true then A else B := h
theorem ite_b {b : Bool} {A B : Prop} (h1 : b = true → A) (h2 : b = false → B) : if b = true then A else B := by
  cases b with
  | true => exact h1 rfl
  | false => exact h2 rfl
end
/-! ### readings by name -/
section
variable {X : Cx} {H : Hp} {Q : VK} {K : PySem.W.Frag}
def qInt1 : List V → Hp → VK → Prop := fun xs H Q => (∃ i, xs = [.int i] ∧ Q (.int i) H) ∨ ∃ k, xs = [.bl k] ∧ Q (.int (if k then 1 else 0)) H
theorem k_int1 : CallR X (.type "int") qInt1 := call_int1
theorem go_int1 {a : Int} (h : Q (.int a) H) : qInt1 [.int a] H Q := .inl ⟨a, rfl, h⟩
theorem go_intB {b : Bool} (h : Q (.int (if b then 1 else 0)) H) : qInt1 [.bl b] H Q := .inr ⟨b, rfl, h⟩
def qBool1 : List V → Hp → VK → Prop := fun xs H Q => (∃ i, xs = [.int i] ∧ Q (.bl (i != 0)) H) ∨ ∃ k, xs = [.bl k] ∧ Q (.bl k) H
theorem k_bool1 : CallR X (.type "bool") qBool1 := call_bool1
theorem go_bool1 {a : Int} (h : Q (.bl (a != 0)) H) : qBool1 [.int a] H Q := .inl ⟨a, rfl, h⟩
theorem go_boolB {b : Bool} (h : Q (.bl b) H) : qBool1 [.bl b] H Q := .inr ⟨b, rfl, h⟩
def qStrInt : List V → Hp → VK → Prop := fun xs H Q => ∃ i, xs = [.int i] ∧ i.natAbs.log2 < 1920 ∧ Q (.str (toString i)) H
theorem k_str_int : CallR X (.type "str") qStrInt := call_str_int
theorem go_str_int {a : Int} (ha : a.natAbs.log2 < 1920) (h : Q (.str (toString a)) H) : qStrInt [.int a] H Q := ⟨a, rfl, ha, h⟩
def qAbs : List V → Hp → VK → Prop := fun xs H Q => ∃ i, xs = [.int i] ∧ Q (.int (if i < 0 then -i else i)) H
theorem k_abs : CallR X (.builtin "abs") qAbs := call_abs
theorem go_abs {a : Int} (h : Q (.int (if a < 0 then -a else a)) H) : qAbs [.int a] H Q := ⟨a, rfl, h⟩
def qMax2 : List V → Hp → VK → Prop := fun xs H Q => ∃ i j, xs = [.int i, .int j] ∧ Q (.int (if j > i then j else i)) H
theorem k_max2 (hc : X.calm = true) : CallR X (.builtin "max") qMax2 := call_max2 hc
theorem go_max2 {a b : Int} (h : Q (.int (if b > a then b else a)) H) : qMax2 [.int a, .int b] H Q := ⟨a, b, rfl, h⟩
def qMin2 : List V → Hp → VK → Prop := fun xs H Q => ∃ i j, xs = [.int i, .int j] ∧ Q (.int (if j < i then j else i)) H
theorem k_min2 (hc : X.calm = true) : CallR X (.builtin "min") qMin2 := call_min2 hc
theorem go_min2 {a b : Int} (h : Q (.int (if b < a then b else a)) H) : qMin2 [.int a, .int b] H Q := ⟨a, b, rfl, h⟩
def qOrd : List V → Hp → VK → Prop := fun xs H Q => ∃ x, xs = [.str x] ∧ x.length = 1 ∧ Q (.int (x.cps.getD 0 0 : Nat)) H
theorem k_ord : CallR X (.builtin "ord") qOrd := call_ord
theorem go_ord {c : Nat} (h : Q (.int (c : Nat)) H) : qOrd [.str ⟨#[c]⟩] H Q := ⟨⟨#[c]⟩, rfl, rfl, h⟩
def qLen (K : PySem.W.Frag) : List V → Hp → VK → Prop := fun xs H Q => ∃ x n, xs = [x] ∧ LenV K x H n ∧ Q (.int n) H
theorem k_len : CallR X (.builtin "len") (qLen X.K) := call_len
theorem go_lenL {a : Addr} {xs : List V} (hs : SqL K H a xs) (h : Q (.int (xs.length : Nat)) H) : qLen K [.ref a] H Q := ⟨.ref a, xs.length, rfl, .inl ⟨xs, hs, rfl⟩, h⟩
theorem go_lenT {a : Addr} {xs : List V} (hs : SqT K H a xs) (h : Q (.int (xs.length : Nat)) H) : qLen K [.ref a] H Q := ⟨.ref a, xs.length, rfl, .inr ⟨xs, hs, rfl⟩, h⟩
theorem go_lenS {y : Str} (hz : y.length ≤ sizeLine) (h : Q (.int (y.length : Nat)) H) : qLen K [.str y] H Q := ⟨.str y, y.length, rfl, ⟨hz, rfl⟩, h⟩
def qListOf (K : PySem.W.Frag) : List V → Hp → VK → Prop := fun xs H Q => ∃ p ys, xs = [.ref p] ∧ (SqL K H p ys ∨ SqT K H p ys) ∧ ∀ l, H l = none → Q (.ref l) (upd H l (.lst ys))
theorem k_list_of : CallR X (.type "list") (qListOf X.K) := call_list_of
theorem go_listOfL {a : Addr} {xs : List V} (hs : SqL K H a xs) (h : ∀ l, H l = none → Q (.ref l) (upd H l (.lst xs))) : qListOf K [.ref a] H Q := ⟨a, xs, rfl, .inl hs, h⟩
theorem go_listOfT {a : Addr} {xs : List V} (hs : SqT K H a xs) (h : ∀ l, H l = none → Q (.ref l) (upd H l (.lst xs))) : qListOf K [.ref a] H Q := ⟨a, xs, rfl, .inr hs, h⟩
def qTupOf (K : PySem.W.Frag) : List V → Hp → VK → Prop := fun xs H Q => ∃ p ys, xs = [.ref p] ∧ ((SqL K H p ys ∧ ∀ l, H l = none → Q (.ref l) (upd H l (.tup ys))) ∨ (SqT K H p ys ∧ Q (.ref p) H))
theorem k_tuple_of : CallR X (.type "tuple") (qTupOf X.K) := call_tuple_of
theorem go_tupOfL {a : Addr} {xs : List V} (hs : SqL K H a xs) (h : ∀ l, H l = none → Q (.ref l) (upd H l (.tup xs))) : qTupOf K [.ref a] H Q := ⟨a, xs, rfl, .inl ⟨hs, h⟩⟩
theorem go_tupOfT {a : Addr} {xs : List V} (hs : SqT K H a xs) (h : Q (.ref a) H) : qTupOf K [.ref a] H Q := ⟨a, xs, rfl, .inr ⟨hs, h⟩⟩
theorem go_sum {a : Addr} {ns : List Int} (hs : SqL K H a (ns.map V.int)) (h : Q (.int ns.sum) H) : rSum K [.ref a] H Q := ⟨a, ns, rfl, hs, h⟩
theorem go_all {a : Addr} {bs : List Bool} (hs : SqL K H a (bs.map V.bl)) (h : Q (.bl (bs.all id)) H) : rAll K [.ref a] H Q := ⟨a, bs, rfl, hs, h⟩
theorem go_any {a : Addr} {bs : List Bool} (hs : SqL K H a (bs.map V.bl)) (h : Q (.bl (bs.any id)) H) : rAny K [.ref a] H Q := ⟨a, bs, rfl, hs, h⟩
def qIsN : R2 := fun x y H Q => y = .non ∧ Q (.bl (decide (x = .non))) H
theorem o_isN : OpR X (compareOp .Is) qIsN := op_isN
def qNotN : R2 := fun x y H Q => y = .non ∧ Q (.bl (!decide (x = .non))) H
theorem o_notN : OpR X (compareOp .IsNot) qNotN := op_notN
theorem go_isN0 (h : Q (.bl true) H) : qIsN .non .non H Q := ⟨rfl, by simpa using h⟩
theorem go_isNI {i : Int} (h : Q (.bl false) H) : qIsN (.int i) .non H Q := ⟨rfl, by simpa using h⟩
theorem go_isNS {i : Str} (h : Q (.bl false) H) : qIsN (.str i) .non H Q := ⟨rfl, by simpa using h⟩
theorem go_isNB {i : Bool} (h : Q (.bl false) H) : qIsN (.bl i) .non H Q := ⟨rfl, by simpa using h⟩
theorem go_isNR {i : Addr} (h : Q (.bl false) H) : qIsN (.ref i) .non H Q := ⟨rfl, by simpa using h⟩
theorem go_notN0 (h : Q (.bl false) H) : qNotN .non .non H Q := ⟨rfl, by simpa using h⟩
theorem go_notNI {i : Int} (h : Q (.bl true) H) : qNotN (.int i) .non H Q := ⟨rfl, by simpa using h⟩
theorem go_notNS {i : Str} (h : Q (.bl true) H) : qNotN (.str i) .non H Q := ⟨rfl, by simpa using h⟩
theorem go_notNB {i : Bool} (h : Q (.bl true) H) : qNotN (.bl i) .non H Q := ⟨rfl, by simpa using h⟩
theorem go_notNR {i : Addr} (h : Q (.bl true) H) : qNotN (.ref i) .non H Q := ⟨rfl, by simpa using h⟩
def qLtS : R2 := fun x y H Q => ∃ i j, x = .str i ∧ y = .str j ∧ Q (.bl (decide (i.cps.toList < j.cps.toList))) H
theorem o_lt_str : OpR X (compareOp .Lt) qLtS := op_lt_str
theorem go_ltS {a b : Str} (h : Q (.bl (decide (a.cps.toList < b.cps.toList))) H) : qLtS (.str a) (.str b) H Q := ⟨a, b, rfl, rfl, h⟩
def qLeS : R2 := fun x y H Q => ∃ i j, x = .str i ∧ y = .str j ∧ Q (.bl (!decide (j.cps.toList < i.cps.toList))) H
theorem o_le_str : OpR X (compareOp .LtE) qLeS := op_le_str
theorem go_leS {a b : Str} (h : Q (.bl (!decide (b.cps.toList < a.cps.toList))) H) : qLeS (.str a) (.str b) H Q := ⟨a, b, rfl, rfl, h⟩
def qAddS : R2 := fun x y H Q => ∃ i j, x = .str i ∧ y = .str j ∧ i.length + j.length ≤ sizeLine ∧ Q (.str (i ++ j)) H
theorem o_add_str : OpR X (binaryOp .Add) qAddS := op_add_str
theorem go_addS {a b : Str} (hz : a.length + b.length ≤ sizeLine) (h : Q (.str (a ++ b)) H) : qAddS (.str a) (.str b) H Q := ⟨a, b, rfl, rfl, hz, h⟩
theorem go_cat {l b : Addr} {xs zs : List V} (h1 : H l = some (.lst xs)) (h2 : H b = some (.lst zs)) (hz : xs.length + zs.length ≤ sizeLine) (h : ∀ p, H p = none → Q (.ref p) (upd H p (.lst (xs ++ zs)))) : rCat (.ref l) (.ref b) H Q := ⟨l, b, xs, zs, rfl, rfl, h1, h2, hz, h⟩
theorem go_slS {z : Str} {lo hi : Option Int} (hz : z.length ≤ sizeLine) (h : Q (.str (cutS z lo hi)) H) : rSlS (.str z) lo hi H Q := ⟨z, rfl, hz, h⟩
theorem go_ixS {z : Str} {i : Int} {c : Nat} (hz : z.length ≤ sizeLine) (e : atI z.cps.toList i = some c) (h : Q (.str ⟨#[c]⟩) H) : rIxS (.str z) (.int i) H Q := ⟨z, i, c, rfl, rfl, hz, e, h⟩
theorem go_append {l : Addr} {xs : List V} {y : V} (e : H l = some (.lst xs)) (hz : xs.length < sizeLine) (h : Q .non (upd H l (.lst (xs ++ [y])))) : rAppend (.ref l) [y] H Q := ⟨l, xs, y, rfl, rfl, e, hz, h⟩
theorem go_BM {T : String} {r : V → List V → Hp → VK → Prop} {to : TE} {t : TA} {σ : L2.St} (h : to σ H fun x H1 => tyV K T x H1 ∧ t σ H1 fun xs H2 => r x xs H2 Q) : tBM K T r to t σ H Q := h
theorem go_BM0 {T : String} {r : V → List V → Hp → VK → Prop} {to : TE} {σ : L2.St} (h : to σ H fun x H1 => tyV K T x H1 ∧ r x [] H1 Q) : tBM0 K T r to σ H Q := h
end
/-! ### rules within a comprehension: the written part told apart -/
section
variable {X : Cx} {K : PySem.W.Frag} {e : Expr} {ta : TE} {f : Str} {pos : Pos}
theorem pe_fldK (hK : X.K = K) (he : PE X e ta) (hb : attributeBase e f X.env (eval e X.env) = eval e X.env) : PE X (.Attribute e f pos) (tFld K ta f) := by subst hK; exact pe_fld he hb
theorem ix_listK (hK : X.K = K) : IxR X (rIxL K) := by subst hK; exact ix_list
theorem ix_tupK (hK : X.K = K) : IxR X (rIxT K) := by subst hK; exact ix_tup
theorem ix_seqK (hK : X.K = K) : IxR X (rIx K) := by subst hK; exact ix_seq
theorem sl_listK (hK : X.K = K) : SlR X (rSlL K) := by subst hK; exact sl_list
theorem k_lenK (hK : X.K = K) : CallR X (.builtin "len") (qLen K) := by subst hK; exact k_len
theorem call_isiK (hK : X.K = K) : CallR X (.builtin "isinstance") (rIsi K) := by subst hK; exact call_isi
theorem k_list_ofK (hK : X.K = K) : CallR X (.type "list") (qListOf K) := by subst hK; exact k_list_of
theorem k_tuple_ofK (hK : X.K = K) : CallR X (.type "tuple") (qTupOf K) := by subst hK; exact k_tuple_of
theorem cr_sumK (hK : X.K = K) (hc : X.calm = true) : CallR X (.builtin "sum") (rSum K) := by subst hK; exact cr_sum hc
theorem cr_allK (hK : X.K = K) (hc : X.calm = true) : CallR X (.builtin "all") (rAll K) := by subst hK; exact cr_all hc
theorem cr_anyK (hK : X.K = K) (hc : X.calm = true) : CallR X (.builtin "any") (rAny K) := by subst hK; exact cr_any hc
theorem op_in_seqK (hK : X.K = K) : OpR X (compareOp .In) (rIn K false) := by subst hK; exact op_in_seq
theorem op_notIn_seqK (hK : X.K = K) : OpR X (compareOp .NotIn) (rIn K true) := by subst hK; exact op_notIn_seq
theorem op_eqDK (hK : X.K = K) (hu : X.A.units + 64 < cLine) : OpR X (compareOp .Eq) (rEqD K) := by subst hK; exact op_eqD hu
theorem op_neDK (hK : X.K = K) (hu : X.A.units + 64 < cLine) : OpR X (compareOp .NotEq) (rNeD K) := by subst hK; exact op_neD hu
end
/-! ### heaps -/
theorem same_new {H : Hp} {p : Addr} {o : HO} (h : H p = none) : Same H (upd H p o) := fun b x e => by
  rw [upd_ne (ne_of_none e h)]
  exact e
/-- an object that H does not know may change -/
theorem same_mut {H H' : Hp} {p : Addr} {o : HO} (e : Same H H') (h : H p = none) : Same H (upd H' p o) := fun a u ha => by
  rw [upd_ne (ne_of_none ha h)]
  exact e a u ha
theorem same_sqL {K : PySem.W.Frag} {H H' : Hp} {a : Addr} {xs : List V} (e : Same H H') (h : SqL K H a xs) : SqL K H' a xs := e.seq h
theorem same_rd {H H' : Hp} {a : Addr} {u : HO} (e : Same H H') (h : Rd H a u) : Rd H' a u := by
  rcases h with h | ⟨o, h⟩
  · exact Or.inl (e a _ h)
  · exact Or.inr ⟨o, e a _ h⟩
theorem same_sqT {K : PySem.W.Frag} {H H' : Hp} {a : Addr} {xs : List V} (e : Same H H') (h : SqT K H a xs) : SqT K H' a xs := by
  rcases h with h | h
  · exact Or.inl (same_rd e h)
  · exact Or.inr h
theorem sz {n : Nat} (h : n ≤ 100000) : n ≤ sizeLine := Nat.le_trans h (by decide)
theorem szlt {n : Nat} (h : n ≤ 100000) : n < sizeLine := Nat.lt_of_le_of_lt h (by decide)
/-- the list of ints at a place in bounds -/
theorem at_nat {xs : List V} {i : Nat} {v : V} (h : xs[i]? = some v) : atI xs (i : Int) = some v := atI_nat h
theorem at_int {ns : List Int} {k : Int} (h0 : 0 ≤ k) (h : k < ns.length) : atI (ns.map V.int) k = some (.int (ns.getD k.toNat 0)) := by
  have e : k = (k.toNat : Int) := by omega
  have h2 : k.toNat < ns.length := by omega
  rw [e]
  refine at_nat ?_
  rw [List.getElem?_map, Int.toNat_natCast, List.getElem?_eq_getElem h2, List.getD_eq_getElem?_getD, List.getElem?_eq_getElem h2]
  rfl
/-! ### lists of ints: ==, slices, sums -/
theorem dp_ints {K : PySem.W.Frag} {H : Hp} : ∀ ns : List Int, DpAll K H (ns.map V.int) (ns.map PyData.int)
  | [] => .nil
  | n :: r => .cons (.int n) (dp_ints r)
theorem eqv_int (a b : Int) : PyData.eqv (.int a) (.int b) = decide (a = b) := by
  simp only [PyData.eqv]
  by_cases h : a = b
  · simp [h]
  · simp [h]
theorem eqvAll_ints : ∀ xs ys : List Int, PyData.eqvAll (xs.map PyData.int) (ys.map PyData.int) = decide (xs = ys)
  | [], [] => by simp [PyData.eqvAll]
  | [], _ :: _ => by simp [PyData.eqvAll]
  | _ :: _, [] => by simp [PyData.eqvAll]
  | x :: xs, y :: ys => by
    simp only [List.map_cons, PyData.eqvAll, eqv_int, eqvAll_ints xs ys]
    by_cases h : x = y <;> by_cases h2 : xs = ys <;> simp [h, h2]
theorem eqv_ints (xs ys : List Int) : PyData.eqv (.list (xs.map PyData.int)) (.list (ys.map PyData.int)) = decide (xs = ys) := by
  rw [PyData.eqv]
  exact eqvAll_ints xs ys
theorem depth_ints : ∀ xs : List Int, PyData.depthAll (xs.map PyData.int) = 0
  | [] => rfl
  | x :: xs => by
    rw [List.map_cons]
    unfold PyData.depthAll
    rw [depth_ints xs]
    rfl
theorem canLay_ints : ∀ xs : List Int, PyData.canLayAll0 (xs.map PyData.int) = true
  | [] => rfl
  | x :: xs => by
    rw [List.map_cons]
    simp only [PyData.canLayAll0, PyData.canLay0, canLay_ints xs, Bool.and_self]
theorem shaped_ints (xs : List Int) : SeqAt.shaped (.list (xs.map PyData.int)) = true := by
  unfold SeqAt.shaped
  have h1 : PyData.canLay0 (.list (xs.map PyData.int)) = true := by
    simp only [PyData.canLay0]
    exact canLay_ints xs
  have h2 : PyData.depth (.list (xs.map PyData.int)) ≤ 64 := by
    unfold PyData.depth
    rw [depth_ints xs]
    decide
  rw [h1, decide_eq_true h2]
  rfl
theorem go_eqInts {K : PySem.W.Frag} {H : Hp} {Q : VK} {a b : Addr} {xs ys : List Int} (h1 : SqL K H a (xs.map V.int)) (h2 : SqL K H b (ys.map V.int)) (h : Q (.bl (decide (xs = ys))) H) : rEqD K (.ref a) (.ref b) H Q :=
  ⟨_, _, .lst h1 (dp_ints xs), .lst h2 (dp_ints ys), shaped_ints xs, shaped_ints ys, by rw [eqv_ints]; exact h⟩
theorem go_neInts {K : PySem.W.Frag} {H : Hp} {Q : VK} {a b : Addr} {xs ys : List Int} (h1 : SqL K H a (xs.map V.int)) (h2 : SqL K H b (ys.map V.int)) (h : Q (.bl (!decide (xs = ys))) H) : rNeD K (.ref a) (.ref b) H Q :=
  ⟨_, _, .lst h1 (dp_ints xs), .lst h2 (dp_ints ys), shaped_ints xs, shaped_ints ys, by rw [eqv_ints]; exact h⟩
theorem cut_to (xs : List V) (k : Nat) : cutV xs none (some (k : Int)) = xs.take k := by
  unfold cutV
  rw [HT.sIx_none, HT.sIx_nat, List.drop_zero, Nat.sub_zero]
  rcases Nat.le_total k xs.length with h | h
  · rw [Nat.min_eq_left h]
  · rw [Nat.min_eq_right h, List.take_of_length_le (Nat.le_refl _), List.take_of_length_le h]
theorem cut_from (xs : List V) (k : Nat) : cutV xs (some (k : Int)) none = xs.drop k := by
  unfold cutV
  rw [HT.sIx_none, HT.sIx_nat]
  rcases Nat.le_total k xs.length with h | h
  · rw [Nat.min_eq_left h, List.take_of_length_le]
    rw [List.length_drop]
    exact Nat.le_refl _
  · rw [Nat.min_eq_right h, List.drop_of_length_le (Nat.le_refl _), List.drop_of_length_le h, List.take_nil]
theorem sum_take_succ (ws : List Int) (i : Nat) (h : i < ws.length) : (ws.take (i + 1)).sum = (ws.take i).sum + ws.getD i 0 := by
  rw [List.take_add_one, List.getElem?_eq_getElem h, List.sum_append, List.getD_eq_getElem?_getD, List.getElem?_eq_getElem h]
  simp
theorem sum_nonneg : ∀ {ws : List Int}, (∀ w ∈ ws, 0 ≤ w) → 0 ≤ ws.sum
  | [], _ => by simp
  | w :: r, h => by
    have h1 := h w (by simp)
    have h2 := sum_nonneg (ws := r) fun z hz => h z (by simp [hz])
    rw [List.sum_cons]
    omega
theorem sum_take_le {ws : List Int} (h : ∀ w ∈ ws, 0 ≤ w) (i : Nat) : (ws.take i).sum ≤ ws.sum := by
  have e := congrArg List.sum (List.take_append_drop i ws)
  rw [List.sum_append] at e
  have h2 := sum_nonneg (ws := ws.drop i) fun z hz => h z (List.mem_of_mem_drop hz)
  omega
/-- min, max as they are told -/
theorem lt_of_len {a b : Nat} (h : a < b) : (a : Int) < (b : Int) := by omega
/-! ### list comprehensions whose element changes nothing that stood -/
section
variable {K : PySem.W.Frag} {σ : L2.St} {H H1 : Hp} {Q : VK} {tl te : TE} {g : TG} {tt : TT} {vs : List Nat} {j : Nat} {wi : TI}
theorem go_iList {R : It → Hp → Prop} (h : tl σ H fun x H1 => ∃ a, x = .ref a ∧ (∃ xs, SqL K H1 a xs) ∧ R (Itl K a) H1) : iList K tl σ H R := h
theorem go_iListR {a : Addr} {xs : List V} {R : Addr → Prop} (hs : SqL K H a xs) (h : R a) : ∃ b, V.ref a = .ref b ∧ (∃ xs, SqL K H b xs) ∧ R b := ⟨a, rfl, ⟨xs, hs⟩, h⟩
theorem go_iRng1 {ta : TA} {R : It → Hp → Prop} (h : ta σ H fun vs H1 => ∃ j : Int, vs = [.int j] ∧ -(2 ^ 62) ≤ j ∧ j < 2 ^ 62 ∧ R (Itr 0 j.toNat) H1) : iRng1 ta σ H R := h
theorem go_iRng2 {ta : TA} {R : It → Hp → Prop} (h : ta σ H fun vs H1 => ∃ i j : Int, vs = [.int i, .int j] ∧ (-(2 ^ 62) ≤ i ∧ i < 2 ^ 62 ∧ -(2 ^ 62) ≤ j ∧ j < 2 ^ 62) ∧ R (Itr i (j - i).toNat) H1) : iRng2 ta σ H R := h
theorem go_rng1 {n : Int} {R : It → Hp → Prop} (hn : -(2 ^ 62) ≤ n ∧ n < 2 ^ 62) (h : R (Itr 0 n.toNat) H) : ∃ j : Int, [V.int n] = [.int j] ∧ -(2 ^ 62) ≤ j ∧ j < 2 ^ 62 ∧ R (Itr 0 j.toNat) H := ⟨n, rfl, hn.1, hn.2, h⟩
theorem go_rng2 {m n : Int} {R : It → Hp → Prop} (hm : -(2 ^ 62) ≤ m ∧ m < 2 ^ 62 ∧ -(2 ^ 62) ≤ n ∧ n < 2 ^ 62) (h : R (Itr m (n - m).toNat) H) :
    ∃ i j : Int, [V.int m, V.int n] = [.int i, .int j] ∧ (-(2 ^ 62) ≤ i ∧ i < 2 ^ 62 ∧ -(2 ^ 62) ≤ j ∧ j < 2 ^ 62) ∧ R (Itr i (j - i).toNat) H := ⟨m, n, rfl, hm, h⟩
theorem go_yes {QB : Bool → Hp → Prop} (h : QB true H) : tYes σ H QB := h
theorem go_lc (h : wi σ H fun J H1 => ∀ D, H1 D = none → ∃ W : Nat → Nat → Hp → Prop, (∃ m, W 0 m (upd H1 D (.lst []))) ∧ ∀ i m H, W i m H →
  (J.stop i H ∧ Q (.ref D) H) ∨ (J.go i H ∧ ∃ Nx : Hp → Prop, (∀ H', Nx H' → ∃ m', m' < m ∧ W (i + 1) m' H') ∧ ∀ x H', J.yld i H x H' → g x (wipe σ vs) H' fun σ2 H2 => wipe σ2 vs = wipe σ vs ∧ tt σ2 H2 fun b H3 =>
    if b = true then te σ2 H3 fun y H4 => ∃ acc, H4 D = some (.lst acc) ∧ acc.length < sizeLine ∧ Nx (upd H4 D (.lst (acc ++ [y]))) else Nx H3)) : tLc wi g tt te vs σ H Q := h
theorem go_for {D : Ends} {tb : TS} (h : wi σ H fun J H1 => ∃ W : Nat → Nat → L2.St → Hp → Prop, (∃ m, W 0 m σ H1) ∧ ∀ i m σ H, W i m σ H →
  (J.stop i H ∧ D.nx σ H) ∨ (J.go i H ∧ ∃ N : L2.St → Hp → Prop, (∀ σ' H', N σ' H' → ∃ m', m' < m ∧ W (i + 1) m' σ' H') ∧ ∀ x H', J.yld i H x H' → g x σ H' fun σ2 H2 => tb { D with nx := N, ct := N, bk := D.nx } σ2 H2)) : tFor wi g tb D σ H := h
/-- what is in the list being made: all of them so, and all else as it was -/
structure Acc (P : Nat → V → Prop) (H : Hp) (D : Addr) (i : Nat) (H' : Hp) : Prop where
  made : ∃ ys : List V, H' D = some (.lst ys) ∧ ys.length = i ∧ ∀ k y, ys[k]? = some y → P k y
  same : Same H H'
theorem acc_step {P : Nat → V → Prop} {H H' : Hp} {D : Addr} {i : Nat} {y : V} (hD : H D = none) (a : Acc P H D i H') (hy : P i y) (hi : i < 100000) : ∃ acc, H' D = some (.lst acc) ∧ acc.length < sizeLine ∧ Acc P H D (i + 1) (upd H' D (.lst (acc ++ [y]))) := by
  obtain ⟨⟨ys, e, hl, hp⟩, hs⟩ := a
  refine ⟨ys, e, szlt (by omega), ⟨ys ++ [y], upd_same, by simp [hl], fun k z hz => ?_⟩, same_mut hs hD⟩
  rcases Nat.lt_or_ge k ys.length with h | h
  · rw [List.getElem?_append_left h] at hz
    exact hp k z hz
  · rw [List.getElem?_append_right h] at hz
    rcases Nat.eq_or_lt_of_le h with e2 | e2
    · rw [← e2, Nat.sub_self] at hz
      cases hz
      rw [← e2, hl]
      exact hy
    · rw [List.getElem?_eq_none (by simp; omega)] at hz
      cases hz
theorem Acc.keep {P : Nat → V → Prop} {H H' H2 : Hp} {D : Addr} {i : Nat} (a : Acc P H D i H') (s : Same H' H2) : Acc P H D i H2 := by
  obtain ⟨⟨ys, e, hl, hp⟩, hs⟩ := a
  exact ⟨⟨ys, s _ _ e, hl, hp⟩, hs.trans s⟩
/-- [e for x in a list], behind the list's reading -/
theorem lcL {R : Addr → Hp → Prop} {a : Addr} (xs : List V) (P : Nat → V → Prop) (hs : SqL K H1 a xs) (hz : xs.length ≤ 100000) (hw : ∀ x, wipe ((wipe σ vs).set j x) vs = wipe σ vs)
    (he : ∀ (i : Nat) x H', xs[i]? = some x → Same H1 H' → ∀ R : VK, (∀ y H'', Same H' H'' → P i y → R y H'') → te ((wipe σ vs).set j (some x)) H' R)
    (q : ∀ D (ys : List V) H2, H1 D = none → Same H1 H2 → H2 D = some (.lst ys) → ys.length = xs.length → (∀ k y, ys[k]? = some y → P k y) → R D H2) :
    ∃ b, V.ref a = .ref b ∧ (∃ xs, SqL K H1 b xs) ∧ ∀ D, H1 D = none → ∃ W : Nat → Nat → Hp → Prop, (∃ m, W 0 m (upd H1 D (.lst []))) ∧ ∀ i m H, W i m H →
      ((Itl K b).stop i H ∧ R D H) ∨ ((Itl K b).go i H ∧ ∃ Nx : Hp → Prop, (∀ H', Nx H' → ∃ m', m' < m ∧ W (i + 1) m' H') ∧ ∀ x H', (Itl K b).yld i H x H' → gName j x (wipe σ vs) H' fun σ2 H2 => wipe σ2 vs = wipe σ vs ∧ tYes σ2 H2 fun b H3 =>
        if b = true then te σ2 H3 fun y H4 => ∃ acc, H4 D = some (.lst acc) ∧ acc.length < sizeLine ∧ Nx (upd H4 D (.lst (acc ++ [y]))) else Nx H3) := by
  refine ⟨a, rfl, ⟨xs, hs⟩, fun D hD => ?_⟩
  refine lc_list (xs := xs) (Acc P H1 D) ⟨⟨[], upd_same, rfl, fun k y h => by simp at h⟩, same_new hD⟩ (fun i H _ p => same_sqL p.same hs) (fun i x H hx p => ?_) fun H p => ?_
  · refine ⟨hw _, ?_⟩
    refine go_yes ?_
    refine iteT ?_
    refine he i x H hx p.same _ fun y H4 s4 hy => ?_
    have hi := (List.getElem?_eq_some_iff.mp hx).1
    exact acc_step hD (p.keep s4) hy (by omega)
  · obtain ⟨⟨ys, e, hl, hp⟩, s⟩ := p
    exact q D ys H hD s e hl hp
/-- [e for x in range(n)], behind the reading of n -/
theorem lcR1 {R : Addr → Hp → Prop} {n : Int} (P : Nat → V → Prop) (hz : n ≤ 100000) (hn : -(2 ^ 62) ≤ n) (hw : ∀ x, wipe ((wipe σ vs).set j x) vs = wipe σ vs)
    (he : ∀ (i : Nat) H', i < n.toNat → Same H1 H' → ∀ R : VK, (∀ y H'', Same H' H'' → P i y → R y H'') → te ((wipe σ vs).set j (some (.int i))) H' R)
    (q : ∀ D (ys : List V) H2, H1 D = none → Same H1 H2 → H2 D = some (.lst ys) → ys.length = n.toNat → (∀ k y, ys[k]? = some y → P k y) → R D H2) :
    ∃ k : Int, [V.int n] = [.int k] ∧ -(2 ^ 62) ≤ k ∧ k < 2 ^ 62 ∧ ∀ D, H1 D = none → ∃ W : Nat → Nat → Hp → Prop, (∃ m, W 0 m (upd H1 D (.lst []))) ∧ ∀ i m H, W i m H →
      ((Itr 0 k.toNat).stop i H ∧ R D H) ∨ ((Itr 0 k.toNat).go i H ∧ ∃ Nx : Hp → Prop, (∀ H', Nx H' → ∃ m', m' < m ∧ W (i + 1) m' H') ∧ ∀ x H', (Itr 0 k.toNat).yld i H x H' → gName j x (wipe σ vs) H' fun σ2 H2 => wipe σ2 vs = wipe σ vs ∧ tYes σ2 H2 fun b H3 =>
        if b = true then te σ2 H3 fun y H4 => ∃ acc, H4 D = some (.lst acc) ∧ acc.length < sizeLine ∧ Nx (upd H4 D (.lst (acc ++ [y]))) else Nx H3) := by
  refine ⟨n, rfl, hn, by omega, fun D hD => ?_⟩
  refine lc_range (lo := 0) (n := n.toNat) (Acc P H1 D) ⟨⟨[], upd_same, rfl, fun k y h => by simp at h⟩, same_new hD⟩ (fun i H hi p => ?_) fun H p => ?_
  · refine ⟨hw _, ?_⟩
    refine go_yes ?_
    refine iteT ?_
    rw [Int.zero_add]
    refine he i H hi p.same _ fun y H4 s4 hy => ?_
    exact acc_step hD (p.keep s4) hy (by omega)
  · obtain ⟨⟨ys, e, hl, hp⟩, s⟩ := p
    exact q D ys H hD s e hl hp
/-- for x in a list, behind the list's reading -/
theorem foL {D : Ends} {tb : TS} {a : Addr} (xs : List V) (Pv : Nat → L2.St → Hp → Prop) (h0 : Pv 0 σ H1) (hl : ∀ i σ H, i ≤ xs.length → Pv i σ H → SqL K H a xs)
    (hs : ∀ i x σ H, xs[i]? = some x → Pv i σ H → g x σ H fun σ2 H2 => tb { D with nx := Pv (i + 1), ct := Pv (i + 1), bk := D.nx } σ2 H2) (hd : ∀ σ H, Pv xs.length σ H → D.nx σ H) :
    ∃ b, V.ref a = .ref b ∧ (∃ xs, SqL K H1 b xs) ∧ ∃ W : Nat → Nat → L2.St → Hp → Prop, (∃ m, W 0 m σ H1) ∧ ∀ i m σ H, W i m σ H →
      ((Itl K b).stop i H ∧ D.nx σ H) ∨ ((Itl K b).go i H ∧ ∃ N : L2.St → Hp → Prop, (∀ σ' H', N σ' H' → ∃ m', m' < m ∧ W (i + 1) m' σ' H') ∧ ∀ x H', (Itl K b).yld i H x H' → g x σ H' fun σ2 H2 => tb { D with nx := N, ct := N, bk := D.nx } σ2 H2) :=
  ⟨a, rfl, ⟨xs, hl 0 σ H1 (Nat.zero_le _) h0⟩, for_list Pv h0 hl hs hd⟩
/-- for x in range(n), behind the reading of n -/
theorem foR1 {D : Ends} {tb : TS} {n : Int} (Pv : Nat → L2.St → Hp → Prop) (hn : -(2 ^ 62) ≤ n ∧ n < 2 ^ 62) (h0 : Pv 0 σ H1)
    (hs : ∀ (i : Nat) σ H, (i : Int) < n → Pv i σ H → g (.int i) σ H fun σ2 H2 => tb { D with nx := Pv (i + 1), ct := Pv (i + 1), bk := D.nx } σ2 H2) (hd : ∀ σ H, Pv n.toNat σ H → D.nx σ H) :
    ∃ k : Int, [V.int n] = [.int k] ∧ -(2 ^ 62) ≤ k ∧ k < 2 ^ 62 ∧ ∃ W : Nat → Nat → L2.St → Hp → Prop, (∃ m, W 0 m σ H1) ∧ ∀ i m σ H, W i m σ H →
      ((Itr 0 k.toNat).stop i H ∧ D.nx σ H) ∨ ((Itr 0 k.toNat).go i H ∧ ∃ N : L2.St → Hp → Prop, (∀ σ' H', N σ' H' → ∃ m', m' < m ∧ W (i + 1) m' σ' H') ∧ ∀ x H', (Itr 0 k.toNat).yld i H x H' → g x σ H' fun σ2 H2 => tb { D with nx := N, ct := N, bk := D.nx } σ2 H2) :=
  ⟨n, rfl, hn.1, hn.2, for_range Pv h0 (fun i σ H hi p => by rw [Int.zero_add]; exact hs i σ H (by omega) p) hd⟩
/-- while, by a measure that the invariant bears -/
theorem go_while {D : Ends} {c : TT} {tb : TS} (W : Nat → L2.St → Hp → Prop) (m : Nat) (h0 : W m σ H) (hs : ∀ m σ H, W m σ H → c σ H fun b H1 => if b = true then ∃ N : L2.St → Hp → Prop, (∀ σ' H', N σ' H' → ∃ m', m' < m ∧ W m' σ' H') ∧ tb { D with nx := N, ct := N, bk := D.nx } σ H1 else D.nx σ H1) :
    tWhile c tb D σ H := ⟨W, ⟨m, h0⟩, hs⟩
theorem go_loop {D : Ends} {tb : TS} {W : Nat → L2.St → Hp → Prop} {m : Nat} (h : tb { D with nx := fun σ' H' => ∃ m', m' < m ∧ W m' σ' H', ct := fun σ' H' => ∃ m', m' < m ∧ W m' σ' H', bk := D.nx } σ H) :
    ∃ N : L2.St → Hp → Prop, (∀ σ' H', N σ' H' → ∃ m', m' < m ∧ W m' σ' H') ∧ tb { D with nx := N, ct := N, bk := D.nx } σ H := ⟨_, fun _ _ h => h, h⟩
end
/-- all ints, each so -/
theorem ints_of {P : Int → Prop} : ∀ {ys : List V}, (∀ (k : Nat) y, ys[k]? = some y → ∃ w, y = V.int w ∧ P w) → ∃ ws : List Int, ys = ws.map V.int ∧ ∀ w ∈ ws, P w
  | [], _ => ⟨[], rfl, fun _ h => nomatch h⟩
  | y :: r, h => by
    obtain ⟨w, e, p⟩ := h 0 y rfl
    obtain ⟨ws, e2, p2⟩ := ints_of (ys := r) fun k z hz => h (k + 1) z hz
    refine ⟨w :: ws, by rw [e, e2, List.map_cons], fun z hz => ?_⟩
    rcases List.mem_cons.mp hz with rfl | hz
    · exact p
    · exact p2 z hz
end Gx

set_option Elab.async false
set_option linter.all false
set_option maxRecDepth 100000
set_option maxHeartbeats 4000000
/-! Own lemmas: a pool of numbers (a list that is changed by place), data, comprehensions that change it. -/
namespace Gx
open PySem PySem.Spec PyProof.Rows L2
section
variable {K : PySem.W.Frag} {σ : L2.St} {H H1 : Hp} {Q : VK} {tl te to ti : TE} {g : TG} {tt : TT} {vs : List Nat} {j : Nat} {wi : TI}
theorem go_sub {t : TSet} {v : V} {R : L2.St → Hp → Prop} (h : to σ H fun o H1 => ti σ H1 fun i H2 => t o i v H2 fun H3 => R σ H3) : gSub to ti t v σ H R := h
theorem go_setL {p : Addr} {xs : List V} {k : Int} {i : Nat} {v : V} {R : Hp → Prop} (e : H p = some (.lst xs)) (hi : ixN xs.length k = some i) (h : R (upd H p (.lst (xs.set i v)))) : rSetL (.ref p) (.int k) v H R :=
  ⟨p, xs, k, i, rfl, rfl, e, hi, h⟩
theorem go_setL2 {p : Addr} {xs : List V} {k : Int} {i : Nat} {v : V} {R : Hp → Prop} (hi : ixN xs.length k = some i) (h : R (upd H p (.lst (xs.set i v)))) : rSetL (.ref p) (.int k) v (upd H p (.lst xs)) R :=
  ⟨p, xs, k, i, rfl, rfl, upd_same, hi, by rw [upd_upd]; exact h⟩
theorem go_ixL2 {p : Addr} {xs : List V} {k : Int} {v : V} (e : atI xs k = some v) (h : Q v (upd H p (.lst xs))) : rIxL K (.ref p) (.int k) (upd H p (.lst xs)) Q := ⟨p, xs, k, v, rfl, rfl, .of upd_same, e, h⟩
theorem go_ixL1 {p : Addr} {xs : List V} {k : Int} {v : V} (h : H p = some (.lst xs)) (e : atI xs k = some v) (q : Q v H) : rIxL K (.ref p) (.int k) H Q := ⟨p, xs, k, v, rfl, rfl, .of h, e, q⟩
theorem go_ixT1 {p : Addr} {xs : List V} {k : Int} {v : V} (h : H p = some (.tup xs)) (e : atI xs k = some v) (q : Q v H) : rIxT K (.ref p) (.int k) H Q := ⟨p, xs, k, v, rfl, rfl, .of h, e, q⟩
end
/-- all else as it was -/
def But (a : Addr) (H H' : Hp) : Prop := ∀ b o, b ≠ a → H b = some o → H' b = some o
theorem But.refl (a : Addr) (H : Hp) : But a H H := fun _ _ _ h => h
theorem But.trans {a : Addr} {H H1 H2 : Hp} (h : But a H H1) (k : But a H1 H2) : But a H H2 := fun b o n e => k b o n (h b o n e)
theorem But.upd {a : Addr} {H H' : Hp} {o : HO} (h : But a H H') : But a H (upd H' a o) := fun b u n e => by rw [upd_ne n]; exact h b u n e
theorem But.new {a p : Addr} {H H' : Hp} {o : HO} (h : But a H H') (n : H' p = none) : But a H (L2.upd H' p o) := fun b u z e => by
  have q := h b u z e
  rw [upd_ne (ne_of_none q n)]
  exact q
theorem Same.but {a : Addr} {H H' : Hp} (s : Same H H') : But a H H' := fun b o _ e => s b o e
/-- a pool: where it stands, where its list of the script's numbers stands, these -/
structure Pl where
  a : Addr
  l : Addr
  ns : List Int
/-- the pool p stands in H; b: its budget -/
structure Pool (H : Hp) (p : Pl) (b : Int) : Prop where
  ex : ∃ (p1 p2 p3 p4 : Int), H p.a = some (.lst [.ref p.l, .int p1, .int p2, .int p3, .int p4, .int b]) ∧ 0 ≤ p1 ∧ 0 ≤ p3 ∧ p3 < 2147483647
  li : H p.l = some (.lst (p.ns.map V.int))
  ne : p.l ≠ p.a
theorem Pool.there {H : Hp} {p : Pl} {b : Int} (h : Pool H p b) : ∃ xs, H p.a = some (.lst xs) := let ⟨_, _, _, _, e, _⟩ := h.ex; ⟨_, e⟩
theorem Pool.same {H H' : Hp} {p : Pl} {b : Int} (h : Pool H p b) (s : Same H H') : Pool H' p b := by
  obtain ⟨p1, p2, p3, p4, e, k⟩ := h.ex
  exact ⟨⟨p1, p2, p3, p4, s _ _ e, k⟩, s _ _ h.li, h.ne⟩
theorem Pool.new {H : Hp} {p : Pl} {q : Addr} {b : Int} {o : HO} (h : Pool H p b) (n : H q = none) : Pool (upd H q o) p b := h.same (same_new n)
/-- another object is written -/
theorem Pool.upd {H : Hp} {p : Pl} {q : Addr} {b : Int} {o : HO} (h : Pool H p b) (n : q ≠ p.a) (n2 : q ≠ p.l) : Pool (upd H q o) p b := by
  obtain ⟨p1, p2, p3, p4, e, k⟩ := h.ex
  exact ⟨⟨p1, p2, p3, p4, by rw [upd_ne n.symm]; exact e, k⟩, by rw [upd_ne n2.symm]; exact h.li, h.ne⟩
/-- what is free behind was free before -/
theorem But.free {a p : Addr} {H H' : Hp} {o : HO} (h : But a H H') (e : H' a = some o) (n : H' p = none) : H p = none := by
  cases q : H p with
  | none => rfl
  | some u =>
    have ne : p ≠ a := fun z => by rw [z, e] at n; cases n
    rw [h p u ne q] at n
    cases n
/-- one pool's turn: the pool stands, all else is as it was -/
structure Turn (p : Pl) (b : Int) (H H' : Hp) : Prop where
  pool : Pool H' p b
  but : But p.a H H'
theorem Turn.refl {p : Pl} {b : Int} {H : Hp} (h : Pool H p b) : Turn p b H H := ⟨h, .refl p.a H⟩
theorem Turn.trans {p : Pl} {b b' : Int} {H H1 H2 : Hp} (h : Turn p b H H1) (k : Turn p b' H1 H2) : Turn p b' H H2 := ⟨k.pool, h.but.trans k.but⟩
theorem Turn.new {p : Pl} {q : Addr} {b : Int} {H H1 : Hp} {o : HO} (h : Turn p b H H1) (n : H1 q = none) : Turn p b H (upd H1 q o) := ⟨h.pool.new n, h.but.new n⟩
theorem Turn.same {p : Pl} {b : Int} {H H1 H2 : Hp} (h : Turn p b H H1) (s : Same H1 H2) : Turn p b H H2 := ⟨h.pool.same s, h.but.trans (Same.but s)⟩
theorem Turn.free {p : Pl} {q : Addr} {b : Int} {H H' : Hp} (h : Turn p b H H') (n : H' q = none) : H q = none := let ⟨_, e⟩ := h.pool.there; h.but.free e n
theorem Pool.nea {p : Pl} {q : Addr} {b : Int} {H : Hp} (h : Pool H p b) (n : H q = none) : q ≠ p.a := fun z => by
  obtain ⟨_, e⟩ := h.there
  rw [z, e] at n
  cases n
theorem Pool.nel {p : Pl} {q : Addr} {b : Int} {H : Hp} (h : Pool H p b) (n : H q = none) : q ≠ p.l := fun z => by
  rw [z, h.li] at n
  cases n
/-- a new list is written further -/
theorem Turn.mut {p : Pl} {q : Addr} {b b' : Int} {H H2 : Hp} {o : HO} (h0 : Pool H p b') (n : H q = none) (h : Turn p b H H2) : Turn p b H (upd H2 q o) :=
  ⟨h.pool.upd (h0.nea n) (h0.nel n), fun c u nc ec => by rw [upd_ne (ne_of_none ec n)]; exact h.but c u nc ec⟩

section
variable {K : PySem.W.Frag} {σ : L2.St} {H H1 : Hp} {Q : VK} {tl te : TE} {g : TG} {tt : TT} {vs : List Nat} {j : Nat} {wi : TI}
/-- [e for x in range(n)] whose element turns a pool -/
theorem lcPool {R : Addr → Hp → Prop} {n : Int} {p : Pl} {b : Int} (P : Nat → V → Prop) (hp : Pool H1 p b) (hz : n ≤ 100000) (hn : -(2 ^ 62) ≤ n) (hw : ∀ x, wipe ((wipe σ vs).set j x) vs = wipe σ vs)
    (he : ∀ (i : Nat) H', (i : Int) < n → Turn p b H1 H' → ∀ R : VK, (∀ y H'', Turn p b H' H'' → P i y → R y H'') → te ((wipe σ vs).set j (some (.int i))) H' R)
    (q : ∀ D (ys : List V) H2, H1 D = none → Turn p b H1 H2 → H2 D = some (.lst ys) → ys.length = n.toNat → (∀ k y, ys[k]? = some y → P k y) → R D H2) :
    ∃ k : Int, [V.int n] = [.int k] ∧ -(2 ^ 62) ≤ k ∧ k < 2 ^ 62 ∧ ∀ D, H1 D = none → ∃ W : Nat → Nat → Hp → Prop, (∃ m, W 0 m (upd H1 D (.lst []))) ∧ ∀ i m H, W i m H →
      ((Itr 0 k.toNat).stop i H ∧ R D H) ∨ ((Itr 0 k.toNat).go i H ∧ ∃ Nx : Hp → Prop, (∀ H', Nx H' → ∃ m', m' < m ∧ W (i + 1) m' H') ∧ ∀ x H', (Itr 0 k.toNat).yld i H x H' → gName j x (wipe σ vs) H' fun σ2 H2 => wipe σ2 vs = wipe σ vs ∧ tYes σ2 H2 fun b H3 =>
        if b = true then te σ2 H3 fun y H4 => ∃ acc, H4 D = some (.lst acc) ∧ acc.length < sizeLine ∧ Nx (upd H4 D (.lst (acc ++ [y]))) else Nx H3) := by
  refine ⟨n, rfl, hn, by omega, fun D hD => ?_⟩
  have nD : D ≠ p.a := hp.nea hD
  refine lc_range (lo := 0) (n := n.toNat) (fun i H' => (∃ ys : List V, H' D = some (.lst ys) ∧ ys.length = i ∧ ∀ k y, ys[k]? = some y → P k y) ∧ Turn p b H1 H') ⟨⟨[], upd_same, rfl, fun k y h => by simp at h⟩, (Turn.refl hp).new hD⟩ (fun i H hi p => ?_) fun H p => ?_
  · refine ⟨hw _, ?_⟩
    refine go_yes ?_
    refine iteT ?_
    rw [Int.zero_add]
    obtain ⟨⟨ys, e, hl, hP⟩, t⟩ := p
    refine he i H (by omega) t _ fun y H4 s4 hy => ?_
    have e4 := s4.but D _ nD e
    refine ⟨ys, e4, szlt (by omega), ⟨ys ++ [y], upd_same, by simp [hl], fun k z hz => ?_⟩, Turn.mut hp hD (t.trans s4)⟩
    rcases Nat.lt_or_ge k ys.length with h | h
    · rw [List.getElem?_append_left h] at hz
      exact hP k z hz
    · rw [List.getElem?_append_right h] at hz
      rcases Nat.eq_or_lt_of_le h with e2 | e2
      · rw [← e2, Nat.sub_self] at hz
        cases hz
        rw [← e2, hl]
        exact hy
      · rw [List.getElem?_eq_none (by simp; omega)] at hz
        cases hz
  · obtain ⟨⟨ys, e, hl, hP⟩, t⟩ := p
    exact q D ys H hD t e hl hP
end
/-! ### data -/
theorem tyx_list {K : PySem.W.Frag} {H : Hp} {a : Addr} {xs : List V} (h : SqL K H a xs) : TyX K H (.ref a) (.type "list") := by
  rcases h with (h | ⟨o, h⟩) | ⟨o, its, n, e, c, _⟩
  · exact .base (.lst h)
  · exact .base (.frz h)
  · exact .kList e c
theorem tyx_tup {K : PySem.W.Frag} {H : Hp} {a : Addr} {xs : List V} (h : SqT K H a xs) : TyX K H (.ref a) (.type "tuple") := by
  rcases h with (h | ⟨o, h⟩) | ⟨o, its, n, e, c, _⟩
  · exact .base (.tup h)
  · exact .fTuple h
  · exact .kTuple e c
/-- the same data, at most n deep -/
inductive Eqd (K : PySem.W.Frag) (H : Hp) : Nat → V → V → Prop where
  | non {n : Nat} : Eqd K H n .non .non
  | bl {n : Nat} (b : Bool) : Eqd K H n (.bl b) (.bl b)
  | int {n : Nat} (i : Int) : Eqd K H n (.int i) (.int i)
  | str {n : Nat} (x : Str) : Eqd K H n (.str x) (.str x)
  | lst {n : Nat} {a b : Addr} {xs ys : List V} (h1 : SqL K H a xs) (h2 : SqL K H b ys) (hl : xs.length = ys.length) (hz : xs.length ≤ 100000) (h : ∀ (i : Nat) x y, xs[i]? = some x → ys[i]? = some y → Eqd K H n x y) : Eqd K H (n + 1) (.ref a) (.ref b)
  | tup {n : Nat} {a b : Addr} {xs ys : List V} (h1 : SqT K H a xs) (h2 : SqT K H b ys) (hl : xs.length = ys.length) (hz : xs.length ≤ 100000) (h : ∀ (i : Nat) x y, xs[i]? = some x → ys[i]? = some y → Eqd K H n x y) : Eqd K H (n + 1) (.ref a) (.ref b)
section
variable {K : PySem.W.Frag} {H H1 : Hp} {Q : VK}
theorem go_isiL (c : String) {b : Bool} {a : Addr} {xs : List V} (h : SqL K H a xs) (e : kitB "list" c = some b) (q : Q (.bl b) H) : rIsi K [.ref a, .ty c] H Q := go_isiB (tyx_list h) e q
theorem go_isiT (c : String) {b : Bool} {a : Addr} {xs : List V} (h : SqT K H a xs) (e : kitB "tuple" c = some b) (q : Q (.bl b) H) : rIsi K [.ref a, .ty c] H Q := go_isiB (tyx_tup h) e q
theorem sq_list_int {a : Addr} {xs : List V} (h : SqL K H a xs) (q : Q (.bl false) H) : rIsi K [.ref a, .ty "int"] H Q := go_isiB (tyx_list h) (by decide +kernel) q
theorem sq_list_bool {a : Addr} {xs : List V} (h : SqL K H a xs) (q : Q (.bl false) H) : rIsi K [.ref a, .ty "bool"] H Q := go_isiB (tyx_list h) (by decide +kernel) q
theorem sq_list_str {a : Addr} {xs : List V} (h : SqL K H a xs) (q : Q (.bl false) H) : rIsi K [.ref a, .ty "str"] H Q := go_isiB (tyx_list h) (by decide +kernel) q
theorem sq_list_list {a : Addr} {xs : List V} (h : SqL K H a xs) (q : Q (.bl true) H) : rIsi K [.ref a, .ty "list"] H Q := go_isiB (tyx_list h) (by decide +kernel) q
theorem sq_list_tuple {a : Addr} {xs : List V} (h : SqL K H a xs) (q : Q (.bl false) H) : rIsi K [.ref a, .ty "tuple"] H Q := go_isiB (tyx_list h) (by decide +kernel) q
theorem sq_tuple_int {a : Addr} {xs : List V} (h : SqT K H a xs) (q : Q (.bl false) H) : rIsi K [.ref a, .ty "int"] H Q := go_isiB (tyx_tup h) (by decide +kernel) q
theorem sq_tuple_bool {a : Addr} {xs : List V} (h : SqT K H a xs) (q : Q (.bl false) H) : rIsi K [.ref a, .ty "bool"] H Q := go_isiB (tyx_tup h) (by decide +kernel) q
theorem sq_tuple_str {a : Addr} {xs : List V} (h : SqT K H a xs) (q : Q (.bl false) H) : rIsi K [.ref a, .ty "str"] H Q := go_isiB (tyx_tup h) (by decide +kernel) q
theorem sq_tuple_list {a : Addr} {xs : List V} (h : SqT K H a xs) (q : Q (.bl false) H) : rIsi K [.ref a, .ty "list"] H Q := go_isiB (tyx_tup h) (by decide +kernel) q
theorem sq_tuple_tuple {a : Addr} {xs : List V} (h : SqT K H a xs) (q : Q (.bl true) H) : rIsi K [.ref a, .ty "tuple"] H Q := go_isiB (tyx_tup h) (by decide +kernel) q
theorem go_ixQL {a : Addr} {xs : List V} {k : Int} {v : V} (hs : SqL K H a xs) (e : atI xs k = some v) (h : Q v H) : rIx K (.ref a) (.int k) H Q := .inl ⟨a, xs, k, v, rfl, rfl, hs, e, h⟩
theorem go_ixQT {a : Addr} {xs : List V} {k : Int} {v : V} (hs : SqT K H a xs) (e : atI xs k = some v) (h : Q v H) : rIx K (.ref a) (.int k) H Q := .inr (.inl ⟨a, xs, k, v, rfl, rfl, hs, e, h⟩)
end
/-! ### texts -/
abbrev S : List Nat → Str := SX.S
section
variable {X : Cx} {σ : L2.St} {H H1 : Hp} {Q : VK} {K : PySem.W.Frag} {o e : Expr} {to te : TE}
def qSplit : V → List V → Hp → VK → Prop := fun x xs H Q => ∃ a b, x = .str a ∧ xs = [.str b] ∧ (b.length == 0) = false ∧ a.length + 2 ≤ sizeLine ∧ rNewStrs (Txt.split a b) H Q
theorem e_split {apos pos : Pos} (ho : PE X o to) (he : PE X e te) (hs : starEach [e] X.env = [(false, eval e X.env)] := by rfl) (hbase : attributeBase o "split" X.env (eval o X.env) = eval o X.env := by rfl) (hline : (apos.endLine == pos.line) = true := by rfl) :
    PE X (.Call (.Attribute o "split" apos) [e] [] pos) (tM1 qSplit to te) := pe_split ho he hs hbase hline
theorem go_M1 {r : V → List V → Hp → VK → Prop} (h : to σ H fun x H1 => (∃ a, x = .str a) ∧ te σ H1 fun y H2 => r x [y] H2 Q) : tM1 r to te σ H Q := h
theorem go_M0 {r : V → List V → Hp → VK → Prop} (h : to σ H fun x H1 => (∃ a, x = .str a) ∧ r x [] H1 Q) : tM0 r to σ H Q := h
theorem go_isS {a : Str} {B : Prop} (h : B) : (∃ b, V.str a = .str b) ∧ B := ⟨⟨a, rfl⟩, h⟩
theorem go_split {a : List Nat} (ha : a.length ≤ 90000) {c : Nat} (hc : c < 256) (h : ∀ p, H p = none → Q (.ref p) (upd H p (.lst ((TL.spl [c] 0 [] a).map fun w => V.str (S w))))) : qSplit (.str (S a)) [.str (S [c])] H Q := by
  refine ⟨S a, S [c], rfl, rfl, rfl, by rw [SX.S_len]; exact sz (by omega), ?_⟩
  rw [SX.split_S (by simp) (by simp [hc])]
  intro p hp
  rw [List.map_map]
  exact h p hp
def qJoin (K : PySem.W.Frag) : V → List V → Hp → VK → Prop := fun x xs H Q => ∃ a p, ∃ ys : List Str, x = .str a ∧ xs = [.ref p] ∧ (SqL K H p (ys.map V.str) ∨ SqT K H p (ys.map V.str)) ∧ (ys.map (·.length)).sum + ys.length * a.length ≤ 16777216 ∧ Q (.str (Txt.join a ys)) H
theorem e_join {apos pos : Pos} (ho : PE X o to) (he : PE X e te) (hs : starEach [e] X.env = [(false, eval e X.env)] := by rfl) (hbase : attributeBase o "join" X.env (eval o X.env) = eval o X.env := by rfl) (hline : (apos.endLine == pos.line) = true := by rfl) :
    PE X (.Call (.Attribute o "join" apos) [e] [] pos) (tM1 (qJoin X.K) to te) := pe_join ho he hs hbase hline
theorem go_join {a : List Nat} {p : Addr} {ws : List (List Nat)} (hs : SqL K H p (ws.map fun w => V.str (S w))) (hz : (ws.map List.length).sum + ws.length * a.length ≤ 16777216) (h : Q (.str (S (TL.joinL a ws))) H) : qJoin K (.str (S a)) [.ref p] H Q := by
  refine ⟨S a, p, ws.map S, rfl, rfl, .inl (by rw [List.map_map]; exact hs), ?_, by rw [SX.join_S]; exact h⟩
  rw [SX.lens, List.length_map, SX.S_len]
  exact hz
/-- for c in a text -/
theorem go_iStr {R : It → Hp → Prop} (h : te σ H fun v H1 => ∃ x, v = .str x ∧ R (Its x) H1) : iStr te σ H R := h
theorem foS {D : Ends} {tb : TS} {g : TG} (cs : List Nat) (Pv : Nat → L2.St → Hp → Prop) (h0 : Pv 0 σ H1)
    (hs : ∀ i c σ H, cs[i]? = some c → Pv i σ H → g (.str (S [c])) σ H fun σ2 H2 => tb { D with nx := Pv (i + 1), ct := Pv (i + 1), bk := D.nx } σ2 H2) (hd : ∀ σ H, Pv cs.length σ H → D.nx σ H) :
    ∃ x, V.str (S cs) = .str x ∧ ∃ W : Nat → Nat → L2.St → Hp → Prop, (∃ m, W 0 m σ H1) ∧ ∀ i m σ H, W i m σ H →
      ((Its x).stop i H ∧ D.nx σ H) ∨ ((Its x).go i H ∧ ∃ N : L2.St → Hp → Prop, (∀ σ' H', N σ' H' → ∃ m', m' < m ∧ W (i + 1) m' σ' H') ∧ ∀ x2 H', (Its x).yld i H x2 H' → g x2 σ H' fun σ2 H2 => tb { D with nx := N, ct := N, bk := D.nx } σ2 H2) := by
  refine ⟨S cs, rfl, fun i m σ H => m = cs.length - i ∧ i ≤ cs.length ∧ Pv i σ H, ⟨cs.length, by simp, Nat.zero_le _, h0⟩, ?_⟩
  rintro i m σ H ⟨rfl, hi, p⟩
  have hsz : (S cs).cps.size = cs.length := by simp
  by_cases hlt : i < cs.length
  · refine .inr ⟨by show i < (S cs).cps.size; rw [hsz]; exact hlt, Pv (i + 1), fun σ' H' p' => ⟨cs.length - (i + 1), by omega, rfl, hlt, p'⟩, fun x H' y => ?_⟩
    obtain ⟨e, c, hc, rfl⟩ := y
    subst e
    refine hs i c σ _ ?_ p
    have : (S cs).cps[i]? = some c := hc
    simpa using this
  · have e : i = cs.length := by omega
    subst e
    exact .inl ⟨by show (S cs).cps.size ≤ cs.length; omega, hd σ H p⟩
theorem at_mem {α : Type} {xs : List α} {i : Nat} {v : α} (h : atI xs (i : Int) = some v) : v ∈ xs := by
  unfold atI ixN at h
  rw [if_pos (by omega)] at h
  split at h
  · rw [Option.bind_some, Int.toNat_natCast] at h
    exact List.mem_of_getElem? h
  · cases h
theorem atS_ex {z : Str} {k : Int} (h0 : 0 ≤ k) (h : k < z.length) : ∃ c, atI z.cps.toList k = some c := by
  have e : k = (k.toNat : Int) := by omega
  have h2 : k.toNat < z.cps.toList.length := by
    have : z.length = z.cps.toList.length := by simp [Str.length]
    omega
  rw [e]
  exact ⟨_, atI_nat (List.getElem?_eq_getElem h2)⟩
theorem dp_strs : ∀ ws : List Str, DpAll K H (ws.map V.str) (ws.map PyData.str)
  | [] => .nil
  | n :: r => .cons (.str n) (dp_strs r)
theorem eqvAll_strs : ∀ xs : List Str, PyData.eqvAll (xs.map PyData.str) (xs.map PyData.str) = true
  | [] => by simp [PyData.eqvAll]
  | x :: xs => by simp only [List.map_cons, PyData.eqvAll, PyData.eqv, eqvAll_strs xs]; simp
theorem depth_strs : ∀ xs : List Str, PyData.depthAll (xs.map PyData.str) = 0
  | [] => rfl
  | x :: xs => by
    rw [List.map_cons]
    unfold PyData.depthAll
    rw [depth_strs xs]
    rfl
theorem canLay_strs : ∀ xs : List Str, xs.all PyData.strOk = true → PyData.canLayAll0 (xs.map PyData.str) = true
  | [], _ => rfl
  | x :: xs, h => by
    rw [List.all_cons, Bool.and_eq_true] at h
    rw [List.map_cons]
    simp only [PyData.canLayAll0, PyData.canLay0, canLay_strs xs h.2, h.1, Bool.and_self]
theorem shaped_strs (xs : List Str) (h : xs.all PyData.strOk = true) : SeqAt.shaped (.list (xs.map PyData.str)) = true := by
  unfold SeqAt.shaped
  have h1 : PyData.canLay0 (.list (xs.map PyData.str)) = true := by
    simp only [PyData.canLay0]
    exact canLay_strs xs h
  have h2 : PyData.depth (.list (xs.map PyData.str)) ≤ 64 := by
    unfold PyData.depth
    rw [depth_strs xs]
    decide
  rw [h1, decide_eq_true h2]
  rfl
theorem go_eqStrs {a b : Addr} {xs : List Str} (h1 : SqL K H a (xs.map V.str)) (h2 : SqL K H b (xs.map V.str)) (ho : xs.all PyData.strOk = true) (h : Q (.bl true) H) : rEqD K (.ref a) (.ref b) H Q :=
  ⟨_, _, .lst h1 (dp_strs xs), .lst h2 (dp_strs xs), shaped_strs xs ho, shaped_strs xs ho, by rw [PyData.eqv, eqvAll_strs]; exact h⟩
end
end Gx

set_option Elab.async false
set_option linter.all false
set_option maxRecDepth 100000
set_option maxHeartbeats 4000000
/-! Own lemmas: operators that a class defines; gcd, lcm, // of great ints. -/
namespace Gx
open PySem PySem.Spec PyProof.Rows L2
section
variable {X : Cx} {CX : CXT} {C f : Addr} {fd : FuncData} {ps : List Str} {sp : Sp} {E : XK} {k : Nat} {Q : VK} {H : Hp}
theorem back_of {pins : List (Addr × Obj)} {σ : L2.St} {M : Model} {A : Around} {R : Value → Shared → Prop} {t : Sem Value} {s : Shared} (h : wpAny M A t (EP X pins σ Q) R s) : wpAny M A t (PySem.W.CmpBack (EP X pins σ Q)) R s := by
  refine wpAny_mono h (fun v s' q => ?_) fun _ _ z => z
  cases v <;> first | exact q | (obtain ⟨x, H', I, r, q⟩ := q; cases x <;> first | (cases r; done) | (obtain ⟨_, r⟩ := r; cases r))
/-- x op y by the class's own method -/
def rOwn (C : Addr) (sp : Sp) (E : XK) : R2 := fun x y H Q => ∃ a b dx dy fs gs, x = .ref a ∧ y = .ref b ∧ H a = some (.ins C dx fs) ∧ H b = some (.ins C dy gs) ∧ sp [x, y] H Q E
theorem go_own {a b dx dy : Addr} {fs gs : List (Str × V)} (h1 : H a = some (.ins C dx fs)) (h2 : H b = some (.ins C dy gs)) (h : sp [.ref a, .ref b] H Q E) : rOwn C sp E (.ref a) (.ref b) H Q := ⟨a, b, dx, dy, fs, gs, rfl, rfl, h1, h2, h⟩
theorem op_own {op : Operator} (hc : PySem.W.selfFirst X.K C = true) (hs : PySem.W.findIn X.K (.ref C) (PySem.dunder op.info.2) = some (some (.ref f))) (hf : PySem.W.isFn X.K (.ref f) = true)
    (F : FnOk X.prog X.w X.K X.mg X.base CX k f fd ps sp) (hr : Room k X.A) (hb : Binds X.K fd ps []) (hx : Passes CX X E) : OpR X (binaryOp op) (rOwn C sp E) := by
  intro pins s σ H x y v u Q I rx ry h
  obtain ⟨a, b, dx, dy, fs, gs, rfl, rfl, ha, hb', hq⟩ := h
  have rx' := rx
  have ry' := ry
  cases rx
  cases ry
  obtain ⟨mA, J, _⟩ := ins_get I.hok ha
  obtain ⟨mB, J', _⟩ := ins_get I.hok hb'
  obtain ⟨od, J, _⟩ := J.look
  obtain ⟨od', J', _⟩ := J'.look
  obtain ⟨m, hF⟩ := I.fr
  refine PySem.W.binop_K hF I.ok.mod.kin J J'.type hc hs hf (back_of ?_)
  exact run_fn F hr hb .nil hx I (.cons rx' (.cons ry' .nil)) (by simpa using hq)
/-- x == y, x != y by the class's own method (op: its own name) -/
theorem op_ownCmp {op : CmpOp} (hcmp : ∀ v u, compareOp op v u = richCompare op v u) (hc : PySem.W.notFirst X.K C (.ref C) = true) (hs : PySem.W.findIn X.K (.ref C) (cmpInfo op).2.1 = some (some (.ref f))) (hf : PySem.W.isFn X.K (.ref f) = true)
    (F : FnOk X.prog X.w X.K X.mg X.base CX k f fd ps sp) (hr : Room k X.A) (hb : Binds X.K fd ps []) (hx : Passes CX X E) : OpR X (compareOp op) (rOwn C sp E) := by
  intro pins s σ H x y v u Q I rx ry h
  obtain ⟨a, b, dx, dy, fs, gs, rfl, rfl, ha, hb', hq⟩ := h
  have rx' := rx
  have ry' := ry
  cases rx
  cases ry
  obtain ⟨mA, J, _⟩ := ins_get I.hok ha
  obtain ⟨mB, J', _⟩ := ins_get I.hok hb'
  obtain ⟨od, J, _⟩ := J.look
  obtain ⟨od', J', _⟩ := J'.look
  obtain ⟨m, hF⟩ := I.fr
  rw [hcmp]
  refine PySem.W.cmp_K hr.units0 hF I.ok.mod.kin J J'.type hc hs hf (back_of ?_)
  exact run_fn F hr hb .nil hx I (.cons rx' (.cons ry' .nil)) (by simpa using hq)
/-- -x by the class's own method -/
def uOwn (C : Addr) (sp : Sp) (E : XK) : V → Hp → VK → Prop := fun x H Q => ∃ a dx fs, x = .ref a ∧ H a = some (.ins C dx fs) ∧ sp [x] H Q E
theorem go_uOwn {a dx : Addr} {fs : List (Str × V)} (h1 : H a = some (.ins C dx fs)) (h : sp [.ref a] H Q E) : uOwn C sp E (.ref a) H Q := ⟨a, dx, fs, rfl, h1, h⟩
theorem un_own (hs : PySem.W.findIn X.K (.ref C) "__neg__" = some (some (.ref f))) (hf : PySem.W.isFn X.K (.ref f) = true)
    (F : FnOk X.prog X.w X.K X.mg X.base CX k f fd ps sp) (hr : Room k X.A) (hb : Binds X.K fd ps []) (hx : Passes CX X E) : UnR X (unaryOp .USub) (uOwn C sp E) := by
  intro pins s σ H x v Q I rx h
  obtain ⟨a, dx, fs, rfl, ha, hq⟩ := h
  have rx' := rx
  cases rx
  obtain ⟨mA, J, _⟩ := ins_get I.hok ha
  obtain ⟨od, J, _⟩ := J.look
  unfold unaryOp
  refine wpAny_holding ?_
  dsimp only
  rw [if_neg (by decide)]
  refine wpAny_bind (PySem.W.special_fn I.kIn J hs (beq_iff_eq.mp hf) ?_)
  exact wpAny_mono (run_fn F hr hb .nil hx I (.cons rx' .nil) (by simpa using hq)) (fun v s' q => wpAny_pure q) fun _ _ z => z
/-! ### great ints -/
def CDivX (_ j : Int) : Prop := j ≠ 0 ∧ j.natAbs.log2 < 9000
theorem op_fdivX : OpR X (binaryOp .FloorDiv) (rI CDivX fun i j => .int (i.fdiv j)) := opI fun _ _ _ _ _ _ _ hc q => floordiv_int hc.1 q (.inl (PyProof.noPylong_of_log2 hc.2))
theorem divX {i j : Int} {b : Nat} (h : j ≠ 0) (hb : j.natAbs < 2 ^ b) (h0 : 0 < b) (h9 : b ≤ 9000) : CDivX i j := ⟨h, Nat.lt_of_lt_of_le (PySem.Flt.log2_lt_of h0 hb) h9⟩
theorem go_gcd {a b : Int} (h : Q (.int ((Nat.gcd a.natAbs b.natAbs : Nat) : Int)) H) : rGcd [.int a, .int b] H Q := ⟨a, b, rfl, h⟩
/-- two numbers of up to 9000 bits -/
def rLcm : List V → Hp → VK → Prop := fun vs H Q => ∃ a b : Int, vs = [.int a, .int b] ∧ a.natAbs < 2 ^ 9000 ∧ b.natAbs < 2 ^ 9000 ∧ Q (.int ((Nat.lcm a.natAbs b.natAbs : Nat) : Int)) H
theorem log2_le {n k : Nat} (h : n < 2 ^ (k + 1)) : n.log2 ≤ k := PySem.W.mg_log h
theorem cr_lcm : CallR X (.builtin "math.lcm") rLcm := by
  intro pins s σ H vs us Q I r h
  obtain ⟨a, b, rfl, ha, hb, q⟩ := h
  obtain ⟨t, u, rfl⟩ := Vals.int2 r
  have h1 : (max 1 a.natAbs).log2 ≤ 8999 := log2_le (by
    have : 1 < 2 ^ 9000 := Nat.one_lt_two_pow (by decide)
    show max 1 a.natAbs < 2 ^ 9000
    omega)
  have h2 : (max a.natAbs b.natAbs).log2 ≤ 8999 := log2_le (by show max a.natAbs b.natAbs < 2 ^ 9000; omega)
  have e : (Nat.lcm 1 a.natAbs) = a.natAbs := Nat.lcm_one_left _
  have hz : ((((Nat.lcm 1 a.natAbs).lcm b.natAbs : Nat) : Int)).natAbs.log2 < bitsLine := by
    rw [e, Int.natAbs_natCast]
    have hm : a.natAbs.lcm b.natAbs ≤ a.natAbs * b.natAbs := Nat.div_le_self _ _
    have hl : a.natAbs.lcm b.natAbs < 2 ^ (17999 + 1) := by
      have : a.natAbs * b.natAbs < 2 ^ 9000 * 2 ^ 9000 := Nat.mul_lt_mul'' ha hb
      rw [← Nat.pow_add] at this
      exact Nat.lt_of_le_of_lt hm this
    have := log2_le hl
    have hb : bitsLine = 134217728 := by decide
    omega
  have g := PySem.W.mg_run_lcm a t b u (by omega) (by omega) hz
  refine call_function_meets PySem.W.MGF.kind_lcm PySem.W.MGF.plain_lcm PySem.W.MGF.entry_lcm (PySem.W.MGF.args_lcm _ _) g.meets ?_
  rw [e]
  exact ⟨.int _, H, I.tok _, ⟨_, rfl⟩, q⟩
theorem go_lcm {a b : Int} (ha : a.natAbs < 2 ^ 9000) (hb : b.natAbs < 2 ^ 9000) (h : Q (.int ((Nat.lcm a.natAbs b.natAbs : Nat) : Int)) H) : rLcm [.int a, .int b] H Q := ⟨a, b, rfl, ha, hb, h⟩
end
end Gx

set_option Elab.async false
set_option linter.all false
set_option maxRecDepth 100000
set_option maxHeartbeats 4000000
/-! Own lemmas: fractions in lowest terms; Euclid's loop. -/
namespace Gx
open PySem PySem.Spec PyProof.Rows L2
/-- the numerator and the denominator in lowest terms -/
def rN (a b : Int) : Int := if b < 0 then (-a) / (Int.gcd a b : Int) else a / (Int.gcd a b : Int)
def rD (a b : Int) : Int := if b < 0 then (-b) / (Int.gcd a b : Int) else b / (Int.gcd a b : Int)
theorem gcd_pos {a b : Int} (h : b ≠ 0) : 0 < (Int.gcd a b : Int) := by
  have := Int.gcd_pos_of_ne_zero_right a h
  omega
theorem gcd_l (a b : Int) : (Int.gcd a b : Int) ∣ a := Int.gcd_dvd_left _ _
theorem gcd_r (a b : Int) : (Int.gcd a b : Int) ∣ b := Int.gcd_dvd_right _ _
/-- one form for both signs -/
theorem rN_mul {a b : Int} (h : b ≠ 0) : rN a b * (if b < 0 then -(Int.gcd a b : Int) else (Int.gcd a b : Int)) = a := by
  unfold rN
  split
  · rw [Int.mul_neg, Int.ediv_mul_cancel (Int.dvd_neg.mpr (gcd_l a b)), Int.neg_neg]
  · exact Int.ediv_mul_cancel (gcd_l a b)
theorem rD_mul {a b : Int} (h : b ≠ 0) : rD a b * (if b < 0 then -(Int.gcd a b : Int) else (Int.gcd a b : Int)) = b := by
  unfold rD
  split
  · rw [Int.mul_neg, Int.ediv_mul_cancel (Int.dvd_neg.mpr (gcd_r a b)), Int.neg_neg]
  · exact Int.ediv_mul_cancel (gcd_r a b)
theorem rD_pos {a b : Int} (h : b ≠ 0) : 0 < rD a b := by
  have g := gcd_pos (a := a) h
  have e := rD_mul (a := a) h
  by_cases hb : b < 0
  · rw [if_pos hb] at e
    by_cases q : 0 < rD a b
    · exact q
    · have : 0 ≤ rD a b * -(Int.gcd a b : Int) := Int.mul_nonneg_of_nonpos_of_nonpos (by omega) (by omega)
      omega
  · rw [if_neg hb] at e
    by_cases q : 0 < rD a b
    · exact q
    · have : rD a b * (Int.gcd a b : Int) ≤ 0 := Int.mul_nonpos_of_nonpos_of_nonneg (by omega) (by omega)
      omega
theorem r_cross {a b : Int} (h : b ≠ 0) : rN a b * b = a * rD a b := by
  have e1 := rN_mul (a := a) h
  have e2 := rD_mul (a := a) h
  generalize (if b < 0 then -(Int.gcd a b : Int) else (Int.gcd a b : Int)) = g at e1 e2
  calc rN a b * b = rN a b * (rD a b * g) := by rw [e2]
    _ = (rN a b * g) * rD a b := by rw [Int.mul_comm (rD a b) g, ← Int.mul_assoc]
    _ = a * rD a b := by rw [e1]
theorem r_coprime {a b : Int} (h : b ≠ 0) : Int.gcd (rN a b) (rD a b) = 1 := by
  have g := gcd_pos (a := a) h
  have e1 := rN_mul (a := a) h
  have e2 := rD_mul (a := a) h
  have e3 : Int.gcd (rN a b * (if b < 0 then -(Int.gcd a b : Int) else (Int.gcd a b : Int))) (rD a b * (if b < 0 then -(Int.gcd a b : Int) else (Int.gcd a b : Int))) = Int.gcd a b := by rw [e1, e2]
  rw [Int.gcd_mul_right] at e3
  have e4 : (if b < 0 then -(Int.gcd a b : Int) else (Int.gcd a b : Int)).natAbs = Int.gcd a b := by
    split
    · rw [Int.natAbs_neg, Int.natAbs_natCast]
    · rw [Int.natAbs_natCast]
  rw [e4] at e3
  have hp : 0 < Int.gcd a b := by omega
  exact Nat.eq_of_mul_eq_mul_right hp (by omega)
theorem dvd_co {k m n : Int} (h : k ∣ m * n) (g : Int.gcd k m = 1) : k ∣ n := by
  have h' : k.natAbs ∣ m.natAbs * n.natAbs := by
    rw [← Int.natAbs_mul]
    exact Int.natAbs_dvd_natAbs.mpr h
  exact Int.natAbs_dvd_natAbs.mp (Nat.Coprime.dvd_of_dvd_mul_left (show Nat.gcd k.natAbs m.natAbs = 1 from g) h')
/-- lowest terms are one -/
theorem low_unique {n d n' d' : Int} (hd : 0 < d) (hd' : 0 < d') (h1 : Int.gcd n d = 1) (h2 : Int.gcd n' d' = 1) (h : n * d' = n' * d) : n = n' ∧ d = d' := by
  have k1 : d ∣ d' := by
    have : d ∣ n * d' := by rw [h]; exact Int.dvd_mul_left _ _
    exact dvd_co this (by rw [Int.gcd_comm]; exact h1)
  have k2 : d' ∣ d := by
    have : d' ∣ n' * d := by rw [← h]; exact Int.dvd_mul_left _ _
    exact dvd_co this (by rw [Int.gcd_comm]; exact h2)
  have e : d = d' := Int.dvd_antisymm (by omega) (by omega) k1 k2
  subst e
  exact ⟨Int.eq_of_mul_eq_mul_right (by omega) h, rfl⟩
theorem r_unique {a b n d : Int} (h : b ≠ 0) (hd : 0 < d) (hg : Int.gcd n d = 1) (e : n * b = a * d) : n = rN a b ∧ d = rD a b := by
  refine low_unique hd (rD_pos h) hg (r_coprime h) ?_
  have c := r_cross (a := a) h
  have : n * rD a b * b = rN a b * d * b := by
    calc n * rD a b * b = n * b * rD a b := by rw [Int.mul_right_comm]
      _ = a * d * rD a b := by rw [e]
      _ = a * rD a b * d := by rw [Int.mul_right_comm]
      _ = rN a b * b * d := by rw [c]
      _ = rN a b * d * b := by rw [Int.mul_right_comm]
  exact Int.eq_of_mul_eq_mul_right h this
theorem r_congr {a b a' b' : Int} (h : b ≠ 0) (h' : b' ≠ 0) (e : a * b' = a' * b) : rN a b = rN a' b' ∧ rD a b = rD a' b' := by
  refine r_unique h' (rD_pos h) (r_coprime h) ?_
  have c := r_cross (a := a) h
  have : rN a b * b' * b = a' * rD a b * b := by
    calc rN a b * b' * b = rN a b * b * b' := by rw [Int.mul_right_comm]
      _ = a * rD a b * b' := by rw [c]
      _ = a * b' * rD a b := by rw [Int.mul_right_comm]
      _ = a' * b * rD a b := by rw [e]
      _ = a' * rD a b * b := by rw [Int.mul_right_comm]
  exact Int.eq_of_mul_eq_mul_right h this
/-- what the program reckons -/
theorem rN_fdiv {a b : Int} (h : b ≠ 0) {p : Int} (hp : p = if b < 0 then -(Int.gcd a b : Int) else (Int.gcd a b : Int)) : a.fdiv p = rN a b ∧ b.fdiv p = rD a b ∧ p ≠ 0 := by
  have g := gcd_pos (a := a) h
  have hp0 : p ≠ 0 := by rw [hp]; split <;> omega
  have e1 := rN_mul (a := a) h
  have e2 := rD_mul (a := a) h
  rw [← hp] at e1 e2
  refine ⟨?_, ?_, hp0⟩
  · have := Int.mul_fdiv_cancel (rN a b) hp0
    rw [e1] at this
    exact this
  · have := Int.mul_fdiv_cancel (rD a b) hp0
    rw [e2] at this
    exact this
theorem mul_abs_le {x y z : Int} (hz : z ≠ 0) (e : x * z = y) : x.natAbs ≤ y.natAbs := by
  rw [← e, Int.natAbs_mul]
  exact Nat.le_mul_of_pos_right _ (by omega)
theorem rN_le (a b : Int) (h : b ≠ 0) : (rN a b).natAbs ≤ a.natAbs := by
  have g := gcd_pos (a := a) h
  exact mul_abs_le (by split <;> omega) (rN_mul h)
theorem rD_le (a b : Int) (h : b ≠ 0) : (rD a b).natAbs ≤ b.natAbs := by
  have g := gcd_pos (a := a) h
  exact mul_abs_le (by split <;> omega) (rD_mul h)
theorem r_self {n d : Int} (hd : 0 < d) (hg : Int.gcd n d = 1) : rN n d = n ∧ rD n d = d := by
  obtain ⟨e1, e2⟩ := r_unique (a := n) (b := d) (n := n) (d := d) (by omega) hd hg rfl
  exact ⟨e1.symm, e2.symm⟩
/-! ### sums, products of fractions that were brought to lowest terms -/
theorem r_add {a b c d : Int} (hb : b ≠ 0) (hd : d ≠ 0) : rN (rN a b * rD c d + rN c d * rD a b) (rD a b * rD c d) = rN (a * d + c * b) (b * d) ∧ rD (rN a b * rD c d + rN c d * rD a b) (rD a b * rD c d) = rD (a * d + c * b) (b * d) := by
  have p1 := rD_pos (a := a) hb
  have p2 := rD_pos (a := c) hd
  have c1 := r_cross (a := a) hb
  have c2 := r_cross (a := c) hd
  refine r_congr (Int.ne_of_gt (Int.mul_pos p1 p2)) (Int.mul_ne_zero hb hd) ?_
  generalize rN a b = n at *
  generalize rD a b = m at *
  generalize rN c d = n' at *
  generalize rD c d = m' at *
  rw [Int.add_mul, Int.add_mul]
  have e1 : n * m' * (b * d) = a * d * (m * m') := by
    calc n * m' * (b * d) = (n * b) * (m' * d) := by ac_rfl
      _ = (a * m) * (m' * d) := by rw [c1]
      _ = a * d * (m * m') := by ac_rfl
  have e2 : n' * m * (b * d) = c * b * (m * m') := by
    calc n' * m * (b * d) = (n' * d) * (m * b) := by ac_rfl
      _ = (c * m') * (m * b) := by rw [c2]
      _ = c * b * (m * m') := by ac_rfl
  rw [e1, e2]
theorem r_neg {a b : Int} (hb : b ≠ 0) : rN (-rN a b) (rD a b) = rN (-a) b ∧ rD (-rN a b) (rD a b) = rD (-a) b := by
  have p1 := rD_pos (a := a) hb
  have c1 := r_cross (a := a) hb
  refine r_congr (by omega) hb ?_
  rw [Int.neg_mul, Int.neg_mul, c1]
theorem r_sub {a b c d : Int} (hb : b ≠ 0) (hd : d ≠ 0) : rN (rN a b * rD c d - rN c d * rD a b) (rD a b * rD c d) = rN (a * d - c * b) (b * d) ∧ rD (rN a b * rD c d - rN c d * rD a b) (rD a b * rD c d) = rD (a * d - c * b) (b * d) := by
  have p1 := rD_pos (a := a) hb
  have p2 := rD_pos (a := c) hd
  have c1 := r_cross (a := a) hb
  have c2 := r_cross (a := c) hd
  refine r_congr (Int.ne_of_gt (Int.mul_pos p1 p2)) (Int.mul_ne_zero hb hd) ?_
  generalize rN a b = n at *
  generalize rD a b = m at *
  generalize rN c d = n' at *
  generalize rD c d = m' at *
  rw [Int.sub_mul, Int.sub_mul]
  have e1 : n * m' * (b * d) = a * d * (m * m') := by
    calc n * m' * (b * d) = (n * b) * (m' * d) := by ac_rfl
      _ = (a * m) * (m' * d) := by rw [c1]
      _ = a * d * (m * m') := by ac_rfl
  have e2 : n' * m * (b * d) = c * b * (m * m') := by
    calc n' * m * (b * d) = (n' * d) * (m * b) := by ac_rfl
      _ = (c * m') * (m * b) := by rw [c2]
      _ = c * b * (m * m') := by ac_rfl
  rw [e1, e2]
theorem r_mul {a b c d : Int} (hb : b ≠ 0) (hd : d ≠ 0) : rN (rN a b * rN c d) (rD a b * rD c d) = rN (a * c) (b * d) ∧ rD (rN a b * rN c d) (rD a b * rD c d) = rD (a * c) (b * d) := by
  have p1 := rD_pos (a := a) hb
  have p2 := rD_pos (a := c) hd
  have c1 := r_cross (a := a) hb
  have c2 := r_cross (a := c) hd
  refine r_congr (Int.ne_of_gt (Int.mul_pos p1 p2)) (Int.mul_ne_zero hb hd) ?_
  generalize rN a b = n at *
  generalize rD a b = m at *
  generalize rN c d = n' at *
  generalize rD c d = m' at *
  calc n * n' * (b * d) = (n * b) * (n' * d) := by ac_rfl
    _ = (a * m) * (c * m') := by rw [c1, c2]
    _ = a * c * (m * m') := by ac_rfl
/-! ### Euclid -/
theorem gcd_step {a b : Int} (ha : 0 ≤ a) (hb : 0 < b) : Int.gcd b (a % b) = Int.gcd a b := by
  have h : 0 ≤ a % b := Int.emod_nonneg _ (by omega)
  obtain ⟨n, rfl⟩ : ∃ n : Nat, a = n := ⟨a.toNat, by omega⟩
  obtain ⟨m, rfl⟩ : ∃ m : Nat, b = m := ⟨b.toNat, by omega⟩
  rw [← Int.natCast_emod, Int.gcd_natCast_natCast, Int.gcd_natCast_natCast, Nat.gcd_comm n m, Nat.gcd_rec m n, Nat.gcd_comm]
theorem euclid_drop {a b : Int} (hb : 0 < b) (h : b < a) : 2 * (b * (a % b)) ≤ a * b := by
  have h0 : 0 ≤ a % b := Int.emod_nonneg _ (by omega)
  have h1 : a % b < b := Int.emod_lt_of_pos _ hb
  have h2 : 1 ≤ a / b := by
    rw [Int.le_ediv_iff_mul_le hb]
    omega
  have h3 := Int.mul_ediv_add_emod a b
  have h4 : b * 1 ≤ b * (a / b) := Int.mul_le_mul_of_nonneg_left h2 (by omega)
  have h5 : 2 * (a % b) ≤ a := by omega
  have h6 : b * (2 * (a % b)) ≤ b * a := Int.mul_le_mul_of_nonneg_left h5 (by omega)
  rw [Int.mul_comm a b]
  calc 2 * (b * (a % b)) = b * (2 * (a % b)) := by ac_rfl
    _ ≤ b * a := h6
/-! ### a ratio as an object -/
def rf (n d : Int) : List (Str × V) := [("num", .int n), ("den", .int d)]
theorem nd_ne : ¬ (("num" : Str) = "den") := by decide +kernel
theorem rf_num (n d : Int) : (rf n d).lookup ("num" : Str) = some (.int n) := by
  unfold rf
  rw [List.lookup_cons, beq_self_eq_true]
theorem rf_den (n d : Int) : (rf n d).lookup ("den" : Str) = some (.int d) := by
  unfold rf
  rw [List.lookup_cons, show (("den" : Str) == "num") = false by decide +kernel, List.lookup_cons, beq_self_eq_true]
theorem rf_none (n d : Int) {m : Str} (h1 : ¬ m = "num") (h2 : ¬ m = "den") : (rf n d).lookup m = none := by
  unfold rf
  rw [List.lookup_cons, beq_eq_false_iff_ne.mpr h1, List.lookup_cons, beq_eq_false_iff_ne.mpr h2]
  rfl
theorem rf_put (n d : Int) : putF "den" (.int d) (putF "num" (.int n) []) = rf n d := by
  show (if ("num" : Str) = "den" then [(("num" : Str), V.int d)] else (("num" : Str), V.int n) :: putF "den" (V.int d) []) = _
  rw [if_neg nd_ne]
  rfl
/-- a ratio n / d stands at x -/
def RatAt (C : Addr) (H : Hp) (x : Addr) (n d : Int) : Prop := ∃ dx, H x = some (.ins C dx (rf n d))
theorem RatAt.same {C : Addr} {H H' : Hp} {x : Addr} {n d : Int} (h : RatAt C H x n d) (s : Same H H') : RatAt C H' x n d := let ⟨dx, e⟩ := h; ⟨dx, s _ _ e⟩
section
variable {K : PySem.W.Frag} {σ : L2.St} {H : Hp} {Q : VK} {ta : TE} {f : Str}
def qFld (K : PySem.W.Frag) (f : Str) (Q : VK) : VK := fun x H1 => ∃ a C dx fs v, x = .ref a ∧ H1 a = some (.ins C dx fs) ∧ Cls K C ∧ NoAttr K C f ∧ fs.lookup f = some v ∧ Q v H1
theorem go_fld (h : ta σ H (qFld K f Q)) : tFld K ta f σ H Q := h
theorem go_fldV {a C dx : Addr} {fs : List (Str × V)} {v : V} (e : H a = some (.ins C dx fs)) (c : Cls K C) (n : NoAttr K C f) (l : fs.lookup f = some v) (h : Q v H) : qFld K f Q (.ref a) H := ⟨a, C, dx, fs, v, rfl, e, c, n, l, h⟩
theorem go_rnum {a C dx : Addr} {m d : Int} (e : H a = some (.ins C dx (rf m d))) (c : Cls K C) (n : NoAttr K C "num") (h : Q (.int m) H) : qFld K "num" Q (.ref a) H := go_fldV e c n (rf_num m d) h
theorem go_rden {a C dx : Addr} {m d : Int} (e : H a = some (.ins C dx (rf m d))) (c : Cls K C) (n : NoAttr K C "den") (h : Q (.int d) H) : qFld K "den" Q (.ref a) H := go_fldV e c n (rf_den m d) h
theorem go_make {C : Addr} {sp : Sp} {dvs : List V} {E : XK} {t : TA} (h : t σ H fun vs H1 => ∀ x dx, H1 x = none → H1 dx = none → dx ≠ x →
  sp (.ref x :: (vs ++ dvs)) (upd (upd H1 dx (.own x)) x (.ins C dx [])) (fun v H2 => v = .non ∧ Q (.ref x) H2) E) : tMake C sp dvs E t σ H Q := h
theorem go_meth {C : Addr} {m : Str} {sp : Sp} {dvs : List V} {E : XK} {t : TA} (h : ta σ H fun x H1 => ∃ a dx fs, x = .ref a ∧ H1 a = some (.ins C dx fs) ∧ fs.lookup m = none ∧
  t σ H1 fun vs H2 => sp (x :: (vs ++ dvs)) H2 Q E) : tMeth C m sp dvs E ta t σ H Q := h
def sFldN (K : PySem.W.Frag) (f : Str) (y : V) (σ : L2.St) (D : Ends) : VK := fun x H2 => ∃ a C dx fs, x = .ref a ∧ H2 a = some (.ins C dx fs) ∧ Cls K C ∧ NoAttr K C f ∧ fs.length < 1000 ∧ D.nx σ (upd H2 a (.ins C dx (putF f y fs)))
theorem go_sfld {D : Ends} {tv : TE} (h : tv σ H fun y H1 => ta σ H1 (sFldN K f y σ D)) : sFld K ta tv f D σ H := h
theorem go_sfldV {D : Ends} {y : V} {a C dx : Addr} {fs : List (Str × V)} (e : H a = some (.ins C dx fs)) (c : Cls K C) (n : NoAttr K C f) (l : fs.length < 1000) (h : D.nx σ (upd H a (.ins C dx (putF f y fs)))) : sFldN K f y σ D (.ref a) H :=
  ⟨a, C, dx, fs, rfl, e, c, n, l, h⟩
end
theorem same_made {H H1 : Hp} {z dz : Addr} {o1 o2 : HO} (hz : H z = none) (hdz : H dz = none) (s : ∀ c o, c ≠ z → upd (upd H dz o1) z o2 c = some o → H1 c = some o) : Same H H1 := fun t o ht => by
  refine s t o (ne_of_none ht hz) ?_
  rw [upd_ne (ne_of_none ht hz), upd_ne (ne_of_none ht hdz)]
  exact ht
theorem p_mono {x : Int} {k n : Nat} (h : x.natAbs < 2 ^ k) (hk : k ≤ n) : x.natAbs < 2 ^ n := Nat.lt_of_lt_of_le h (Nat.pow_le_pow_right (by decide) hk)
theorem p30 {x : Int} (h : x.natAbs ≤ 10 ^ 30 + 1) : x.natAbs < 2 ^ 100 := Nat.lt_of_le_of_lt h (by decide)
theorem p_add {x y : Int} {k : Nat} (h1 : x.natAbs < 2 ^ k) (h2 : y.natAbs < 2 ^ k) : (x + y).natAbs < 2 ^ (k + 1) := by
  have := Int.natAbs_add_le x y
  rw [Nat.pow_succ]
  omega
theorem p_sub {x y : Int} {k : Nat} (h1 : x.natAbs < 2 ^ k) (h2 : y.natAbs < 2 ^ k) : (x - y).natAbs < 2 ^ (k + 1) := by
  have := Int.natAbs_sub_le x y
  rw [Nat.pow_succ]
  omega
/-! ### lists of ratios -/
/-- each of xs is a ratio, with the terms of rs -/
def RatsAt (C : Addr) (H : Hp) (xs : List V) (rs : List (Int × Int)) : Prop := xs.length = rs.length ∧ ∀ (i : Nat) x r, xs[i]? = some x → rs[i]? = some r → ∃ p dx, x = .ref p ∧ H p = some (.ins C dx (rf r.1 r.2))
theorem RatsAt.same {C : Addr} {H H' : Hp} {xs : List V} {rs : List (Int × Int)} (h : RatsAt C H xs rs) (s : Same H H') : RatsAt C H' xs rs :=
  ⟨h.1, fun i x r a b => let ⟨p, dx, e, k⟩ := h.2 i x r a b; ⟨p, dx, e, s _ _ k⟩⟩
theorem RatsAt.get {C : Addr} {H : Hp} {xs : List V} {rs : List (Int × Int)} (h : RatsAt C H xs rs) {i : Nat} {x : V} (e : xs[i]? = some x) : ∃ r p dx, rs[i]? = some r ∧ x = .ref p ∧ H p = some (.ins C dx (rf r.1 r.2)) := by
  have hi := (List.getElem?_eq_some_iff.mp e).1
  have hi2 : i < rs.length := by rw [← h.1]; exact hi
  obtain ⟨p, dx, e2, k⟩ := h.2 i x _ e (List.getElem?_eq_getElem hi2)
  exact ⟨_, p, dx, List.getElem?_eq_getElem hi2, e2, k⟩
theorem RatsAt.nil {C : Addr} {H : Hp} : RatsAt C H [] [] := ⟨rfl, fun i x r h _ => by simp at h⟩
theorem RatsAt.snoc {C : Addr} {H : Hp} {xs : List V} {rs : List (Int × Int)} (h : RatsAt C H xs rs) {p dx : Addr} {n d : Int} (e : H p = some (.ins C dx (rf n d))) : RatsAt C H (xs ++ [.ref p]) (rs ++ [(n, d)]) := by
  refine ⟨by simp [h.1], fun i x r a b => ?_⟩
  rcases Nat.lt_or_ge i xs.length with q | q
  · rw [List.getElem?_append_left q] at a
    rw [List.getElem?_append_left (by rw [← h.1]; exact q)] at b
    exact h.2 i x r a b
  · rw [List.getElem?_append_right q] at a
    rw [List.getElem?_append_right (by rw [← h.1]; exact q), ← h.1] at b
    rcases Nat.eq_zero_or_pos (i - xs.length) with z | z
    · rw [z] at a b
      cases a
      cases b
      exact ⟨p, dx, rfl, e⟩
    · rw [List.getElem?_eq_none (by simp; omega)] at a
      cases a
/-- a comprehension's list, by what was made at each place -/
theorem rats_of {C : Addr} {H : Hp} {ys : List V} {rs : List (Int × Int)} (hl : ys.length = rs.length) (h : ∀ (k : Nat) y, ys[k]? = some y → ∃ r p dx, rs[k]? = some r ∧ y = .ref p ∧ H p = some (.ins C dx (rf r.1 r.2))) : RatsAt C H ys rs :=
  ⟨hl, fun i x r a b => by
    obtain ⟨r', p, dx, e1, e2, e3⟩ := h i x a
    rw [b] at e1
    cases e1
    exact ⟨p, dx, e2, e3⟩⟩
/-- the denominator of the common form -/
def cden (rs : List (Int × Int)) : Nat := rs.foldl (fun m r => Nat.lcm m r.2.natAbs) 1
theorem cden_snoc (rs : List (Int × Int)) (r : Int × Int) : cden (rs ++ [r]) = Nat.lcm (cden rs) r.2.natAbs := by
  unfold cden
  rw [List.foldl_append]
  rfl
theorem cden_take {rs : List (Int × Int)} {i : Nat} {r : Int × Int} (h : rs[i]? = some r) : cden (rs.take (i + 1)) = Nat.lcm (cden (rs.take i)) r.2.natAbs := by
  rw [List.take_add_one, h, show (some r).toList = [r] from rfl, cden_snoc]
theorem lfold_pos : ∀ (rs : List (Int × Int)) (m : Nat), 0 < m → (∀ r ∈ rs, 0 < r.2) → 0 < rs.foldl (fun m r => Nat.lcm m r.2.natAbs) m
  | [], m, h, _ => h
  | r :: t, m, h, hr => by
    rw [List.foldl_cons]
    refine lfold_pos t _ (Nat.lcm_pos h ?_) fun z hz => hr z (List.mem_cons_of_mem _ hz)
    have := hr r List.mem_cons_self
    omega
theorem cden_pos {rs : List (Int × Int)} (h : ∀ r ∈ rs, 0 < r.2) : 0 < cden rs := lfold_pos rs 1 (by decide) h
theorem lfold_dvd : ∀ (rs : List (Int × Int)) (m : Nat), m ∣ rs.foldl (fun m r => Nat.lcm m r.2.natAbs) m ∧ ∀ r ∈ rs, r.2.natAbs ∣ rs.foldl (fun m r => Nat.lcm m r.2.natAbs) m
  | [], m => ⟨Nat.dvd_refl _, fun r h => nomatch h⟩
  | s :: t, m => by
    rw [List.foldl_cons]
    obtain ⟨h1, h2⟩ := lfold_dvd t (Nat.lcm m s.2.natAbs)
    refine ⟨Nat.dvd_trans (Nat.dvd_lcm_left _ _) h1, fun r hr => ?_⟩
    rcases List.mem_cons.mp hr with rfl | hr
    · exact Nat.dvd_trans (Nat.dvd_lcm_right _ _) h1
    · exact h2 r hr
theorem cden_dvd {rs : List (Int × Int)} {r : Int × Int} (h : r ∈ rs) : r.2.natAbs ∣ cden rs := (lfold_dvd rs 1).2 r h
theorem lfold_least : ∀ (rs : List (Int × Int)) (m k : Nat), m ∣ k → (∀ r ∈ rs, r.2.natAbs ∣ k) → rs.foldl (fun m r => Nat.lcm m r.2.natAbs) m ∣ k
  | [], m, k, h, _ => h
  | s :: t, m, k, h, hr => by
    rw [List.foldl_cons]
    exact lfold_least t _ k (Nat.lcm_dvd h (hr s List.mem_cons_self)) fun z hz => hr z (List.mem_cons_of_mem _ hz)
theorem cden_least {rs : List (Int × Int)} {k : Nat} (h : ∀ r ∈ rs, r.2.natAbs ∣ k) : cden rs ∣ k := lfold_least rs 1 k (Nat.one_dvd _) h
theorem lfold_lt : ∀ (rs : List (Int × Int)) (m e : Nat), m < 2 ^ e → (∀ r ∈ rs, r.2.natAbs < 2 ^ 100) → rs.foldl (fun m r => Nat.lcm m r.2.natAbs) m < 2 ^ (e + 100 * rs.length)
  | [], m, e, h, _ => h
  | s :: t, m, e, h, hr => by
    rw [List.foldl_cons]
    have h1 : Nat.lcm m s.2.natAbs ≤ m * s.2.natAbs := Nat.div_le_self _ _
    have h2 : m * s.2.natAbs < 2 ^ e * 2 ^ 100 := Nat.mul_lt_mul'' h (hr s List.mem_cons_self)
    rw [← Nat.pow_add] at h2
    have := lfold_lt t (Nat.lcm m s.2.natAbs) (e + 100) (Nat.lt_of_le_of_lt h1 h2) fun z hz => hr z (List.mem_cons_of_mem _ hz)
    rw [List.length_cons, show e + 100 * (t.length + 1) = e + 100 + 100 * t.length by omega]
    exact this
theorem cden_lt {rs : List (Int × Int)} (h : ∀ r ∈ rs, r.2.natAbs < 2 ^ 100) (hl : rs.length ≤ 60) : cden rs < 2 ^ 9000 :=
  Nat.lt_of_lt_of_le (lfold_lt rs 1 1 (by decide) h) (Nat.pow_le_pow_right (by decide) (by omega))
/-- the numbers of the common form -/
def cnum (rs : List (Int × Int)) : List Int := rs.map fun r => r.1 * ((cden rs : Int) / r.2)
section
variable {K : PySem.W.Frag} {σ : L2.St} {H : Hp} {R : L2.St → Hp → Prop} {t : TG} {u : TGs}
theorem go_gtup {n : Nat} {a : Addr} {xs : List V} (h : SqT K H a xs) (hl : xs.length = n) (q : u xs σ H R) : gTup K n u (.ref a) σ H R := ⟨a, xs, rfl, h, hl, q⟩
theorem go_gcons {v : V} {r : List V} (h : t v σ H fun σ' H' => u r σ' H' R) : gCons t u (v :: r) σ H R := ⟨v, r, rfl, h⟩
theorem go_gnil (h : R σ H) : gNil [] σ H R := ⟨rfl, h⟩
end
/-! ### comprehensions that make objects -/
/-- what is told of an item stays as the heap grows, and as a list is written -/
structure Stays (P : Hp → Nat → V → Prop) : Prop where
  same : ∀ H H' k y, Same H H' → P H k y → P H' k y
  lst : ∀ H D zs zs' k y, H D = some (.lst zs) → P H k y → P (upd H D (.lst zs')) k y
theorem stays_rat {C : Addr} {rs : List (Int × Int)} : Stays fun H k y => ∃ r p dx, rs[k]? = some r ∧ y = .ref p ∧ H p = some (.ins C dx (rf r.1 r.2)) :=
  ⟨fun H H' k y s ⟨r, p, dx, a, b, c⟩ => ⟨r, p, dx, a, b, s _ _ c⟩, fun H D zs zs' k y e ⟨r, p, dx, a, b, c⟩ => ⟨r, p, dx, a, b, by rw [upd_ne (ne_of c e (by intro z; cases z))]; exact c⟩⟩
section
variable {K : PySem.W.Frag} {σ : L2.St} {H H1 : Hp} {Q : VK} {tl te : TE} {vs : List Nat} {j : Nat}
theorem lcLh {R : Addr → Hp → Prop} {a : Addr} (xs : List V) {P : Hp → Nat → V → Prop} (hP : Stays P) (hs : SqL K H1 a xs) (hz : xs.length ≤ 100000) (hw : ∀ x, wipe ((wipe σ vs).set j x) vs = wipe σ vs)
    (he : ∀ (i : Nat) x H', xs[i]? = some x → Same H1 H' → ∀ R : VK, (∀ y H'', Same H' H'' → P H'' i y → R y H'') → te ((wipe σ vs).set j (some x)) H' R)
    (q : ∀ D (ys : List V) H2, H1 D = none → Same H1 H2 → H2 D = some (.lst ys) → ys.length = xs.length → (∀ k y, ys[k]? = some y → P H2 k y) → R D H2) :
    ∃ b, V.ref a = .ref b ∧ (∃ xs, SqL K H1 b xs) ∧ ∀ D, H1 D = none → ∃ W : Nat → Nat → Hp → Prop, (∃ m, W 0 m (upd H1 D (.lst []))) ∧ ∀ i m H, W i m H →
      ((Itl K b).stop i H ∧ R D H) ∨ ((Itl K b).go i H ∧ ∃ Nx : Hp → Prop, (∀ H', Nx H' → ∃ m', m' < m ∧ W (i + 1) m' H') ∧ ∀ x H', (Itl K b).yld i H x H' → gName j x (wipe σ vs) H' fun σ2 H2 => wipe σ2 vs = wipe σ vs ∧ tYes σ2 H2 fun b H3 =>
        if b = true then te σ2 H3 fun y H4 => ∃ acc, H4 D = some (.lst acc) ∧ acc.length < sizeLine ∧ Nx (upd H4 D (.lst (acc ++ [y]))) else Nx H3) := by
  refine ⟨a, rfl, ⟨xs, hs⟩, fun D hD => ?_⟩
  refine lc_list (xs := xs) (fun i H' => Same H1 H' ∧ ∃ ys : List V, H' D = some (.lst ys) ∧ ys.length = i ∧ ∀ k y, ys[k]? = some y → P H' k y) ⟨same_new hD, [], upd_same, rfl, fun k y h => by simp at h⟩ (fun i H _ p => same_sqL p.1 hs) (fun i x H hx p => ?_) fun H p => ?_
  · obtain ⟨s, ys, e, hl, hp⟩ := p
    refine ⟨hw _, ?_⟩
    refine go_yes ?_
    refine iteT ?_
    refine he i x H hx s _ fun y H4 s4 hy => ?_
    have hi := (List.getElem?_eq_some_iff.mp hx).1
    have e4 := s4 _ _ e
    refine ⟨ys, e4, szlt (by omega), same_mut (s.trans s4) hD, ys ++ [y], upd_same, by simp [hl], fun k z hz => ?_⟩
    refine hP.lst _ _ ys _ _ _ e4 ?_
    rcases Nat.lt_or_ge k ys.length with h | h
    · rw [List.getElem?_append_left h] at hz
      exact hP.same _ _ _ _ s4 (hp k z hz)
    · rw [List.getElem?_append_right h] at hz
      rcases Nat.eq_or_lt_of_le h with e2 | e2
      · rw [← e2, Nat.sub_self] at hz
        cases hz
        rw [← e2, hl]
        exact hy
      · rw [List.getElem?_eq_none (by simp; omega)] at hz
        cases hz
  · obtain ⟨s, ys, e, hl, hp⟩ := p
    exact q D ys H hD s e hl hp
end
/-! ### lists of pairs -/
def PairsAt (H : Hp) (xs : List V) (ts : List (Int × Int)) : Prop := xs.length = ts.length ∧ ∀ (i : Nat) x t, xs[i]? = some x → ts[i]? = some t → ∃ p, x = .ref p ∧ H p = some (.tup [.int t.1, .int t.2])
theorem PairsAt.nil {H : Hp} : PairsAt H [] [] := ⟨rfl, fun i x r h _ => by simp at h⟩
theorem PairsAt.same {H H' : Hp} {xs : List V} {ts : List (Int × Int)} (h : PairsAt H xs ts) (s : Same H H') : PairsAt H' xs ts :=
  ⟨h.1, fun i x r a b => let ⟨p, e, k⟩ := h.2 i x r a b; ⟨p, e, s _ _ k⟩⟩
theorem PairsAt.get {H : Hp} {xs : List V} {ts : List (Int × Int)} (h : PairsAt H xs ts) {i : Nat} {t : Int × Int} (e : ts[i]? = some t) : ∃ p, xs[i]? = some (.ref p) ∧ H p = some (.tup [.int t.1, .int t.2]) := by
  have hi := (List.getElem?_eq_some_iff.mp e).1
  have hi2 : i < xs.length := by rw [h.1]; exact hi
  obtain ⟨p, e2, k⟩ := h.2 i _ t (List.getElem?_eq_getElem hi2) e
  exact ⟨p, by rw [List.getElem?_eq_getElem hi2, e2], k⟩
/-- a list is written: the pairs stand -/
theorem PairsAt.lst {H : Hp} {xs : List V} {ts : List (Int × Int)} {D : Addr} {zs zs' : List V} (h : PairsAt H xs ts) (e : H D = some (.lst zs)) : PairsAt (upd H D (.lst zs')) xs ts :=
  ⟨h.1, fun i x r a b => let ⟨p, e1, k⟩ := h.2 i x r a b; ⟨p, e1, by rw [upd_ne (ne_of k e (by intro z; cases z))]; exact k⟩⟩
theorem PairsAt.snoc {H : Hp} {xs : List V} {ts : List (Int × Int)} (h : PairsAt H xs ts) {p : Addr} {n d : Int} (e : H p = some (.tup [.int n, .int d])) : PairsAt H (xs ++ [.ref p]) (ts ++ [(n, d)]) := by
  refine ⟨by simp [h.1], fun i x r a b => ?_⟩
  rcases Nat.lt_or_ge i xs.length with q | q
  · rw [List.getElem?_append_left q] at a
    rw [List.getElem?_append_left (by rw [← h.1]; exact q)] at b
    exact h.2 i x r a b
  · rw [List.getElem?_append_right q] at a
    rw [List.getElem?_append_right (by rw [← h.1]; exact q), ← h.1] at b
    rcases Nat.eq_zero_or_pos (i - xs.length) with z | z
    · rw [z] at a b
      cases a
      cases b
      exact ⟨p, rfl, e⟩
    · rw [List.getElem?_eq_none (by simp; omega)] at a
      cases a
/-! ### the common form is the least -/
theorem form_coprime {rs : List (Int × Int)} (hpos : ∀ r ∈ rs, 0 < r.2) (hco : ∀ r ∈ rs, Int.gcd r.1 r.2 = 1) {g : Nat} (h1 : g ∣ cden rs) (h2 : ∀ n ∈ cnum rs, (g : Int) ∣ n) : g = 1 := by
  have hL := cden_pos hpos
  obtain ⟨m, hm⟩ := h1
  have hg : 0 < g := by
    rcases Nat.eq_zero_or_pos g with z | z
    · rw [z, Nat.zero_mul] at hm
      omega
    · exact z
  have hmp : 0 < m := by
    rcases Nat.eq_zero_or_pos m with z | z
    · rw [z, Nat.mul_zero] at hm
      omega
    · exact z
  have key : cden rs ∣ m := cden_least fun r hr => by
    have hd := cden_dvd hr
    have d0 := hpos r hr
    have co := hco r hr
    have hn : (g : Int) ∣ r.1 * ((cden rs : Int) / r.2) := h2 _ (List.mem_map_of_mem hr)
    obtain ⟨k, hk⟩ := hd
    have hrd : r.2 = (r.2.natAbs : Int) := by omega
    have hq : (cden rs : Int) / r.2 = (k : Int) := by
      rw [hk, hrd]
      push_cast
      rw [Int.natAbs_natCast]
      exact Int.mul_ediv_cancel_left _ (by omega)
    rw [hq] at hn
    have hn2 : g ∣ r.1.natAbs * k := by
      have := Int.natAbs_dvd_natAbs.mpr hn
      rw [Int.natAbs_natCast, Int.natAbs_mul, Int.natAbs_natCast] at this
      exact this
    have hn3 : g ∣ r.2.natAbs * k := by rw [← hk]; exact ⟨m, hm⟩
    have hgk : g ∣ k := by
      have := Nat.dvd_gcd hn2 hn3
      rw [Nat.gcd_mul_right] at this
      have e : Nat.gcd r.1.natAbs r.2.natAbs = 1 := co
      rw [e, Nat.one_mul] at this
      exact this
    obtain ⟨j, hj⟩ := hgk
    refine ⟨j, ?_⟩
    have : g * m = g * (r.2.natAbs * j) := by rw [← hm, hk, hj]; ac_rfl
    exact Nat.eq_of_mul_eq_mul_left hg this
  have := Nat.le_of_dvd hmp key
  rw [hm] at this
  rcases Nat.lt_or_ge 1 g with z | z
  · exfalso
    have : 2 * m ≤ g * m := Nat.mul_le_mul_right _ z
    omega
  · omega
theorem cnum_len (rs : List (Int × Int)) : (cnum rs).length = rs.length := by unfold cnum; rw [List.length_map]
theorem cnum_at {rs : List (Int × Int)} {i : Nat} {r : Int × Int} (h : rs[i]? = some r) : (cnum rs)[i]? = some (r.1 * ((cden rs : Int) / r.2)) := by
  unfold cnum
  rw [List.getElem?_map, h]
  rfl
theorem cnum_mul {rs : List (Int × Int)} {r : Int × Int} (h : r ∈ rs) : r.1 * ((cden rs : Int) / r.2) * r.2 = r.1 * (cden rs : Int) := by
  have : r.2 ∣ (cden rs : Int) := Int.natAbs_dvd_natAbs.mp (by rw [Int.natAbs_natCast]; exact cden_dvd h)
  rw [Int.mul_assoc, Int.ediv_mul_cancel this]
end Gx

set_option Elab.async false
set_option linter.all false
set_option maxRecDepth 100000
set_option maxHeartbeats 4000000
/-! Own lemmas: data at any depth (Dp), tuples joined and cut, a range with a step, a list turned round. -/
namespace Gx
open PySem PySem.Spec PyProof.Rows L2
section
variable {K : PySem.W.Frag} {H H' : Hp}
mutual
theorem dp_same (s : Same H H') : ∀ (d : PyData) (v : V), Dp K H v d → Dp K H' v d
  | .none, _, h => by cases h; exact .non
  | .bool b, _, h => by cases h; exact .bl b
  | .int i, _, h => by cases h; exact .int i
  | .str x, _, h => by cases h; exact .str x
  | .list ds, _, h => by
    cases h with
    | lst hs ha => exact .lst (Same.seq s hs) (dpAll_same s ds _ ha)
  | .tuple ds, _, h => by
    cases h with
    | tup hs ha => exact .tup (same_sqT s hs) (dpAll_same s ds _ ha)
  | .dict _, _, h => by cases h
theorem dpAll_same (s : Same H H') : ∀ (ds : List PyData) (vs : List V), DpAll K H vs ds → DpAll K H' vs ds
  | [], _, h => by cases h; exact .nil
  | d :: ds, _, h => by
    cases h with
    | cons h1 h2 => exact .cons (dp_same s d _ h1) (dpAll_same s ds _ h2)
end
theorem dpAll_len : ∀ {ds : List PyData} {vs : List V}, DpAll K H vs ds → vs.length = ds.length
  | [], _, h => by cases h; rfl
  | d :: ds, _, h => by
    cases h with
    | cons h1 h2 => simp [dpAll_len h2]
theorem dpAll_get : ∀ {ds : List PyData} {vs : List V} {i : Nat} {d : PyData}, DpAll K H vs ds → ds[i]? = some d → ∃ v, vs[i]? = some v ∧ Dp K H v d
  | [], _, i, d, _, e => by simp at e
  | d :: ds, _, 0, d', h, e => by
    cases h with
    | cons h1 h2 =>
      simp at e
      subst e
      exact ⟨_, rfl, h1⟩
  | d :: ds, _, i + 1, d', h, e => by
    cases h with
    | cons h1 h2 =>
      simp at e
      obtain ⟨v, e2, h3⟩ := dpAll_get h2 e
      exact ⟨v, by simpa using e2, h3⟩
theorem dpAll_last {K : PySem.W.Frag} {H : Hp} {ds : List PyData} {vs : List V} {v : V} (h : DpAll K H vs ds) (e : vs.getLast? = some v) : ∃ d, ds.getLast? = some d ∧ Dp K H v d := by
  have hl := dpAll_len h
  rw [List.getLast?_eq_getElem?] at e
  have hlt := (List.getElem?_eq_some_iff.mp e).1
  obtain ⟨d, ed⟩ : ∃ d, ds[ds.length - 1]? = some d := ⟨_, List.getElem?_eq_getElem (by omega)⟩
  obtain ⟨v2, e2, h2⟩ := dpAll_get h ed
  rw [← hl, e] at e2
  cases e2
  exact ⟨d, by rw [List.getLast?_eq_getElem?]; exact ed, h2⟩
theorem dpAll_append : ∀ {ds es : List PyData} {vs us : List V}, DpAll K H vs ds → DpAll K H us es → DpAll K H (vs ++ us) (ds ++ es)
  | [], es, _, us, h, k => by cases h; exact k
  | d :: ds, es, _, us, h, k => by
    cases h with
    | cons h1 h2 => exact .cons h1 (dpAll_append h2 k)
theorem dpAll_take : ∀ {ds : List PyData} {vs : List V} (n : Nat), DpAll K H vs ds → DpAll K H (vs.take n) (ds.take n)
  | [], _, n, h => by cases h; simp; exact .nil
  | d :: ds, _, 0, h => by simp; exact .nil
  | d :: ds, _, n + 1, h => by
    cases h with
    | cons h1 h2 => exact .cons h1 (dpAll_take n h2)
theorem dpAll_reverse : ∀ {ds : List PyData} {vs : List V}, DpAll K H vs ds → DpAll K H vs.reverse ds.reverse
  | [], _, h => by cases h; exact .nil
  | d :: ds, _, h => by
    cases h with
    | cons h1 h2 =>
      rw [List.reverse_cons, List.reverse_cons]
      exact dpAll_append (dpAll_reverse h2) (.cons h1 .nil)
/-! data without lists: they outlast what is stored into a list -/
mutual
def noL : PyData → Bool
  | .list _ => false
  | .dict _ => false
  | .tuple xs => noLAll xs
  | _ => true
def noLAll : List PyData → Bool
  | [] => true
  | d :: ds => noL d && noLAll ds
end
theorem sqT_put {l a : Addr} {ys zs xs : List V} (hl : H l = some (.lst ys)) (h : SqT K H a xs) : SqT K (upd H l (.lst zs)) a xs := by
  have ne : ∀ {o : HO}, H a = some o → o ≠ .lst ys → a ≠ l := fun e n z => by
    rw [z, hl] at e
    exact n (Option.some.inj e).symm
  rcases h with (h | ⟨o, h⟩) | h
  · exact .inl (.inl (by rw [upd_ne (ne h (fun z => by cases z))]; exact h))
  · exact .inl (.inr ⟨o, by rw [upd_ne (ne h (fun z => by cases z))]; exact h⟩)
  · exact .inr h
mutual
theorem dp_put {l : Addr} {ys zs : List V} (hl : H l = some (.lst ys)) : ∀ (d : PyData) (v : V), noL d = true → Dp K H v d → Dp K (upd H l (.lst zs)) v d
  | .none, _, _, h => by cases h; exact .non
  | .bool b, _, _, h => by cases h; exact .bl b
  | .int i, _, _, h => by cases h; exact .int i
  | .str x, _, _, h => by cases h; exact .str x
  | .list ds, _, n, _ => by simp [noL] at n
  | .tuple ds, _, n, h => by
    cases h with
    | tup hs ha => exact .tup (sqT_put hl hs) (dpAll_put hl ds _ (by simpa [noL] using n) ha)
  | .dict _, _, n, _ => by simp [noL] at n
theorem dpAll_put {l : Addr} {ys zs : List V} (hl : H l = some (.lst ys)) : ∀ (ds : List PyData) (vs : List V), noLAll ds = true → DpAll K H vs ds → DpAll K (upd H l (.lst zs)) vs ds
  | [], _, _, h => by cases h; exact .nil
  | d :: ds, _, n, h => by
    have n' : noL d = true ∧ noLAll ds = true := by simpa [noLAll] using n
    cases h with
    | cons h1 h2 => exact .cons (dp_put hl d _ n'.1 h1) (dpAll_put hl ds _ n'.2 h2)
end
theorem noL_all : ∀ {ds : List PyData}, (∀ d ∈ ds, noL d = true) → noLAll ds = true
  | [], _ => rfl
  | d :: ds, h => by
    show (noL d && noLAll ds) = true
    rw [h d (List.mem_cons_self ..), noL_all fun x hx => h x (List.mem_cons_of_mem _ hx)]
    rfl
theorem dp_tup {v : V} {ds : List PyData} (h : Dp K H v (.tuple ds)) : ∃ a xs, v = .ref a ∧ SqT K H a xs ∧ DpAll K H xs ds := by
  cases h with
  | tup hs ha => exact ⟨_, _, rfl, hs, ha⟩
variable {Q : VK} {R : L2.St → Hp → Prop}
theorem go_catA {a b : Addr} {xs ys : List V} (h1 : SqT K H a xs) (h2 : SqT K H b ys) (hz : xs.length + ys.length ≤ 100000) (hy : ys ≠ [])
    (q : ∀ p H', Same H H' → SqT K H' p (xs ++ ys) → Q (.ref p) H') : rCatA K (.ref a) (.ref b) H Q := by
  refine ⟨a, b, xs, ys, rfl, rfl, h1, h2, Nat.le_trans hz (by rw [sizeLine_eq]; decide), fun e => ?_, fun _ e => absurd e hy, fun _ _ p hp => ?_⟩
  · subst e
    exact q b H (Same.refl _) h2
  · exact q p _ (fun c o hc => by rw [upd_ne (ne_of_none hc hp)]; exact hc) (.inl (.inl upd_same))
theorem go_slTo {a : Addr} {xs : List V} {k : Nat} (h : SqT K H a xs) (hk : k ≤ xs.length) (q : ∀ p H', Same H H' → SqT K H' p (xs.take k) → Q (.ref p) H') : rSlA K (.ref a) none (some (k : Int)) H Q := by
  refine ⟨a, xs, rfl, h, fun e => ?_, fun _ p hp => ?_⟩
  · have e2 := e.2
    rw [HT.sIx_nat] at e2
    have : xs.take k = xs := List.take_of_length_le (by omega)
    exact q a H (Same.refl _) (by rw [this]; exact h)
  · have e : cutV xs none (some (k : Int)) = xs.take k := by
      unfold cutV
      rw [HT.sIx_none, HT.sIx_nat]
      simp
    exact q p _ (fun c o hc => by rw [upd_ne (ne_of_none hc hp)]; exact hc) (.inl (.inl (by rw [upd_same, e])))
theorem go_eqD {x y : V} {d : PyData} (h1 : Dp K H x d) (h2 : Dp K H y d) (hs : SeqAt.shaped d = true) (q : Q (.bl true) H) : rEqD K x y H Q :=
  ⟨d, d, h1, h2, hs, hs, by rw [SeqAt.eqv_refl d (SeqAt.canLay_of_shaped hs)]; exact q⟩
theorem go_neD {x y : V} {d : PyData} (h1 : Dp K H x d) (h2 : Dp K H y d) (hs : SeqAt.shaped d = true) (q : Q (.bl false) H) : rNeD K x y H Q :=
  ⟨d, d, h1, h2, hs, hs, by rw [SeqAt.eqv_refl d (SeqAt.canLay_of_shaped hs)]; exact q⟩
theorem at_0 {x : V} {l : List V} : atI (x :: l) 0 = some x := at_nat (xs := x :: l) (i := 0) rfl
theorem at_1 {x y : V} {l : List V} : atI (x :: y :: l) 1 = some y := at_nat (xs := x :: y :: l) (i := 1) rfl
theorem at_2 {x y z : V} {l : List V} : atI (x :: y :: z :: l) 2 = some z := at_nat (xs := x :: y :: z :: l) (i := 2) rfl
theorem at_last {xs : List V} (h : xs ≠ []) : atI xs (-1) = xs.getLast? := by
  have hl : 0 < xs.length := List.length_pos_iff.mpr h
  have e : ixN xs.length (-1) = some (xs.length - 1) := by
    unfold ixN
    rw [if_neg (by decide), if_pos (by omega)]
    congr 1
    omega
  unfold atI
  rw [e, Option.bind_some, List.getLast?_eq_getElem?]
theorem go_iRng3 {σ : L2.St} {ta : TA} {R : It → Hp → Prop} (h : ta σ H fun vs H1 => ∃ (i j c : Int) (n : Nat), vs = [.int i, .int j, .int c] ∧ RgC i j c n ∧ R (Itc i c n) H1) : iRng3 ta σ H R := h
/-- for i in range(n - 1, -1, -1) -/
theorem foRdn {σ : L2.St} {D : Ends} {g : TG} {tb : TS} {n : Nat} (Pv : Nat → L2.St → Hp → Prop) (hn : n ≤ 1000000) (h0 : Pv 0 σ H)
    (hs : ∀ (i : Nat) σ H, i < n → Pv i σ H → g (.int ((n - 1 - i : Nat) : Int)) σ H fun σ2 H2 => tb { D with nx := Pv (i + 1), ct := Pv (i + 1), bk := D.nx } σ2 H2) (hd : ∀ σ H, Pv n σ H → D.nx σ H) :
    ∃ (i j c : Int) (k : Nat), [V.int ((n : Int) - 1), .int (-1), .int (-1)] = [.int i, .int j, .int c] ∧ RgC i j c k ∧ ∃ W : Nat → Nat → L2.St → Hp → Prop, (∃ m, W 0 m σ H) ∧ ∀ i' m σ H, W i' m σ H →
      ((Itc i c k).stop i' H ∧ D.nx σ H) ∨ ((Itc i c k).go i' H ∧ ∃ N : L2.St → Hp → Prop, (∀ σ' H', N σ' H' → ∃ m', m' < m ∧ W (i' + 1) m' σ' H') ∧ ∀ x H', (Itc i c k).yld i' H x H' → g x σ H' fun σ2 H2 => tb { D with nx := N, ct := N, bk := D.nx } σ2 H2) := by
  have r := RgC.neg (i := (n : Int) - 1) (j := -1) (by omega) (by omega) (by omega) (by omega)
  have e : ((n : Int) - 1 - -1).toNat = n := by omega
  rw [e] at r
  refine ⟨_, _, _, n, rfl, r, for_rangeC Pv h0 (fun i σ H hi p => ?_) hd⟩
  have e2 : (n : Int) - 1 + (i : Nat) * (-1) = ((n - 1 - i : Nat) : Int) := by omega
  rw [e2]
  exact hs i σ H hi p
/-- t + ((..),): a view with one more item -/
theorem add_dp {vw p p2 : Addr} {xs : List V} {ds es : List PyData} (hv : Dp K H (.ref vw) (.tuple ds)) (hp : H p = none) (hp2 : upd H p (.tup xs) p2 = none) (hx : ∀ H', DpAll K H' xs es) (hl : ds.length ≤ 1000)
    (q : ∀ p3 H3, Same H H3 → Dp K H3 (.ref p3) (.tuple (ds ++ [.tuple es])) → Q (.ref p3) H3) : rCatA K (.ref vw) (.ref p2) (upd (upd H p (.tup xs)) p2 (.tup [.ref p])) Q := by
  obtain ⟨a, ys, e, h1, h2⟩ := dp_tup hv
  cases e
  have s1 : Same H (upd (upd H p (.tup xs)) p2 (.tup [.ref p])) := fun c o hc => by
    have h3 : upd H p (.tup xs) c = some o := by rw [upd_ne (ne_of_none hc hp)]; exact hc
    rw [upd_ne (ne_of_none h3 hp2)]
    exact h3
  have hpp : upd (upd H p (.tup xs)) p2 (.tup [.ref p]) p = some (.tup xs) := by
    have h3 : upd H p (.tup xs) p = some (.tup xs) := upd_same
    rw [upd_ne (ne_of_none h3 hp2)]
    exact h3
  have hlen := dpAll_len h2
  refine go_catA (same_sqT s1 h1) (.inl (.inl upd_same)) (by simp; omega) (by simp) fun p3 H3 s3 e3 => ?_
  refine q p3 H3 (s1.trans s3) (.tup e3 (dpAll_append (dpAll_same (s1.trans s3) _ _ h2) (.cons (.tup (.inl (.inl (s3 _ _ hpp))) (hx H3)) .nil)))
theorem go_revL {te : TE} {σ : L2.St} (h : te σ H fun x H1 => ∃ a xs, x = .ref a ∧ SqL K H1 a xs ∧ ∀ p, H1 p = none → Q (.ref p) (upd H1 p (.lst xs.reverse))) : tRevL K te σ H Q := h
end
end Gx

set_option Elab.async false
set_option linter.all false
set_option maxRecDepth 100000
set_option maxHeartbeats 4000000
/-! Own lemmas: an error of the program whose maker says super().__init__(text); self.f = a, and whose class stands below a class of the program. -/
namespace ErX
open PySem PySem.W PySem.Calls PyProof.Rows PySem.HandSPX
def eA (an : Str) (p1 p2 : Pos) : Arguments := { posonlyargs := [], args := [{ arg := "self", annotation := none, pos := p1 }, { arg := an, annotation := none, pos := p2 }], vararg := none, kwonlyargs := [], kw_defaults := [], kwarg := none, defaults := [] }
def eB (an fn msg : Str) (j : Nat) (q1 q2 q3 q4 q5 q6 q7 q8 q9 q0 : Pos) : List Stmt :=
  [.Expr (.Call (.Attribute (.Call (.Name "super" q1) [] [] q2) "__init__" q3) [.Constant (.str msg) j q4] [] q5) q6, .Assign [.Attribute (.Name "self" q7) fn q8] (.Name an q9) q0]
def eS (an : Str) : Scope := { kind := .function, names := [(PySem.Str.ofString "self", .local), (an, .local), (PySem.Str.ofString "__class__", .free), (PySem.Str.ofString "super", .globalImplicit)], isGenerator := false, isCoroutine := false, more := [] }
/-- what the names must be -/
structure Nm (an : Str) : Prop where
  n1 : an ≠ "self"
  n2 : an ≠ "__class__"
  n3 : an ≠ "super"
  n4 : (an == ("__debug__" : Str)) = false
  bd : ∀ (qual : Str) (p1 p2 : Pos) (body : List Stmt) (doc pm : Value) (an' : Option Addr) (cda cc x : Addr) (ct v : Value), bindArgs (ksFn "__init__" qual (eA an p1 p2) body (eS an) .none .none doc pm an' (.ref cda) ct cc) ⟨[.ref x, v], []⟩ = (pure [(PySem.Str.ofString "self", Value.ref x), (an, v)] : Sem (List (Str × Value)))
/-- how the call of the maker above is read -/
def Ev (msg : Str) (j : Nat) (q1 q2 q3 q4 q5 : Pos) : Prop := ∃ pl : Sem Bool, ∀ env : Env,
  eval (.Call (.Attribute (.Call (.Name "super" q1) [] [] q2) "__init__" q3) [.Constant (.str msg) j q4] [] q5) env = (do
      let ov ← attributeBase (.Call (.Name "super" q1) [] [] q2) "__init__" env (eval (.Call (.Name "super" q1) [] [] q2) env)
      standAt q3.atName
      let (f, first) ← holding [ov] (getMethod ov "__init__" pl)
      callWith q5 f first (backTo q5 (starEach [.Constant (.str msg) j q4] env)) [])
/-- what the written part says of the class at C, and of its maker, at fI -/
structure ErrT (P : Program) (K : Frag) (mg : Str → Option Value) (C fI : Addr) (an fn : Str) : Prop where
  cls : ∃ nm q N bs bm sn sub ab col dd k0 k1 k2 k3 k5, K.lookup C = some (excClassObj nm q C N bs bm true sn sub ab col dd k0 k1 k2 k3 k5 "ValueError.__new__") ∧ refsVE bm = true
  sa : findIn K (.ref C) "__setattr__" = some (some (.builtin "object.__setattr__"))
  noN : findIn K (.ref C) fn = some none
  iC : findIn K (.ref C) "__init__" = some (some (.ref fI))
  tC : typeIn K (.ref fI) = some (.type "function")
  kC : keepIn K (.ref C) = true
  exC : subIn K (.ref C) (.type "BaseException") = some true
  tyC : typeIn K (.ref C) = some (.type "type")
  opq : nsIn K cStatics "thirdparty.any" = some none
  sup : ks_superIn K C C "__init__" = some (some (.builtin "ValueError.__init__"))
  sVE : subIn K (.ref C) (.type "ValueError") = some true
  mC : mroIn K C (.ref C) = some true
  mgS : mg "super" = none
  top : (P.main.scope.names.lookup ("super" : Str)).isSome = false
  nm : Nm an
  fn : ∃ (oc : Value) (od : Option Addr) (qual : Str) (doc pm : Value) (an' : Option Addr) (cda cc : Addr) (ct : Value) (osl : Array (Option Value)) (p1 p2 : Pos) (msg : Str) (j : Nat) (q1 q2 q3 q4 q5 q6 q7 q8 q9 q0 : Pos)
      (ccl : Value) (cdd : Option Addr) (vs : Array Value) (ccs : Array (Option Value)) (file : Str) (tf : Tok) (cl : Value) (cld : Option Addr) (csl : Array (Option Value)),
    K.lookup fI = some ⟨oc, od, .func (ksFn "__init__" qual (eA an p1 p2) (eB an fn msg j q1 q2 q3 q4 q5 q6 q7 q8 q9 q0) (eS an) .none .none doc pm an' (.ref cda) ct cc), osl⟩ ∧ codeIn K (.ref cda) qual = true ∧
      K.lookup cda = some ⟨ccl, cdd, .fields vs, ccs⟩ ∧ vs[2]? = some (.str file tf) ∧ ((P.main.file : Str) == file) = true ∧ K.lookup cc = some ⟨cl, cld, .cell (some (.ref C)), csl⟩ ∧
      Ev msg j q1 q2 q3 q4 q5
/-- what the maker leaves of a fresh exception at x -/
structure InitEnd (h h' : Heap) (x C dx t1 : Addr) (fn : Str) (v : Value) : Prop where
  keep : ∀ b o, b ≠ x → h.get? b = some o → h'.get? b = some o
  obj : h'.get? x = some { cls := .ref C, dict := some dx, data := .fields #[.ref t1, .none, .none, .none, .bool false, .none] }
  dbig : h.objs.size ≤ dx
  dne : dx ≠ x
  ns : h'.Ns1 dx (fun y => if y = fn then some v else none)
structure Made (h h' : Heap) (e C d : Addr) (fn : Str) (v : Value) : Prop where
  keep : ∀ b o, h.get? b = some o → h'.get? b = some o
  new : h.objs.size ≤ e
  obj : ∃ oe vs, h'.get? e = some oe ∧ oe.cls = .ref C ∧ oe.dict = some d ∧ oe.data = .fields vs ∧ vs[1]? = some .none
  dbig : h.objs.size ≤ d
  dne : d ≠ e
  ns : h'.Ns1 d (fun y => if y = fn then some v else none)
theorem one_size (v : Value) : [v].length ≤ sizeLine := by
  rw [sizeLine_eq]
  exact (by decide : 1 ≤ 16777216)
section
variable {prog : Program} {w : World} {A : Around} {E : Value → Shared → Prop} {h : Heap} {g : Array GenState} {d : Drawn} {t : Nat} {os : OsState}
variable {nm q : Str} {C N : Addr} {bs bm : List Value} {hdct : Bool} {sn : List Str} {sub : List Value} {ab : Bool} {col : Option Bool} {dd : Option Addr} {k0 k1 k2 k3 k5 : Option Value}
theorem call_bv {u e t0 : Addr} {rest : List Value} {Q : Value → Shared → Prop}
    (hC : h.get? C = some (excClassObj nm q C N bs bm hdct sn sub ab col dd k0 k1 k2 k3 k5 "ValueError.__new__")) (he : h.get? e = some (excO C t0)) (hu : h.get? u = some (kxs_mw "ValueError.__init__" e)) (hrest : rest.length ≤ sizeLine)
    (hq : ∀ h' t1, (∀ b o, b ≠ e → h.get? b = some o → h'.get? b = some o) → h'.get? e = some (excO C t1) → Q .none ⟨h', g, d, t, os⟩) :
    wpAny (model prog w) A (call (.ref u) rest) Q E ⟨h, g, d, t, os⟩ := by
  refine wpAny_call (codeAny_of_tree ?_)
  show wpAny _ A.in1 (callAny (.ref u) ⟨rest, []⟩) _ _ _
  simp only [callAny]
  refine wpAny_bind (wpAny_load hu ?_)
  simp only [kxs_mw, show (Value.type "method-wrapper" == Value.type "method" || Value.type "method-wrapper" == Value.type "builtin_function_or_method" || Value.type "method-wrapper" == Value.type "method-wrapper") = true by decide, if_true]
  refine W.KFB.if_so (by decide) ?_
  refine wpAny_bind (PySem.ESX.check_bound F.excBase_ValueError hC he rfl ?_)
  refine wpAny_bind (wpAny_pure (wpAny_pure ?_))
  refine ⟨Code.quiet_builtin _ (by decide +kernel), codeAny_builtin F.excBase_ValueError.initEntry ?_⟩
  rw [Around.under_plainId F.excBase_ValueError.init.plain _]
  wp_walk
  refine hq _ h.objs.size (fun b o hb ho => ?_) ?_
  · rw [Heap.get?_update_other _ _ (Ne.symm hb)]
    exact Heap.get?_push_of_some _ ho
  · rw [Heap.get?_update_self _ (Heap.get?_push_of_some _ he) rfl]
    rfl
end
section
variable {P : Program} {w : World} {A : Around} {R : Result → Shared → Prop} {K : Frag} {mg mb : Str → Option Value} {C fI : Addr} {an fn : Str}
theorem lk_self : (eS an).names.lookup ("self" : Str) = some .local := by simp [eS, List.lookup]
theorem lk_an (n : Nm an) : (eS an).names.lookup an = some .local := by
  have h : (an == (PySem.Str.ofString "self")) = false := by simpa using n.n1
  simp [eS, List.lookup, h]
theorem lk_cls (n : Nm an) : (eS an).names.lookup ("__class__" : Str) = some .free := by
  have h : ((PySem.Str.ofString "__class__") == an) = false := by simpa using n.n2.symm
  have h0 : ((PySem.Str.ofString "__class__") == (PySem.Str.ofString "self")) = false := by decide
  show List.lookup (PySem.Str.ofString "__class__") [(PySem.Str.ofString "self", _), (an, _), (PySem.Str.ofString "__class__", _), (PySem.Str.ofString "super", _)] = _
  simp [List.lookup, h, h0]
theorem lk_sup (n : Nm an) : (eS an).names.lookup ("super" : Str) = some .globalImplicit := by
  have h : ((PySem.Str.ofString "super") == an) = false := by simpa using n.n3.symm
  have h0 : ((PySem.Str.ofString "super") == (PySem.Str.ofString "self")) = false := by decide
  have h1 : ((PySem.Str.ofString "super") == (PySem.Str.ofString "__class__")) = false := by decide
  show List.lookup (PySem.Str.ofString "super") [(PySem.Str.ofString "self", _), (an, _), (PySem.Str.ofString "__class__", _), (PySem.Str.ofString "super", _)] = _
  simp [List.lookup, h, h0, h1]
theorem nocell : ∀ x ∈ (eS an).names, x.2 ≠ NameKind.cell := by
  intro x hx
  simp only [eS, List.mem_cons, List.not_mem_nil, or_false] at hx
  rcases hx with rfl | rfl | rfl | rfl <;> simp
theorem err_init (T : ErrT P K mg C fI an fn) {hp : Heap} {g : Array GenState} {d : Drawn} {t : Nat} {os : OsState} {x t0 : Addr} {v : Value} (X : K.In hp) (hlim : hp.NoLimit) (hG : hp.Ns mainGlobals mg) (hB : hp.Ns builtinsNs mb)
    (hbb : ∀ x : Str, x ≠ "__name__" → mb x = bootBuiltins x) (hx : hp.get? x = some (excO C t0)) (hnx : K.lookup x = none) (hroom : A.depth < recursionLimit)
    (hq : ∀ h' tk dx t1, InitEnd hp h' x C dx t1 fn v → R (.ok (.ret .none)) ⟨h', g, d, tk, os⟩) :
    codeAny (model P w) A (.call (.ref fI) ⟨[.ref x, v], []⟩) R ⟨hp, g, d, t, os⟩ := by
  obtain ⟨oc, od, qual, doc, pm, an', cda, cc, ct, osl, p1, p2, msg, j, q1, q2, q3, q4, q5, q6, q7, q8, q9, q0, ccl, cdd, vs, ccs, file, tf, cl, cld, csl, ho, hcd, hco, hvs, hfile, hcell, pl, hev⟩ := T.fn
  obtain ⟨nm, q, N, bs, bm, sn, sub, ab, col, dd, k0, k1, k2, k3, k5, hC, hbm⟩ := T.cls
  have hcl : clsIn K C = some { name := nm, bases := bs, mro := .ref C :: bm, ns := N, qualname := q, hasDict := true, slotNames := sn, subclasses := sub, abstract := ab, collection := col, hasDel := false } := by unfold clsIn; rw [hC] <;> rfl
  refine ks_codeAny_call_defAt (fd := ksFn "__init__" qual (eA an p1 p2) (eB an fn msg j q1 q2 q3 q4 q5 q6 q7 q8 q9 q0) (eS an) .none .none doc pm an' (.ref cda) ct cc)
    (body := eB an fn msg j q1 q2 q3 q4 q5 q6 q7 q8 q9 q0) (binds := [(PySem.Str.ofString "self", .ref x), (an, v)]) hroom (X _ _ ho) rfl hlim (codeRec_of X hcd) rfl (BindsTo.of_eq (T.nm.bd _ _ _ _ _ _ _ _ _ _ _ _)) nocell ?_ (fun h₁ hns hk₁ => ?_) rfl rfl rfl
  · intro y hy
    simp only [List.mem_cons, List.not_mem_nil, or_false] at hy
    rcases hy with rfl | rfl
    · exact lk_self
    · exact lk_an T.nm
  have X₁ : K.In h₁ := X.keeps hk₁
  have hx₁ := hk₁ _ _ hx
  obtain ⟨oD, hD1, hD2⟩ : ∃ oD, h₁.get? C = some oD ∧ oD.data = .cls { name := nm, bases := bs, mro := .ref C :: bm, ns := N, qualname := q, hasDict := true, slotNames := sn, subclasses := sub, abstract := ab, collection := col, hasDel := false } := ⟨_, X₁ _ _ hC, rfl⟩
  have I₁ : InstAt h₁ x (excO C t0) C none := ⟨hx₁, rfl, rfl, trivial⟩
  have hnS : List.lookup ("self" : Str) [(an, v), (PySem.Str.ofString "self", Value.ref x)] = some (.ref x) := by
    have h : (("self" : Str) == an) = false := by simpa using T.nm.n1.symm
    simp [List.lookup, h]
  have hnA : List.lookup an [(an, v), (PySem.Str.ofString "self", Value.ref x)] = some v := by simp [List.lookup]
  refine ks_wpAt_execs_cons (ks_wpAt_Expr_any (ks_wpAt_MethodCall (pl := pl) ?_ (hev _)))
  refine ks_wpAt_super_base (fd := ksFn "__init__" qual (eA an p1 p2) (eB an fn msg j q1 q2 q3 q4 q5 q6 q7 q8 q9 q0) (eS an) .none .none doc pm an' (.ref cda) ct cc) (lk_sup T.nm) (lk_cls T.nm) rfl rfl (X₁ _ _ ho) rfl rfl rfl (X₁ _ _ hco) rfl hvs hfile T.top ?_
  refine ks_loadName_global rfl (lk_sup T.nm) (loadGlobal_builtin (hG.keeps hk₁) T.mgS (hB.keeps hk₁) ((hbb _ (by decide)).trans (by first | boot_by_name | rfl | kernel_rfl)) ⟨rfl, ?_⟩)
  refine wpAny_loadName_free rfl (lk_cls T.nm) rfl ⟨_, X₁ _ _ hcell, rfl⟩ ?_
  refine wpAny_loadName_local rfl lk_self hns hnS ?_
  refine ks_wpAny_isType_cls hD1 hD2 ⟨rfl, ?_⟩
  refine ks_wpAny_call_super hD1 hD2 hx₁ rfl (fun c e => by cases e) (looks_mroIn X₁ T.mC) (fun h₂ e₂ k₂ => ?_)
  have X₂ : K.In h₂ := X₁.keeps k₂
  have hx₂ := k₂ _ _ hx₁
  have I₂ : InstAt h₂ x (excO C t0) C none := ⟨hx₂, rfl, rfl, trivial⟩
  have hsup := T.sup
  unfold ks_superIn at hsup
  rw [hcl] at hsup
  refine kxs_getMethod kxs_ValueError e₂ (looks_opaque X₂ T.opq) (l₀ := .ref C :: bm) (fun A Q E s k q => wpAny_bind ((looks_clsIn X₂ hcl) A _ E s k (wpAny_pure q))) rfl X₂ hsup (I₂.type.andThen (looks_subIn X₂ T.sVE)) (ks_ne X₂ I₂ hcl) rfl ?_
  have hs1 : ∀ env : Env, starEach [Expr.Constant (Const.str msg) j q4] env = (false, eval (Expr.Constant (Const.str msg) j q4) env) :: starEach [] env := fun _ => rfl
  rw [hs1]
  show wpAny _ _ (callWith q5 (.ref h₂.objs.size) [] ((false, eval (Expr.Constant (Const.str msg) j q4) _) :: backTo q5 (starEach [] _)) []) _ _ _
  have hu₃ : (h₂.push (kxs_mw "ValueError.__init__" x)).get? h₂.objs.size = some (kxs_mw "ValueError.__init__" x) := Heap.get?_push_at rfl rfl
  have k₃ : ∀ b o, h₂.get? b = some o → (h₂.push (kxs_mw "ValueError.__init__" x)).get? b = some o := fun b o e => Heap.get?_push_of_some _ e
  refine kxs_callWith (i := "ValueError.__init__") (x := x) (u := h₂.objs.size) rfl (Calls.evalArgs_plain (Calls.spliced_cons (Calls.Constant_str (Calls.spliced_nil ⟨hu₃, ?_⟩))))
  refine call_bv (X₂.keeps k₃ _ _ hC) (k₃ _ _ hx₂) hu₃ (one_size _) (fun h₄ t1 k₄ hx₄ => ?_)
  have nx : ∀ b o, K.lookup b = some o → b ≠ x := fun b o e z => by rw [z, hnx] at e; cases e
  have X₄ : K.In h₄ := fun b o e => k₄ b o (nx b o e) (k₃ _ _ (X₂ b o e))
  have hn₄ : h₄.Ns hp.objs.size (fun y => List.lookup y [(an, v), (PySem.Str.ofString "self", Value.ref x)]) := by
    have hLx : hp.objs.size ≠ x := Nat.ne_of_gt (Heap.lt_size hx)
    exact hns.at fun o e => k₄ _ o hLx (k₃ _ _ (k₂ _ _ e))
  refine ks_wpAt_execs_cons (wpAt_of_wpAny (plainObj_wpAny_Assign_Attribute ?_))
  refine wpAny_Name (wpAny_loadName_local rfl (lk_an T.nm) hn₄ hnA ?_) T.nm.n4
  refine wpAny_Name (wpAny_loadName_local rfl lk_self hn₄ hnS ?_) (by decide)
  refine set_plain X₄ (ox := excO C t1) (od := none) ⟨hx₄, rfl, rfl, trivial⟩ T.sa ?_
  refine exc_osa X₄ hx₄ hcl (show refsVE (.ref C :: bm) = true from hbm) rfl T.noN (fun h₅ tk₅ dx k₅ dn dne hx₅ hn₅ => ?_)
  show PySem.wpAt _ _ _ (execs [] _) _ _ _
  have kk : ∀ b o, b ≠ x → hp.get? b = some o → h₄.get? b = some o := fun b o hb e => k₄ b o hb (k₃ _ _ (k₂ _ _ (hk₁ _ _ e)))
  have z : hp.objs.size ≤ h₄.objs.size := by
    obtain ⟨oL, es, ep, hL, _⟩ := hn₄
    exact Nat.le_of_lt (Heap.lt_size hL)
  exact wpAt_of_wpAny (wpAny_execs_nil (hq h₅ tk₅ dx t1 ⟨fun b o hb e => k₅ b o hb (kk b o hb e), hx₅, Nat.le_trans z dn, dne, hn₅⟩))
theorem err_made (T : ErrT P K mg C fI an fn) {hp : Heap} {g : Array GenState} {dr : Drawn} {tk : Nat} {os : OsState} {v : Value} (X : K.In hp) (hlim : hp.NoLimit) (hG : hp.Ns mainGlobals mg) (hB : hp.Ns builtinsNs mb)
    (hbb : ∀ x : Str, x ≠ "__name__" → mb x = bootBuiltins x) (hroom : A.depth + 1 < recursionLimit)
    (hq : ∀ h' tk e d, Made hp h' e C d fn v → R (.ok (.ret (.ref e))) ⟨h', g, dr, tk, os⟩) :
    codeAny (model P w) A (.call (.ref C) ⟨[v], []⟩) R ⟨hp, g, dr, tk, os⟩ := by
  obtain ⟨nm, q, N, bs, bm, sn, sub, ab, col, dd, k0, k1, k2, k3, k5, hC, hbm⟩ := T.cls
  have k : ∀ b o, hp.get? b = some o → ((hp.push (kdv_tup [v])).push (excO C hp.objs.size)).get? b = some o := fun b o e => Heap.get?_push_of_some _ (Heap.get?_push_of_some _ e)
  have hget : ((hp.push (kdv_tup [v])).push (excO C hp.objs.size)).get? (hp.objs.size + 1) = some (excO C hp.objs.size) := by heap_get
  have hnx : K.lookup (hp.objs.size + 1) = none := by
    cases e : K.lookup (hp.objs.size + 1) with
    | none => rfl
    | some o =>
      have z : hp.get? (hp.objs.size + 1) = some o := X _ _ e
      exact absurd (Nat.lt_of_succ_lt (Heap.lt_size z)) (Nat.lt_irrefl _)
  refine call_own F.excBase_ValueError (fun X => refsVE_contains X bm hbm) (X _ _ hC) (looks_findIn X T.iC) (fun self => bind_fn X self T.tC) (one_size v) ?_
  refine err_init T (X.keeps k) (hlim.keeps k) (hG.keeps k) (hB.keeps k) hbb hget hnx ?_ fun h' tk' dx t1 ⟨k', hx, dn, dne, hns⟩ => ?_
  · show A.depth + 1 < recursionLimit
    exact hroom
  · have old : ∀ b o, hp.get? b = some o → h'.get? b = some o := fun b o e => k' b o (Nat.ne_of_lt (Nat.lt_succ_of_lt (Heap.lt_size e))) (k b o e)
    have z : hp.objs.size + 1 + 1 ≤ dx := by
      first
        | (simpa only [Heap.size_push] using dn)
        | exact dn
        | (have q := dn; rw [Heap.size_push, Heap.size_push] at q; exact q)
    exact ⟨rfl, hq h' tk' (hp.objs.size + 1) dx ⟨old, Nat.le_succ _, ⟨_, _, hx, rfl, rfl, rfl, rfl⟩, Nat.le_trans (Nat.le_trans (Nat.le_succ _) (Nat.le_succ _)) z, dne, hns⟩⟩
end
end ErX
namespace Gx
open PySem PySem.Spec PyProof.Rows L2
section
variable {X : Cx} {C fI : Addr} {an fn : Str}
theorem relO_err {v : V} {v' : Value} (r : RelV v v') (fn f : Str) : RelO (List.lookup f [(fn, v)]) (if f = fn then some v' else none) := by
  by_cases hw : f = fn
  · subst hw
    rw [if_pos rfl]
    have q : List.lookup f [(f, v)] = some v := by simp [List.lookup]
    rw [q]
    exact r
  · rw [if_neg hw]
    have qw : (f == fn) = false := by simpa using hw
    have q2 : List.lookup f [(fn, v)] = none := by simp [List.lookup, qw]
    rw [q2]
    trivial
/-- C(e) -/
def tMkErr (C : Addr) (fn : Str) (ta : TA) : L2.St → Hp → XK → Prop := fun σ H Q => ta σ H fun vs H1 => ∃ v, vs = [v] ∧ ∀ d, H1 d = none → Q (.ref C) (some d) (upd H1 d (.xd [(fn, v)]))
theorem pmk_err {x : Str} {a : Expr} {ta : TA} {p pos : Pos} {k : Nat} (T : ErX.ErrT X.prog X.K X.mg C fI an fn) (hr : Room k X.A) (hm : X.mg x = some (.ref C)) (ha : PA X [a] ta) (hg : Gl X x := by rfl) (hdb : (x == ("__debug__" : Str)) = false := by decide)
    (he : starEach (a :: []) X.env = (false, eval a X.env) :: starEach [] X.env := by rfl) (hpl : (backTo pos (starEach [] X.env)).any (·.1) = false := by rfl) :
    PMk X (.Call (.Name x p) [a] [] pos) (tMkErr C fn ta) := by
  intro pins s σ H Q I h
  refine wpAny_Call_Name_kw (ld_glob I hg hm ?_ hdb)
  refine PySem.W.callWith_K (h₀ := X.base) I.ok.mod.kin T.kC (thn (ha.run pos pins s σ H _ I h) fun us s1 hh => ?_) he hpl
  obtain ⟨vs, H1, I1, r1, v, ev, q1⟩ := hh
  subst ev
  refine ⟨I1.kIn, ?_⟩
  cases r1 with
  | cons rv rn =>
    rename_i v' us'
    cases rn
    show wpAny _ _ (call (.ref C) [v']) _ _ _
    have hlim := I1.nolimit
    have hG := I1.mod.glob.keeps I1.bk
    obtain ⟨mb, h1, h2⟩ := I1.mod.blt
    have hB := h1.keeps I1.bk
    obtain ⟨hp, g, dr, tk, os⟩ := s1
    refine wpAny_call (ErX.err_made T I1.kIn hlim hG hB h2 (by have := hr.dp; omega) fun h' tk' e d M => ?_)
    show MkP X pins σ Q (.ref e) ⟨h', g, dr, tk', os⟩
    obtain ⟨oe, fv, hoe, hc, hd, hdat, h1⟩ := M.obj
    have hns := M.ns
    obtain ⟨G', g1, g2⟩ := restrict h' fun b => decide (b ≠ e)
    have gk : ∀ b, b ≠ e → G'.get? b = h'.get? b := fun b hb => g1 b (decide_eq_true hb)
    have ge : G'.get? e = none := g2 e (by simp)
    have old : ∀ b o, hp.get? b = some o → G'.get? b = some o := fun b o q => (gk b (Nat.ne_of_lt (Nat.lt_of_lt_of_le (Heap.lt_size q) M.new))).trans (M.keep b o q)
    have ob : ObjOk X.prog X.w (upd H1 d (.xd [(fn, v)])) G' d (.xd [(fn, v)]) :=
      ⟨_, hns.at (fun o q => (gk d M.dne).trans q), fun f => relO_err rv fn f⟩
    have J : Inv X pins σ (upd H1 d (.xd [(fn, v)])) ⟨G', g, dr, tk', os⟩ := I1.laid (t' := tk') old M.dbig ob
    refine ⟨e, oe, fv, ⟨G', g, dr, tk', os⟩, _, .ref C, some d, rfl, J, fun b o q => ?_, ge, hoe, ⟨hc, hd⟩, hdat, h1, ?_, rfl, I1.bare, raises_own T.exC T.tyC, q1 d (I1.hok.fresh M.dbig)⟩
    · by_cases hb : b = e
      · have q' : G'.get? b = some o := q
        rw [hb, ge] at q'; cases q'
      · exact (gk b hb).symm.trans q
    · rw [upd_ne (Ne.symm M.dne)]
      exact I1.hok.fresh M.new
/-- raise C(e) -/
def tRaiseErr (C : Addr) (fn : Str) (W : WX) (ta : TA) : TS := fun _ σ H => tMkErr C fn ta σ H fun cls d H' => W cls d σ H'
theorem ps_raiseErr {x : Str} {a : Expr} {ta : TA} {W : WX} {p pos pos2 : Pos} {k : Nat} (hc : X.calm = true) (T : ErX.ErrT X.prog X.K X.mg C fI an fn) (hr : Room k X.A) (hm : X.mg x = some (.ref C)) (tk : Takes X W) (ha : PA X [a] ta) (hg : Gl X x := by rfl) (hdb : (x == ("__debug__" : Str)) = false := by decide)
    (he : starEach (a :: []) X.env = (false, eval a X.env) :: starEach [] X.env := by rfl) (hpl : (backTo pos (starEach [] X.env)).any (·.1) = false := by rfl) :
    PS X (.Raise (some (.Call (.Name x p) [a] [] pos)) none pos2) (tRaiseErr C fn W ta) := ps_raise hc tk (pmk_err T hr hm ha hg hdb he hpl)
end
/-! calls of defs that may raise: what is raised is wished for at the caller's slots -/
section
variable {X : Cx} {CX : CXT} {k : Nat} {f C : Addr} {fd : FuncData} {ps : List Str} {sp : Sp} {dvs : List V} {ds : List Value} {E : L2.St → XK} {x m : Str} {p pos apos : Pos} {e o : Expr} {es : List Expr} {ta : TE} {t : TA}
def tMethSD (C : Addr) (m : Str) (sp : Sp) (dvs : List V) (E : L2.St → XK) (ta : TE) (t : TA) : TE := fun σ H Q => ta σ H fun x H1 => ∃ a dx fs, x = .ref a ∧ H1 a = some (.ins C dx fs) ∧ fs.lookup m = none ∧
  t σ H1 fun vs H2 => sp (x :: (vs ++ dvs)) H2 Q (E σ)
def tMakeSD (C : Addr) (sp : Sp) (dvs : List V) (E : L2.St → XK) (t : TA) : TE := fun σ H Q => t σ H fun vs H1 => ∀ x dx, H1 x = none → H1 dx = none → dx ≠ x →
  sp (.ref x :: (vs ++ dvs)) (upd (upd H1 dx (.own x)) x (.ins C dx [])) (fun v H2 => v = .non ∧ Q (.ref x) H2) (E σ)
theorem pe_callSD0 (F : FnOk X.prog X.w X.K X.mg X.base CX k f fd ps sp) (hr : Room k X.A) (hg : Gl X x) (hm : X.mg x = some (.ref f)) (hk : PySem.W.keepIn X.K (.ref f) = true) (hb : Binds X.K fd ps ds) (hd : Vals dvs ds) (hx : ∀ σ, PassesAt CX X σ (E σ))
    (hdb : (x == ("__debug__" : Str)) = false := by decide) : PE X (.Call (.Name x p) [] [] pos) (tCallSD sp dvs E tNil) := by
  refine ⟨fun pins s σ H Q I h => ?_⟩
  refine wpAny_Call_Name_kw (ld_glob I hg hm ?_ hdb)
  exact PySem.W.callWith_K0 I.kIn hk (run_fnSD (us := []) F hr hb hd (hx σ) I .nil h)
theorem pe_methSD {pl : Sem Bool} (he : PE X o ta) (c : Cls X.K C) (hm : Meth X.K C m f) (F : FnOk X.prog X.w X.K X.mg X.base CX k f fd ps sp) (hr : Room k X.A) (hb : Binds X.K fd ps ds) (hd : Vals dvs ds) (hx : ∀ σ, PassesAt CX X σ (E σ)) (ha : PA X (e :: es) t)
    (hst : starEach (e :: es) X.env = (false, eval e X.env) :: starEach es X.env := by rfl) (hpl : (backTo pos (starEach es X.env)).any (·.1) = false := by rfl)
    (ht : eval (.Call (.Attribute o m apos) (e :: es) [] pos) X.env = (do
      let ov ← eval o X.env
      standAt apos.atName
      let (f, first) ← holding [ov] (getMethod ov m pl)
      callWith pos f first (backTo pos (starEach (e :: es) X.env)) (backToKw pos (keywordEach [] X.env))) := by rfl) :
    PE X (.Call (.Attribute o m apos) (e :: es) [] pos) (tMethSD C m sp dvs E ta t) := by
  refine ⟨fun pins s σ H Q I h => ?_⟩
  refine PySem.W.methodCall_KW (pl := pl) (thn (he.run pins s σ H _ I h) fun u s1 ⟨x, H1, I1, rx, a, dx, fs, ex, ea, l, q⟩ => ?_) ht
  subst ex
  obtain rfl : u = Value.ref a := rx
  refine getmeth_ok I1 ea c hm l ?_
  refine PySem.W.callWith_K (first := [.ref a]) (h₀ := X.base) I.ok.mod.kin hm.kp (thn (ha.run pos pins s1 σ H1 _ I1 q) fun us s2 ⟨vs, H2, I2, r, q2⟩ => ⟨I2.kIn, ?_⟩) hst hpl
  exact run_fnSD (us := .ref a :: us) (vs := .ref a :: vs) F hr hb hd (hx σ) I2 (.cons rfl r) q2
theorem pe_methSD0 {pl : Sem Bool} (he : PE X o ta) (c : Cls X.K C) (hm : Meth X.K C m f) (F : FnOk X.prog X.w X.K X.mg X.base CX k f fd ps sp) (hr : Room k X.A) (hb : Binds X.K fd ps ds) (hd : Vals dvs ds) (hx : ∀ σ, PassesAt CX X σ (E σ))
    (ht : eval (.Call (.Attribute o m apos) [] [] pos) X.env = (do
      let ov ← eval o X.env
      standAt apos.atName
      let (f, first) ← holding [ov] (getMethod ov m pl)
      callWith pos f first (backTo pos (starEach [] X.env)) (backToKw pos (keywordEach [] X.env))) := by rfl) :
    PE X (.Call (.Attribute o m apos) [] [] pos) (tMethSD C m sp dvs E ta tNil) := by
  refine ⟨fun pins s σ H Q I h => ?_⟩
  refine PySem.W.methodCall_KW (pl := pl) (thn (he.run pins s σ H _ I h) fun u s1 ⟨x, H1, I1, rx, a, dx, fs, ex, ea, l, q⟩ => ?_) ht
  subst ex
  obtain rfl : u = Value.ref a := rx
  refine getmeth_ok I1 ea c hm l ?_
  exact PySem.W.callWith_K0 (first := [.ref a]) I1.kIn hm.kp (run_fnSD (us := [.ref a]) (vs := [.ref a]) F hr hb hd (hx σ) I1 (.cons rfl .nil) q)
theorem run_makeSD {pins : List (Addr × Obj)} {σ : L2.St} {H : Hp} {s : Shared} {Q : VK} {us : List Value} {vs : List V} (M : Mk X.K C f) (F : FnOk X.prog X.w X.K X.mg X.base CX k f fd ps sp) (hr : Room (k + 1) X.A) (hb : Binds X.K fd ps ds) (hd : Vals dvs ds)
    (hx : PassesAt CX X σ (E σ)) (I : L2.Inv X pins σ H s) (r : Vals vs us)
    (h : ∀ x dx, H x = none → H dx = none → dx ≠ x → sp (.ref x :: (vs ++ dvs)) (upd (upd H dx (.own x)) x (.ins C dx [])) (fun v H2 => v = .non ∧ Q (.ref x) H2) (E σ)) :
    wpAny (model X.prog X.w) X.A (call (.ref C) us) (EP X pins σ Q) X.xe s := by
  have hq := h (s.heap.objs.size + 1) s.heap.objs.size (I.hok.fresh (Nat.le_succ _)) (I.hok.fresh (Nat.le_refl _)) (Nat.ne_of_lt (Nat.lt_succ_self _))
  have I2 := Inv.made (C := C) I
  have r2 : Vals (V.ref (s.heap.objs.size + 1) :: (vs ++ dvs)) (Value.ref (s.heap.objs.size + 1) :: (us ++ ds)) := .cons rfl (r.append hd)
  have hl : (Value.ref (s.heap.objs.size + 1) :: us ++ ds).length = ps.length := by
    have e := r2.length
    rw [F.len _ _ _ _ hq] at e
    exact e.symm
  refine wpAny_call (make_map (f := f) I.kIn M.makes M.init (beq_iff_eq.mp M.fn) (codeAny_mono (F.run _ X.stack _ _ ⟨Value.ref (s.heap.objs.size + 1) :: us, []⟩ (Value.ref (s.heap.objs.size + 1) :: (us ++ ds)) _ _ (E σ) (hr.make C us [])
    (I2.env0.make C us []) (hb _ (Value.ref (s.heap.objs.size + 1) :: us) I2.kIn hl) r2 hq) fun r s' hq' => ?_))
  cases r with
  | error e => exact hx pins _ _ e s' I2 hq'
  | ok fl =>
    cases fl with
    | ret u =>
      obtain ⟨v, H', I3, rv, ev, q3⟩ := I2.after hq'
      subst ev
      exact ⟨rv, ⟨V.ref (s.heap.objs.size + 1), H', I3, rfl, q3⟩⟩
    | next => exact False.elim hq'
    | brk => exact False.elim hq'
    | cont => exact False.elim hq'
theorem pe_makeSD (M : Mk X.K C f) (F : FnOk X.prog X.w X.K X.mg X.base CX k f fd ps sp) (hr : Room (k + 1) X.A) (hg : Gl X x) (hm : X.mg x = some (.ref C)) (hb : Binds X.K fd ps ds) (hd : Vals dvs ds) (hx : ∀ σ, PassesAt CX X σ (E σ))
    (ha : PA X (e :: es) t) (hdb : (x == ("__debug__" : Str)) = false := by decide) (he : starEach (e :: es) X.env = (false, eval e X.env) :: starEach es X.env := by rfl) (hpl : (backTo pos (starEach es X.env)).any (·.1) = false := by rfl) :
    PE X (.Call (.Name x p) (e :: es) [] pos) (tMakeSD C sp dvs E t) := by
  refine ⟨fun pins s σ H Q I h => ?_⟩
  refine wpAny_Call_Name_kw (ld_glob I hg hm ?_ hdb)
  refine PySem.W.callWith_K (h₀ := X.base) I.ok.mod.kin M.kp (thn (ha.run pos pins s σ H _ I h) fun us s1 ⟨vs, H1, I1, r, q⟩ => ⟨I1.kIn, ?_⟩) he hpl
  exact run_makeSD M F hr hb hd (hx σ) I1 r q
/-! readings -/
variable {σ : L2.St} {H : Hp} {Q : VK} {D : Ends}
theorem go_callSD (h : t σ H fun vs H1 => sp (vs ++ dvs) H1 Q (E σ)) : tCallSD sp dvs E t σ H Q := h
theorem go_methSD (h : ta σ H fun x H1 => ∃ a dx fs, x = .ref a ∧ H1 a = some (.ins C dx fs) ∧ fs.lookup m = none ∧ t σ H1 fun vs H2 => sp (x :: (vs ++ dvs)) H2 Q (E σ)) : tMethSD C m sp dvs E ta t σ H Q := h
theorem go_makeSD (h : t σ H fun vs H1 => ∀ x dx, H1 x = none → H1 dx = none → dx ≠ x →
  sp (.ref x :: (vs ++ dvs)) (upd (upd H1 dx (.own x)) x (.ins C dx [])) (fun v H2 => v = .non ∧ Q (.ref x) H2) (E σ)) : tMakeSD C sp dvs E t σ H Q := h
theorem go_raise {W : WX} {fn : Str} (h : t σ H fun vs H1 => ∃ v, vs = [v] ∧ ∀ d, H1 d = none → W (.ref C) (some d) σ (upd H1 d (.xd [(fn, v)]))) : tRaiseErr C fn W t D σ H := h
end
/-! a def called within an except suite (it raises nothing itself) -/
structure RoomM (k : Nat) (A : Around) : Prop where
  dp : A.depth + 3 * k + 5 < recursionLimit
  un : A.units + 16 * k + 200 < cLine
theorem RoomM.mono {j k : Nat} {A : Around} (r : RoomM k A) (h : j ≤ k) : RoomM j A := ⟨by have := r.dp; omega, by have := r.un; omega⟩
theorem RoomM.deeper {k : Nat} {A : Around} (r : RoomM (k + 1) A) (env : Env) : RoomM k (A.deeper env) :=
  ⟨by have := r.dp; show A.depth + 1 + 3 * k + 5 < _; omega, by have := r.un; show A.units + 3 + 16 * k + 200 < _; omega⟩
theorem RoomM.depth {k : Nat} {A : Around} (r : RoomM k A) : A.depth < recursionLimit := by have := r.dp; omega
theorem roomM_mark {k : Nat} {A : Around} (r : Room k A) (h : Option Value) : RoomM k (A.mark h) := ⟨r.dp, r.un⟩
structure FnM (P : Program) (w : World) (K : PySem.W.Frag) (mg : Str → Option Value) (base : Heap) (k : Nat) (f : Addr) (fd : FuncData) (ps : List Str) (sp : Sp) : Prop where
  len : ∀ vs H Q E, sp vs H Q E → vs.length = ps.length
  run : ∀ (A : Around) (outer : List Env) (s : Shared) (H : Hp) (args : Args) (us : List Value) (vs : List V) (Q : VK), RoomM k A → Env0 P w K mg base A outer s H → BindsTo s fd args (ps.zip us) → Vals vs us → sp vs H Q E0 →
    codeAny (model P w) A (.call (.ref f) args) (CR CX0 outer P w H s Q E0) s
def cxM (P : Program) (w : World) (K : PySem.W.Frag) (mg : Str → Option Value) (base : Heap) (N : List Str) (qual : Str) (scope : Scope) (f : Addr) (cd : Value) (A : Around) (outer : List Env) (s : Shared) (H : Hp) : Cx :=
  { cxOf CX0 P w K mg base N qual scope f cd A outer s H E0 with calm := false }
theorem inv_startM {P : Program} {w : World} {K : PySem.W.Frag} {mg : Str → Option Value} {base : Heap} {N ps : List Str} {qual : Str} {scope : Scope} {f : Addr} {cd : Value} {A : Around} {outer : List Env} {s s1 : Shared} {H : Hp} {us : List Value} {vs : List V}
    (S : FnScope N ps scope) (e0 : Env0 P w K mg base A outer s H) (hl : vs.length = ps.length) (r : Vals vs us)
    (x : InCallC s s.heap.objs.size (bindL (envOfC qual scope s.heap.objs.size f cd).kindOf (ps.zip us) fun _ => none) (cellsFrom (s.heap.objs.size + 1) scope.names []) (bindC (envOfC qual scope s.heap.objs.size f cd).kindOf (ps.zip us) fun _ => none) s1) :
    L2.Inv (cxM P w K mg base N qual scope f cd A outer s H) [] (L2.start N vs) H s1 := by
  have hpl : ps.length ≤ N.length := by have := congrArg List.length S.pre; rw [List.length_take] at this; omega
  obtain ⟨h1, tk, rfl, hk⟩ := x.done
  have noA : ∀ b : Addr, b ∉ (cxM P w K mg base N qual scope f cd A outer s H).ex := fun b z => absurd (show b ∈ ([] : List Addr) from z) (by simp)
  refine ⟨⟨e0.mod, S.kind, rfl, rfl, Nat.le_refl _, fun y z c h1 h2 => ?_, fun y hy => ?_, fun y c _ h => ?_, (fun z => Bool.noConfusion (show false = true from z)), Around.frames_deeper e0.frames, .inr ⟨rfl, rfl⟩, fun b z => absurd z (noA b), e0.bs, e0.bsz, fun b _ _ => noA b, fun b z => absurd z (noA b), e0.funs, e0.frf⟩,
    rfl, e0.bare, Un.kept hk, ⟨_, x.toInCall.ns, fun i y v h1 h2 h3 => ?_⟩, fun y c h => ⟨_, x.cell y c h⟩, e0.hok.fresh (Nat.le_refl _), fun y c h => ?_, fun p hp => absurd (show p ∈ ([] : List (Addr × Obj)) from hp) (by simp), e0.hok.kept hk, ?_⟩
  · exact name_of_addr x.apart (PySem.mem_of_lookup h1) (PySem.mem_of_lookup h2)
  · have hy : scope.names.lookup y = some .cell ∨ scope.names.lookup y = some .free := hy
    rcases hy with hy | hy
    · exact cell_has hy
    · exact absurd rfl (S.nofree _ (PySem.mem_of_lookup hy))
  · exact Nat.le_of_lt (x.above y c (PySem.mem_of_lookup h))
  · have hi : i < vs.length := by
      unfold L2.start at h2
      by_cases hi : i < vs.length
      · exact hi
      · rw [List.getElem?_append_right (by simpa using hi)] at h2
        rw [List.getElem?_replicate] at h2
        split at h2 <;> cases h2
    have ha : vs[i]? = some v := by
      unfold L2.start at h2
      rw [List.getElem?_append_left (by simpa using hi), List.getElem?_map] at h2
      cases e : vs[i]? with
      | none => rw [e] at h2; cases h2
      | some a => rw [e] at h2; cases h2; rfl
    obtain ⟨u, hu, rv⟩ := r.get ha
    have hp : ps[i]? = some y := by
      rw [← S.pre, List.getElem?_take_of_lt (by omega)]; exact h1
    have ndP : ps.Nodup := by rw [← S.pre]; exact S.nd.sublist (List.take_sublist _ _)
    refine ⟨u, rv, ?_⟩
    rcases S.par y (List.mem_of_getElem? hp) with k | k
    · exact .inl ⟨k, bindL_get ndP hp hu k⟩
    · obtain ⟨c, e⟩ := cell_has (n := s.heap.objs.size + 1) k
      refine .inr ⟨.inl k, c, e, ?_⟩
      have q := x.cell y c e
      rw [bindC_get ndP hp hu (by show scope.names.lookup y ≠ _; rw [k]; decide)] at q
      exact q
  · exact e0.hok.fresh (Nat.le_of_lt (x.above y c (PySem.mem_of_lookup h)))
  · unfold L2.start
    show _ = N.length
    rw [List.length_append, List.length_map, List.length_replicate]
    omega
section
variable {P : Program} {w : World} {K : PySem.W.Frag} {mg : Str → Option Value} {base : Heap}
theorem Fun.okM {x qual : Str} {st : Stmt} {f : Addr} {fd : FuncData} {N ps : List Str} {k : Nat} {sp : Sp} (F : Fun K x qual st f fd) (S : FnScope N ps (defScope st)) (len : ∀ vs H Q E, sp vs H Q E → vs.length = ps.length)
    (hbody : ∀ (cdv : Value) (A : Around) (outer : List Env) (s : Shared) (H : Hp) (vs : List V) (Q : VK), RoomM k (A.deeper (envOfC qual (defScope st) s.heap.objs.size f cdv)) → sp vs H Q E0 →
      ∃ t, PSs (cxM P w K mg base N qual (defScope st) f cdv A outer s H) (defBody st) t ∧ t { nx := fun _ H' => Q .non H', rt := Q } (L2.start N vs) H) : FnM P w K mg base (k + 1) f fd ps sp := by
  obtain ⟨oc, od, kV, doc, pm, an, cdv, ct, osl, rfl, lk, hcd⟩ := F.ex
  refine ⟨len, fun A outer s H args us vs Q hr e0 hb r hsp => ?_⟩
  have hl := len _ _ _ _ hsp
  have KX : K.In s.heap := e0.mod.kin.keeps fun b o e => (e0.bs b o e).1
  have lim : s.heap.NoLimit := e0.mod.nolimit.keeps fun b o e => (e0.bs b o e).1
  have hkind : ∀ y ∈ ps.zip us, (defScope st).names.lookup y.1 = some .local ∨ ((defScope st).names.lookup y.1 = some .cell ∧ ((cellsFrom (s.heap.objs.size + 1) (defScope st).names []).lookup y.1).isSome = true) := fun ⟨n, v⟩ hy => by
    rcases S.par n (List.of_mem_zip hy).1 with q | q
    · exact .inl q
    · exact .inr ⟨q, PySem.W.cellsFrom_some _ _ _ (.inl q)⟩
  refine codeAny_call_function hr.depth (KX _ _ lk) rfl S.co S.gen rfl (PySem.W.codeRec_of KX hcd) (hb _ _ _ _ ?_)
  refine wpAny_newFunctionEnv_cells S.kind hkind fun env he s1 x => ?_
  subst he
  refine ⟨lim.keeps x.toInCall.keep, codeAny_func ?_⟩
  obtain ⟨t, ht, hq⟩ := hbody cdv A outer s H vs Q (hr.deeper _) hsp
  have I : L2.Inv (cxM P w K mg base N qual (defScope st) f cdv A outer s H) [] (L2.start N vs) H s1 := inv_startM S e0 hl r x
  refine wpAny_mono (ht.run [] s1 (L2.start N vs) H _ I hq) (fun fl s' hs => ?_) fun e s' hs => hs
  have fin : ∀ {σ' : L2.St} {H' : Hp} {v : V} {u : Value}, L2.Inv (cxM P w K mg base N qual (defScope st) f cdv A outer s H) [] σ' H' s' → RelV v u → Q v H' → CE outer P w H s Q u s' :=
    fun {σ' H' v u} J rv q => ⟨v, H', J.os, J.bare, J.base, J.hok, rv, q⟩
  cases fl with
  | ret u =>
    obtain ⟨v, σ', H', J, rv, q⟩ := hs
    exact fin J rv q
  | next =>
    obtain ⟨σ', H', J, q⟩ := hs
    exact fin (v := V.non) (u := Value.none) J rfl q
  | brk =>
    obtain ⟨_, _, _, q⟩ := hs
    exact False.elim q
  | cont =>
    obtain ⟨_, _, _, q⟩ := hs
    exact False.elim q
end
section
variable {X : Cx} {k : Nat} {f : Addr} {fd : FuncData} {ps : List Str} {sp : Sp} {x : Str} {q pos : Pos} {e : Expr} {es : List Expr} {t : TA}
theorem pe_callM (F : FnM X.prog X.w X.K X.mg X.base k f fd ps sp) (hr : RoomM k X.A) (hg : Gl X x) (hm : X.mg x = some (.ref f)) (hk : PySem.W.keepIn X.K (.ref f) = true) (hb : Binds X.K fd ps [])
    (ha : PA X (e :: es) t) (hdb : (x == ("__debug__" : Str)) = false := by decide) (he : starEach (e :: es) X.env = (false, eval e X.env) :: starEach es X.env := by rfl) (hpl : (backTo pos (starEach es X.env)).any (·.1) = false := by rfl) :
    PE X (.Call (.Name x q) (e :: es) [] pos) (tCall sp [] E0 t) := by
  refine ⟨fun pins s σ H Q I h => ?_⟩
  refine wpAny_Call_Name_kw (ld_glob I hg hm ?_ hdb)
  refine PySem.W.callWith_K (h₀ := X.base) I.ok.mod.kin hk (thn (ha.run pos pins s σ H _ I h) fun us s1 ⟨vs, H1, I1, r, q⟩ => ⟨I1.kIn, ?_⟩) he hpl
  have q : sp vs H1 Q E0 := by
    have z : sp (vs ++ []) H1 Q E0 := q
    rwa [List.append_nil] at z
  have hl : us.length = ps.length := by rw [← r.length]; exact F.len _ _ _ _ q
  have b := hb s1 us I1.kIn (by rw [List.append_nil]; exact hl)
  rw [List.append_nil] at b
  refine wpAny_call (codeAny_mono (F.run X.A X.stack s1 H1 ⟨us, []⟩ us vs Q hr I1.env0 b r q) fun r s' hq => ?_)
  cases r with
  | error e => exact False.elim hq
  | ok fl =>
    cases fl with
    | ret u => exact I1.after hq
    | next => exact False.elim hq
    | brk => exact False.elim hq
    | cont => exact False.elim hq
end
/-- what is raised is the clause's -/
theorem we_as {K : PySem.W.Frag} {c cls : Value} {i : Nat} {ts : Addr → Value → Option Addr → TS} {Wout : WX} {D : Ends} {σ : L2.St} {H : Hp} {d : Option Addr} (hc : PySem.W.exmOne K cls c = some true)
    (h : ∀ a, H a = none → ts a cls d { nx := fun σ' H' => D.nx (σ'.set i none) H', rt := D.rt, bk := fun σ' H' => D.bk (σ'.set i none) H', ct := fun σ' H' => D.ct (σ'.set i none) H' } (σ.set i (some (.ref a))) H) :
    WE (wAs K c i ts Wout D) σ cls d H := ⟨true, hc, fun _ => h, fun q => Bool.noConfusion q⟩
/-- e.f of a caught error whose dict tells f -/
theorem go_xf {a C : Addr} {cls : Value} {d : Option Addr} {f : Str} {te : TE} {σ : L2.St} {H : Hp} {Q : VK} (h : te σ H fun x H1 => x = .ref a ∧ cls = .ref C ∧ ∃ (dd : Addr) (fs : List (Str × V)) (v : V), d = some dd ∧ H1 dd = some (.xd fs) ∧ fs.lookup f = some v ∧ Q v H1) :
    tXf a cls d C f te σ H Q := h
end Gx
/-! isinstance of the error that a suite holds -/
namespace Gx
open PySem PySem.Spec PyProof.Rows L2
/-- what the class D must say, so that isinstance asks its instances rightly -/
structure ExD (K : PySem.W.Frag) (D : Addr) : Prop where
  cl : (PySem.W.clsIn K D).isSome = true
  hg : PySem.W.findIn K (.ref D) "__getattribute__" = some (some (.builtin "BaseException.__getattribute__"))
  hk : PySem.W.findIn K (.ref D) "__getattr__" = some none
  hs : PySem.W.subIn K (.ref D) (.type "BaseException") = some true
  ha : PySem.W.findIn K (.ref D) "__class__" = some (some (.builtin "object.__class__"))
  hn : PySem.W.specialIn K (.builtin "object.__class__") "__get__" = some (some (.builtin "getset_descriptor.__get__"))
  ht : PySem.W.takesIn K (.builtin "object.__class__") = some true
  hm : PySem.W.mroIn K D (.type "object") = some true
/-- what is asked of: one class, or a written tuple of classes -/
inductive AskX (K : PySem.W.Frag) (D : Addr) (H : Hp) (b : Bool) : V → Prop
  | one {c : V} {cv : Value} : (∀ u, RelV c u → u = cv) → PySem.W.kitOne K (.ref D) cv = some b → AskX K D H b c
  | tup {tp : Addr} {cs : List V} {cvs : List Value} : H tp = some (.tup cs) → (∀ us, Vals cs us → us = cvs) → PySem.W.kitAny K (.ref D) cvs = some b → AskX K D H b (.ref tp)
def rIsX (K : PySem.W.Frag) (cls : Value) (d : Option Addr) (a : Addr) : List V → Hp → VK → Prop := fun xs H Q => ∃ (D dd : Addr) (fs : List (Str × V)) (b : Bool) (c : V),
  xs = [.ref a, c] ∧ cls = .ref D ∧ d = some dd ∧ H dd = some (.xd fs) ∧ ExD K D ∧ AskX K D H b c ∧ Q (.bl b) H
theorem call_isX {X : Cx} {a : Addr} {oe : Obj} {cls : Value} {d : Option Addr} {pn : List (Addr × Obj)} (hz : Zc cls d oe) (hf : ∃ vs, oe.data = .fields vs) : CallR (X.suite a ((a, oe) :: pn)) (.builtin "isinstance") (rIsX X.K cls d a) := by
  intro pins s σ H xs us Q I r h
  obtain ⟨D, dd, fs, b, c, rfl, rfl, rfl, ed, C, ask, q⟩ := h
  cases r with
  | cons rx rr =>
    cases rr with
    | cons rt rr =>
      cases rr
      cases rx
      obtain ⟨hget, _⟩ := I.pin (a, oe) (List.mem_append.mpr (.inl List.mem_cons_self))
      obtain ⟨vs, hv⟩ := hf
      have hx : ObjOk X.prog X.w H s.heap dd (.xd fs) := I.hok dd _ ed
      obtain ⟨mA, hns, _⟩ := hx
      obtain ⟨od, _, _, hod, _⟩ := hns
      have J : PySem.W.InstAt s.heap a oe D (some od) := by
        obtain ⟨oc, odd, oda, osl⟩ := oe
        obtain ⟨h1, h2⟩ := hz
        dsimp only at h1 h2 hv
        subst h1 h2 hv
        exact ⟨hget, rfl, rfl, hod⟩
      have KX := PySem.W.kitx_exc (K := X.K) (C := D) (x := a) (ox := oe) (od := some od) C.cl C.hg C.hk C.hs C.ha C.hn C.ht C.hm
      cases ask with
      | one hcv e =>
        have ec := hcv _ rt
        subst ec
        exact PySem.W.kia_one KX I.kIn J e (fun z => nomatch z) fun tk => ⟨.bl b, H, I.kept (t' := tk) fun _ _ z => z, rfl, q⟩
      | tup ht hcs e =>
        cases rt
        have hx : ObjOk X.prog X.w H s.heap _ (.tup _) := I.hok _ _ ht
        obtain ⟨_, its, hv, hi⟩ := hx
        have ec := hcs _ hv
        subst ec
        obtain ⟨⟨oc', od', oda', osl'⟩, h1, h2, n, h3⟩ := hi
        dsimp only at h2 h3
        subst h2 h3
        exact PySem.W.kia_tup KX I.kIn J h1 e (fun z => nomatch z) fun tk => ⟨.bl b, H, I.kept (t' := tk) fun _ _ z => z, rfl, q⟩
/-- values of written class names -/
inductive ClsVs : List V → List Value → Prop
  | nil : ClsVs [] []
  | ref {a : Addr} {cs : List V} {cvs : List Value} : ClsVs cs cvs → ClsVs (.ref a :: cs) (.ref a :: cvs)
theorem ClsVs.only {cs : List V} {cvs : List Value} (h : ClsVs cs cvs) : ∀ us, Vals cs us → us = cvs := by
  induction h with
  | nil => intro us r; cases r; rfl
  | ref _ ih =>
    intro us r
    cases r with
    | cons rx rr =>
      cases rx
      rw [ih _ rr]
/-- one own class -/
theorem AskX.cls {K : PySem.W.Frag} {D C : Addr} {H : Hp} {b : Bool} (e : PySem.W.kitOne K (.ref D) (.ref C) = some b) : AskX K D H b (.ref C) := .one (cv := .ref C) (fun u r => by cases r; rfl) e
/-- one built-in class -/
theorem AskX.ty {K : PySem.W.Frag} {D : Addr} {T : String} {H : Hp} {b : Bool} (e : PySem.W.kitOne K (.ref D) (.type T) = some b) : AskX K D H b (.ty T) := .one (cv := .type T) (fun u r => by cases r; rfl) e
theorem go_isX {K : PySem.W.Frag} {D dd a : Addr} {fs : List (Str × V)} {b : Bool} {c : V} {H : Hp} {Q : VK} (ed : H dd = some (.xd fs)) (C : ExD K D) (ask : AskX K D H b c) (h : Q (.bl b) H) : rIsX K (.ref D) (some dd) a [.ref a, c] H Q :=
  ⟨D, dd, fs, b, c, rfl, rfl, rfl, ed, C, ask, h⟩
end Gx

set_option Elab.async false
set_option linter.all false
set_option maxRecDepth 100000
set_option maxHeartbeats 4000000
/-! Own lemmas: dicts whose keys are plain data (tuples of tuples of ints and texts): in, store of a new key, look-up. -/
namespace Gx
open PySem PySem.Spec PyProof.Rows L2
mutual
def plainK : PyData → Bool
  | .int _ => true
  | .str _ => true
  | .tuple ds => plainKs ds
  | _ => false
def plainKs : List PyData → Bool
  | [] => true
  | d :: r => plainK d && plainKs r
end
mutual
def keyD : PyData → NestedKey
  | .int i => .num i
  | .str x => .text x
  | .tuple ds => .tup (keyDs ds)
  | _ => .none
def keyDs : List PyData → List NestedKey
  | [] => []
  | d :: r => keyD d :: keyDs r
end
mutual
theorem keyD_inj : ∀ a b : PyData, plainK a = true → plainK b = true → keyD a = keyD b → a = b
  | .int i, .int j, _, _, h => by
    have : i = j := by simpa [keyD] using h
    rw [this]
  | .str i, .str j, _, _, h => by
    have : i = j := by simpa [keyD] using h
    rw [this]
  | .tuple ds, .tuple es, h1, h2, h => by
    rw [keyDs_inj ds es (by simpa [plainK] using h1) (by simpa [plainK] using h2) (by simpa [keyD] using h)]
  | .int _, .str _, _, _, h => by simp [keyD] at h
  | .int _, .tuple _, _, _, h => by simp [keyD] at h
  | .str _, .int _, _, _, h => by simp [keyD] at h
  | .str _, .tuple _, _, _, h => by simp [keyD] at h
  | .tuple _, .int _, _, _, h => by simp [keyD] at h
  | .tuple _, .str _, _, _, h => by simp [keyD] at h
  | .none, _, h, _, _ => by simp [plainK] at h
  | .bool _, _, h, _, _ => by simp [plainK] at h
  | .list _, _, h, _, _ => by simp [plainK] at h
  | .dict _, _, h, _, _ => by simp [plainK] at h
  | _, .none, _, h, _ => by simp [plainK] at h
  | _, .bool _, _, h, _ => by simp [plainK] at h
  | _, .list _, _, h, _ => by simp [plainK] at h
  | _, .dict _, _, h, _ => by simp [plainK] at h
theorem keyDs_inj : ∀ a b : List PyData, plainKs a = true → plainKs b = true → keyDs a = keyDs b → a = b
  | [], [], _, _, _ => rfl
  | [], _ :: _, _, _, h => by simp [keyDs] at h
  | _ :: _, [], _, _, h => by simp [keyDs] at h
  | d :: r, e :: t, h1, h2, h => by
    have k1 : plainK d = true ∧ plainKs r = true := by simpa [plainKs] using h1
    have k2 : plainK e = true ∧ plainKs t = true := by simpa [plainKs] using h2
    have k : keyD d = keyD e ∧ keyDs r = keyDs t := by simpa [keyDs] using h
    rw [keyD_inj d e k1.1 k2.1 k.1, keyDs_inj r t k1.2 k2.2 k.2]
end
section
variable {X : Cx} {pins : List (Addr × Obj)} {σ : L2.St} {H : Hp} {s : Shared}
mutual
theorem dp_key (I : Inv X pins σ H s) : ∀ (d : PyData) (v : V) (u : Value), plainK d = true → Dp X.K H v d → RelV v u → NestedIs s.heap (keyD d) u
  | .int i, _, _, _, h, r => by
    cases h
    obtain ⟨t, rfl⟩ := r
    exact .int i t
  | .str x, _, _, _, h, r => by
    cases h
    obtain ⟨t, rfl⟩ := r
    exact .text x t
  | .tuple ds, _, _, p, h, r => by
    cases h with
    | tup hs ha =>
      cases r
      obtain ⟨its, rv, ⟨o, ho, hc, n, hd⟩, _⟩ := I.tuple hs
      exact .tup ho hc hd (dpAll_key I ds _ _ (by simpa [plainK] using p) ha (by simpa using rv))
  | .none, _, _, p, _, _ => by simp [plainK] at p
  | .bool _, _, _, p, _, _ => by simp [plainK] at p
  | .list _, _, _, p, _, _ => by simp [plainK] at p
  | .dict _, _, _, p, _, _ => by simp [plainK] at p
theorem dpAll_key (I : Inv X pins σ H s) : ∀ (ds : List PyData) (vs : List V) (us : List Value), plainKs ds = true → DpAll X.K H vs ds → Vals vs us → NestedAll s.heap (keyDs ds) us
  | [], _, _, _, h, r => by
    cases h
    cases r
    exact .nil
  | d :: ds, _, _, p, h, r => by
    have p2 : plainK d = true ∧ plainKs ds = true := by simpa [plainKs] using p
    cases h with
    | cons h1 h2 =>
      cases r with
      | cons r1 r2 => exact .cons (dp_key I d _ _ p2.1 h1 r1) (dpAll_key I ds _ _ p2.2 h2 r2)
end
end
/-- a key's data, its address, the value -/
abbrev NRow := PyData × Addr × V
def NRel (p : NRow) (q : NestedKey × Addr × Value) : Prop := keyD p.1 = q.1 ∧ p.2.1 = q.2.1 ∧ RelV p.2.2 q.2.2
/-- the dict's own object at d holds the rows xs -/
def NDo (P : Program) (w : World) (d : Addr) (xs : List NRow) (h : Heap) : Prop :=
  (d == sysModules) = false ∧ ∃ ys : List (NestedKey × Addr × Value), Paired NRel xs ys ∧ ∃ o es ep, h.get? d = some o ∧ o.ExactDict ∧ o.data = .dict es ep ∧ es.toList = ys.map (entryOfKey (nestedKind P w)) ∧ (ys.map (·.1)).Nodup
def ndO (P : Program) (w : World) (d : Addr) (xs : List NRow) : HO := .ext (NDo P w d xs)
theorem ndO_ok {P : Program} {w : World} {H : Hp} {h : Heap} {d : Addr} {xs : List NRow} (k : NDo P w d xs h) : ObjOk P w H h d (ndO P w d xs) := by
  refine ⟨k, ?_, fun h1 h2 k1 st => ?_⟩
  · obtain ⟨_, _, _, o, _, _, e, _⟩ := k
    exact ⟨o, e⟩
  · obtain ⟨nm, ys, r, o, es, ep, e, z⟩ := k1
    exact ⟨nm, ys, r, o, es, ep, st o e, z⟩
/-- the keys' tuples stand -/
def NKeys (K : PySem.W.Frag) (H : Hp) (xs : List NRow) : Prop := ∀ x ∈ xs, plainK x.1 = true ∧ (keyD x.1).depth ≤ 8 ∧ Dp K H (.ref x.2.1) x.1
def nAt (xs : List NRow) (k : NestedKey) : Option V := (xs.find? fun x => decide (keyD x.1 = k)).map (·.2.2)
theorem nrel_find {k : NestedKey} : ∀ {xs : List NRow} {ys : List (NestedKey × Addr × Value)}, Paired NRel xs ys → (nAt xs k = none ↔ atKey ys k = none) ∧ ∀ v, nAt xs k = some v → ∃ p, atKey ys k = some p ∧ RelV v p.2
  | _, _, .nil => ⟨⟨fun _ => rfl, fun _ => rfl⟩, fun _ h => nomatch h⟩
  | x :: xs, y :: ys, .cons r rs => by
    obtain ⟨h1, h2⟩ := nrel_find (k := k) rs
    by_cases e : keyD x.1 = k
    · have e2 : y.1 = k := r.1.symm.trans e
      have a1 : nAt (x :: xs) k = some x.2.2 := by simp [nAt, e]
      have a2 : atKey (y :: ys) k = some y.2 := by simp [atKey, e2]
      rw [a1, a2]
      refine ⟨⟨fun z => absurd z (by simp), fun z => absurd z (by simp)⟩, fun v z => ?_⟩
      cases z
      exact ⟨_, rfl, r.2.2⟩
    · have e2 : ¬ y.1 = k := fun z => e (r.1.trans z)
      have a1 : nAt (x :: xs) k = nAt xs k := by simp [nAt, e]
      have a2 : atKey (y :: ys) k = atKey ys k := by simp [atKey, e2]
      rw [a1, a2]
      exact ⟨h1, h2⟩
section
variable {X : Cx} {pins : List (Addr × Obj)} {σ : L2.St} {H : Hp} {s : Shared} {p : Addr} {xs : List NRow}
theorem Inv.nd1 (I : Inv X pins σ H s) (e : H p = some (ndO X.prog X.w p xs)) (hk : NKeys X.K H xs) : (p == sysModules) = false ∧ ∃ ys, Paired NRel xs ys ∧ s.heap.DictOfH (nestedKind X.prog X.w) p ys := by
  obtain ⟨⟨nm, ys, r, o, es, ep, e1, e2, e3, e4, e5⟩, _, _⟩ := I.hok p _ e
  refine ⟨nm, ys, r, o, es, ep, e1, e2, e3, e4, fun y hy => ?_, e5⟩
  have key : ∀ {xs : List NRow} {ys : List (NestedKey × Addr × Value)}, Paired NRel xs ys → NKeys X.K H xs → ∀ y ∈ ys, (nestedKind X.prog X.w).is s.heap y.1 y.2.1 := fun {xs ys} r => by
    induction r with
    | nil => exact fun _ _ h => nomatch h
    | cons r1 _ ih =>
      intro hk y hy
      rcases List.mem_cons.mp hy with rfl | hy
      · obtain ⟨k1, k2, k3⟩ := hk _ List.mem_cons_self
        rw [← r1.1, ← r1.2.1]
        exact ⟨dp_key I _ _ _ k1 k3 rfl, k2⟩
      · exact ih (fun x hx => hk x (List.mem_cons_of_mem _ hx)) y hy
  exact key r hk y hy
/-- the empty dict -/
theorem Inv.nd0 (I : Inv X pins σ H s) (e : H p = some (.dK [])) : (p == sysModules) = false ∧ s.heap.DictOfH (nestedKind X.prog X.w) p [] := by
  obtain ⟨_, nm, vs, r, o, es, ep, e1, e2, e3, _, e5, _⟩ := I.hok p _ e
  cases r
  have ez : es.toList = [] := by
    cases z : es.toList with
    | nil => rfl
    | cons a b =>
      rw [z] at e5
      cases e5
  exact ⟨nm, o, es, ep, e1, e2, e3, ez, (fun _ h => nomatch h), List.nodup_nil⟩
/-- such a dict, or the empty one that is not told apart yet -/
def NDst (P : Program) (w : World) (H : Hp) (p : Addr) (xs : List NRow) : Prop := H p = some (ndO P w p xs) ∨ (H p = some (.dK []) ∧ xs = [])
theorem Inv.nd (I : Inv X pins σ H s) (e : NDst X.prog X.w H p xs) (hk : NKeys X.K H xs) : (p == sysModules) = false ∧ ∃ ys, Paired NRel xs ys ∧ s.heap.DictOfH (nestedKind X.prog X.w) p ys := by
  rcases e with e | ⟨e, rfl⟩
  · exact Inv.nd1 I e hk
  · obtain ⟨nm, k⟩ := Inv.nd0 I e
    exact ⟨nm, [], .nil, k⟩
/-- key in dict -/
def rInN (P : Program) (w : World) (K : PySem.W.Frag) : R2 := fun x y H Q => ∃ a p d xs, x = .ref a ∧ y = .ref p ∧ NDst P w H p xs ∧ NKeys K H xs ∧ plainK d = true ∧ (keyD d).depth ≤ 8 ∧ Dp K H (.ref a) d ∧ Q (.bl (nAt xs (keyD d)).isSome) H
theorem op_inN (hu : X.A.units + 9 < cLine) : OpR X (compareOp .In) (rInN X.prog X.w X.K) := by
  intro pins s σ H x y v u Q I rx ry h
  obtain ⟨a, p, d, xs, rfl, rfl, e, hk, pd, dd, hd, q⟩ := h
  cases rx
  cases ry
  obtain ⟨nm, ys, r, hm⟩ := Inv.nd I e hk
  obtain ⟨f1, f2⟩ := nrel_find (k := keyD d) r
  have room : (nestedKind X.prog X.w).room X.A.in1 := by
    show X.A.units + 1 + 8 < cLine
    omega
  refine wpAny_in_heap (k := keyD d) room ⟨dp_key I _ _ _ pd hd rfl, dd⟩ nm hm ?_
  have same : (atKey ys (keyD d)).isSome = (nAt xs (keyD d)).isSome := by
    cases z : nAt xs (keyD d) with
    | none =>
      rw [f1.mp z]
      rfl
    | some v =>
      obtain ⟨p2, z2, _⟩ := f2 v z
      rw [z2]
      rfl
  rw [same]
  exact ⟨.bl _, H, I.tok _, rfl, q⟩
/-- d[k] = v, k not there yet -/
def rSetN (P : Program) (w : World) (K : PySem.W.Frag) : V → V → V → Hp → (Hp → Prop) → Prop := fun o i v H Q => ∃ p a d xs, o = .ref p ∧ i = .ref a ∧ NDst P w H p xs ∧ NKeys K H xs ∧ xs.length ≤ 100000 ∧
  plainK d = true ∧ (keyD d).depth ≤ 8 ∧ Dp K H (.ref a) d ∧ nAt xs (keyD d) = none ∧ Q (upd H p (ndO P w p (xs ++ [(d, a, v)])))
theorem set_nd (hu : X.A.units + 9 < cLine) : PSet X (rSetN X.prog X.w X.K) := by
  intro pins s σ H o i v ov iv u Q I ro ri rv h
  obtain ⟨p, a, d, xs, rfl, rfl, e, hk, hl, pd, dd, hd, hn, q⟩ := h
  cases ro
  cases ri
  obtain ⟨nm, ys, r, hm⟩ := Inv.nd I e hk
  have mu : Mut (H p) := by
    rcases e with e | ⟨e, _⟩
    · rw [e]; trivial
    · rw [e]; trivial
  obtain ⟨f1, _⟩ := nrel_find (k := keyD d) r
  have room : (nestedKind X.prog X.w).room X.A.in1 := by
    show X.A.units + 1 + 8 < cLine
    omega
  have hlen : ys.length ≤ sizeLine := by
    rw [← Paired.length r, sizeLine_eq]
    omega
  refine wpAny_setItem_heap (k := keyD d) room ⟨dp_key I _ _ _ pd hd rfl, dd⟩ hm (fun h' hm' sb => ?_) hlen
  rw [storedH_new (f1.mp hn)] at hm'
  obtain ⟨ob, es, ep, e1, e2, e3, e4, e5, e6⟩ := hm'
  refine ⟨_, I.write (x := p) (e := p) mu (.inl rfl) (fun b o ne k => (sb.2 b ne).trans k) ⟨ob, e1⟩ (ndO_ok ⟨nm, _, Paired.snoc r ⟨rfl, rfl, rv⟩, ob, es, ep, e1, e2, e3, e4, e6⟩), q⟩
end
section
variable {P : Program} {w : World} {K : PySem.W.Frag} {H H' : Hp} {Q : VK}
theorem NKeys.imp {xs : List NRow} (h : NKeys K H xs) (k : ∀ (d : PyData) (v : V), plainK d = true → Dp K H v d → Dp K H' v d) : NKeys K H' xs := fun x hx => let ⟨a, b, c⟩ := h x hx; ⟨a, b, k _ _ a c⟩
theorem go_inN {a p : Addr} {d : PyData} {xs : List NRow} (e : NDst P w H p xs) (hk : NKeys K H xs) (pd : plainK d = true) (dd : (keyD d).depth ≤ 8) (hd : Dp K H (.ref a) d) (q : Q (.bl (nAt xs (keyD d)).isSome) H) : rInN P w K (.ref a) (.ref p) H Q :=
  ⟨a, p, d, xs, rfl, rfl, e, hk, pd, dd, hd, q⟩
theorem go_setN {a p : Addr} {d : PyData} {v : V} {xs : List NRow} {R : Hp → Prop} (e : NDst P w H p xs) (hk : NKeys K H xs) (hl : xs.length ≤ 100000) (pd : plainK d = true) (dd : (keyD d).depth ≤ 8) (hd : Dp K H (.ref a) d) (hn : nAt xs (keyD d) = none)
    (q : R (upd H p (ndO P w p (xs ++ [(d, a, v)])))) : rSetN P w K (.ref p) (.ref a) v H R := ⟨p, a, d, xs, rfl, rfl, e, hk, hl, pd, dd, hd, hn, q⟩
end
/-! a walk over the items, the dict locked -/
def Itn (P : Program) (w : World) (d : Addr) (o : Obj) (xs : List NRow) : It where
  go i H := H d = some (.frz o (ndO P w d xs)) ∧ i < xs.length
  yld i H x H' := ∃ T r, xs[i]? = some r ∧ x = .ref T ∧ H T = none ∧ H' = upd H T (.tup [.ref r.2.1, r.2.2])
  stop i H := H d = some (.frz o (ndO P w d xs)) ∧ xs.length ≤ i
theorem nrel_at {P : Program} {w : World} : ∀ {xs : List NRow} {ys : List (NestedKey × Addr × Value)} {i : Nat} {r : NRow}, Paired NRel xs ys → xs[i]? = some r → ∃ y, ys[i]? = some y ∧ NRel r y
  | _, _, _, _, .nil, h => nomatch h
  | _, _, 0, _, .cons r1 _, h => by cases h; exact ⟨_, rfl, r1⟩
  | _, _, i + 1, _, .cons _ rs, h => nrel_at (P := P) (w := w) (i := i) rs (by simpa using h)
section
variable {X : Cx} {pins : List (Addr × Obj)} {σ : L2.St} {H : Hp} {s : Shared} {d : Addr} {o : Obj} {xs : List NRow}
theorem Inv.frzN (I : Inv X pins σ H s) (h : H d = some (.frz o (ndO X.prog X.w d xs))) : (d == sysModules) = false ∧ ∃ (es : Array DictEntry) (ep : Nat), o.data = .dict es ep ∧ es.size = xs.length ∧ s.heap.DictRaw d es ep ∧
    ∀ (i : Nat) r, xs[i]? = some r → ∃ hi : i < es.size, es[i].key = .ref r.2.1 ∧ RelV r.2.2 es[i].val := by
  obtain ⟨hd, ⟨nm, ys, r, o', es, ep, e1, e2, e3, e4, _⟩, _⟩ := I.hok d _ h
  rw [hd] at e1
  cases e1
  have l1 : es.size = ys.length := by
    have := congrArg List.length e4
    rw [Array.length_toList, List.length_map] at this
    exact this
  refine ⟨nm, es, ep, e3, by rw [l1, ← Paired.length r], ⟨o, hd, e2, e3⟩, fun i x hx => ?_⟩
  obtain ⟨y, hy, k1, k2, k3⟩ := nrel_at (P := X.prog) (w := X.w) r hx
  have hi : i < es.size := by
    rw [l1]
    exact (List.getElem?_eq_some_iff.mp hy).1
  have ent : es[i]? = some (entryOfKey (nestedKind X.prog X.w) y) := by
    rw [← Array.getElem?_toList, e4, List.getElem?_map, hy]
    rfl
  have ent2 : es[i] = entryOfKey (nestedKind X.prog X.w) y := by
    rw [Array.getElem?_eq_getElem hi] at ent
    exact Option.some.inj ent
  refine ⟨hi, ?_, ?_⟩
  · rw [ent2, k2]
    rfl
  · rw [ent2]
    exact k3
end
theorem turn_itemsN {P : Program} {w : World} {K : PySem.W.Frag} {d it : Addr} {o : Obj} {xs : List NRow} {es : Array DictEntry} {ep : Nat} {elts : List Expr} {kk : Nat} {tpos : Pos} (hod : o.data = .dict es ep) :
    L2.Turn P w K (.Tuple elts kk tpos) (Itn P w d o xs) [it] it (fun i h => ∃ ok ov, IsItemIter h it d i xs.length ep ok ov) where
  mem := by simp
  obj := fun i h st b hb => by
    obtain rfl : b = it := by simpa using hb
    obtain ⟨ok, ov, e⟩ := st
    exact ⟨_, e, fun v z => nomatch z⟩
  keep := fun i h h' st k => by
    obtain ⟨ok, ov, e⟩ := st
    exact ⟨ok, ov, k it (by simp) _ e⟩
  item := by
    rintro X rfl rfl rfl hc i pins s σ H E I hf ⟨ok, ov, he⟩ ⟨hd, hi⟩
    obtain ⟨_, es', ep', q1, q2, raw, ent⟩ := Inv.frzN I hd
    obtain ⟨rfl, rfl⟩ := dict_ep hod q1
    obtain ⟨r, hr⟩ : ∃ r, xs[i]? = some r := ⟨xs[i], List.getElem?_eq_getElem hi⟩
    obtain ⟨hie, key, val⟩ := ent i r hr
    rw [← q2] at he
    have young : it < s.heap.objs.size := Heap.lt_size he
    refine wpAny_pyNext_items_item_raw he raw hie fun h1 ho hT hz hk => ?_
    refine ⟨_, rfl, ?_⟩
    refine wpAny_letOwnedTupleGo_items (s := { s with heap := h1 }) ho fun h2 he2 sb => ?_
    have T2 : h2.get? s.heap.objs.size = some { cls := .type "tuple", data := .seq #[es'[i].key, es'[i].val] } :=
      (sb.2 _ (Nat.ne_of_gt young)).trans hT
    have made : ObjOk X.prog X.w (upd H s.heap.objs.size (.tup [.ref r.2.1, r.2.2])) h2 s.heap.objs.size (.tup [.ref r.2.1, r.2.2]) :=
      ⟨by show 2 ≤ sizeLine; decide, [es'[i].key, es'[i].val], .cons key (.cons val .nil), ⟨_, T2, rfl, _, rfl⟩⟩
    have J := I.turnedNew (t' := s.toks) (ch := [it]) (fun b ob hb e =>
      (sb.2 b (by simpa using hb)).trans (hk b ob (by simpa using hb) e)) hf (Nat.le_refl _) made
    refine ⟨.ref s.heap.objs.size, _, J, rfl, ⟨_, r, hr, rfl, I.hok.fresh (Nat.le_refl _), rfl⟩, ⟨_, _, by rw [← q2]; exact he2⟩, fun b hb => ?_⟩
    obtain rfl : b = it := by simpa using hb
    rw [upd_ne (Nat.ne_of_lt young)]
    exact (hf b (by simp)).1
  done := by
    rintro X rfl rfl rfl hc i pins s σ H E I hf ⟨ok, ov, he⟩ ⟨hd, hi⟩
    obtain ⟨_, es', ep', q1, q2, raw, _⟩ := Inv.frzN I hd
    obtain ⟨rfl, rfl⟩ := dict_ep hod q1
    obtain ⟨f0, f1, f2, f3, f4, f5⟩ := hf it (by simp)
    rw [← q2] at he
    exact wpAny_pyNext_items_end_raw (I.ok.hd hc) he raw (by omega) fun h1 eb => ⟨rfl, I.turned (t' := s.toks) (fun b ob hb e => eb b ob hb e) f0 f1 f3 f4 f5⟩
  self := fun A i s Q E st h => by
    obtain ⟨_, _, e⟩ := st
    exact PySem.W.kcp_self e h
/-- for .. in d.items(), the dict locked (tLock) -/
def iItemsN (P : Program) (w : World) (td : TE) : TI := fun σ H R => td σ H fun x H1 => ∃ d o xs, x = .ref d ∧ H1 d = some (.frz o (ndO P w d xs)) ∧ R (Itn P w d o xs) H1
theorem pi_itemsN {X : Cx} {e : Expr} {td : TE} {apos cpos tpos : Pos} {elts : List Expr} {kk : Nat} (he : PE X e td) (hbase : attributeBase e "items" X.env (eval e X.env) = eval e X.env := by rfl) (hline : (apos.endLine == cpos.line) = true := by rfl) :
    PI X (.Tuple elts kk tpos) (.Call (.Attribute e "items" apos) [] [] cpos) (iItemsN X.prog X.w td) := by
  constructor
  intro pins s σ H R I h
  refine wpAny_Call_method (T := "dict") (id := "dict.items") hbase rfl hline F.plainAttrs_dict F.slot_dict_items F.type_dict_items (thn (he.run pins s σ H _ I h) fun u s1 h1 => ?_)
  obtain ⟨x, H1, I1, rx, d, o, xs, rfl, hd, q⟩ := h1
  obtain rfl : u = Value.ref d := rx
  obtain ⟨nm, es, ep, hdt, hsz, raw, _⟩ := Inv.frzN I1 hd
  have view : Inv X pins σ H1 { s1 with heap := s1.heap.push { cls := .type "dict_items", data := .fields #[.ref d] } } :=
    I1.kept (t' := s1.toks) fun b ob k => Heap.get?_push_of_some _ k
  have last : wpAny (model X.prog X.w) X.A (pyIter (.ref s1.heap.objs.size)) (PIE X pins σ (.Tuple elts kk tpos) R) X.xe { s1 with heap := s1.heap.push { cls := .type "dict_items", data := .fields #[.ref d] } } := by
    refine wpAny_pyIter_items_raw (d := d) (es := es) (ep := ep) ⟨_, Heap.get?_push_size _ rfl, rfl, rfl⟩ (raw.at fun ob k => Heap.get?_push_of_some _ k) ?_
    refine pi_one (tk := s1.toks) view _ (turn_itemsN hdt) ⟨.none, .none, ?_⟩ q
    rw [← hsz]
    exact Heap.get?_push_size _ rfl
  obtain ⟨ob, k1, k2, k3⟩ := id raw
  refine ⟨⟨ob, k1, k2.1⟩, fun a z => ?_, ?_⟩
  · cases z
    exact ⟨ob, k1, k2.2.1⟩
  show wpAny _ _ (callWith cpos (.builtin "dict.items") [.ref d] [] []) _ X.xe s1
  exact method_meetsIn F.slot_dict_items F.entry_dict_items rfl (PySem.evalArgs_none ⟨rfl, ⟨ob, k1, k2.1⟩, F.args_dict_items_1 _, _, meets_dict_items_raw d nm, ⟨es, ep, raw⟩, last⟩)
/-! d.get(k, x), d[k] -/
def rGetN (P : Program) (w : World) (K : PySem.W.Frag) : V → List V → Hp → VK → Prop := fun x vs H Q => ∃ p a d dv xs, x = .ref p ∧ vs = [.ref a, dv] ∧ NDst P w H p xs ∧ NKeys K H xs ∧ plainK d = true ∧ (keyD d).depth ≤ 8 ∧ Dp K H (.ref a) d ∧ Q ((nAt xs (keyD d)).getD dv) H
section
variable {X : Cx}
theorem mt_getN (hu : X.A.units + 9 < cLine) : MtR X "dict.get" (rGetN X.prog X.w X.K) := by
  intro pins s σ H x vs v us Q I rx rv h
  obtain ⟨p, a, d, dv, xs, rfl, rfl, e, hk, pd, dd, hd, q⟩ := h
  cases rx
  obtain ⟨nm, ys, r, hm⟩ := Inv.nd I e hk
  obtain ⟨f1, f2⟩ := nrel_find (k := keyD d) r
  have room : (nestedKind X.prog X.w).room X.A.in1 := by
    show X.A.units + 1 + 8 < cLine
    omega
  cases rv with
  | cons r1 rv =>
    cases rv with
    | cons r2 rv =>
      cases rv
      cases r1
      refine getOr_keyed (k := keyD d) (kvs := pairsH ys) room ⟨dp_key I _ _ _ pd hd rfl, dd⟩ nm ⟨ys, hm, rfl⟩ ?_
      rw [valueAt_pairsH]
      cases z : nAt xs (keyD d) with
      | none =>
        rw [z] at q
        rw [f1.mp z]
        exact ⟨dv, H, I.tok _, r2, q⟩
      | some y =>
        rw [z] at q
        obtain ⟨p2, z2, r3⟩ := f2 y z
        rw [z2]
        exact ⟨y, H, I.tok _, r3, q⟩
def tIxN (P : Program) (w : World) (K : PySem.W.Frag) (td ty : TE) : TE := fun σ H Q => td σ H fun x H1 => ty σ H1 fun y H2 => ∃ p a d v xs, x = .ref p ∧ y = .ref a ∧ NDst P w H2 p xs ∧ NKeys K H2 xs ∧ plainK d = true ∧ (keyD d).depth ≤ 8 ∧ Dp K H2 (.ref a) d ∧ nAt xs (keyD d) = some v ∧ Q v H2
theorem pe_ixN {o i : Expr} {pos : Pos} {td ty : TE} (hu : X.A.units + 9 < cLine) (ho : PE X o td) (hi : PE X i ty) (hs : NoSl i) : PE X (.Subscript o i pos) (tIxN X.prog X.w X.K td ty) := by
  constructor
  intro pins s σ H Q I h
  refine subD_of PySem.F.slot_dict_getitem.lookup hs (thn (ho.run pins s σ H _ I h) fun u s1 h1 => ?_)
  obtain ⟨x, H1, I1, rx, h1⟩ := h1
  refine thn (hi.run pins s1 σ H1 _ I1 h1) fun iv s2 h2 => ?_
  obtain ⟨y, H2, I2, ry, p, a, d, v, xs, rfl, rfl, e, hk, pd, dd, hd, hv, q⟩ := h2
  cases rx
  cases ry
  obtain ⟨nm, ys, r, hm⟩ := Inv.nd I2 e hk
  obtain ⟨_, f2⟩ := nrel_find (k := keyD d) r
  obtain ⟨p2, z2, r3⟩ := f2 v hv
  have room : (nestedKind X.prog X.w).room X.A.in1 := by
    show X.A.units + 1 + 8 < cLine
    omega
  exact ⟨hm.typeIs, wpAny_getItem_heap (k := keyD d) room ⟨dp_key I2 _ _ _ pd hd rfl, dd⟩ hm z2 ⟨v, H2, I2.tok _, r3, q⟩⟩
end
section
variable {P : Program} {w : World} {K : PySem.W.Frag} {σ : L2.St} {H : Hp} {Q : VK} {td ty : TE}
theorem go_getN {a p : Addr} {d : PyData} {dv : V} {xs : List NRow} (e : NDst P w H p xs) (hk : NKeys K H xs) (pd : plainK d = true) (dd : (keyD d).depth ≤ 8) (hd : Dp K H (.ref a) d) (q : Q ((nAt xs (keyD d)).getD dv) H) : rGetN P w K (.ref p) [.ref a, dv] H Q :=
  ⟨p, a, d, dv, xs, rfl, rfl, e, hk, pd, dd, hd, q⟩
/-- rows behind a store -/
theorem nAt_snoc {xs : List NRow} {d : PyData} {a : Addr} {v : V} {k : NestedKey} : nAt (xs ++ [(d, a, v)]) k = match nAt xs k with | some u => some u | none => if keyD d = k then some v else none := by
  unfold nAt
  rw [List.find?_append]
  cases h : xs.find? fun x => decide (keyD x.1 = k) with
  | some y => rfl
  | none =>
    by_cases e : keyD d = k
    · simp [e]
    · simp [e]
end
/-- for a block's target of a form: the written part told apart -/
theorem pg_tupK {X : Cx} {K : PySem.W.Frag} {es : List Expr} {k : Nat} {t : TGs} {n : Nat} {pos : Pos} (hK : X.K = K) (hc : X.calm = true) (h : PGs X es t) (hn : (assignEach es X.env).length = n := by rfl) (hst : (assignEach es X.env).findIdx? (·.1) = none := by rfl) :
    PG X (.Tuple es k pos) (gTup K n t) := by
  subst hK
  exact pg_tup hc h hn hst
/-- {} as such a dict -/
def tDNewN (P : Program) (w : World) : TE := fun σ H Q => ∀ p, H p = none → Q (.ref p) (upd H p (ndO P w p []))
theorem pe_dnewN {X : Cx} {pos : Pos} : PE X (.Dict [] [] pos) (tDNewN X.prog X.w) := by
  constructor
  intro pins s σ H Q I h
  have run := (pe_dnewK (X := X) (pos := pos)).run pins s σ H (fun x H1 => ∃ p, x = .ref p ∧ H1 = upd H p (.dK []) ∧ Q (.ref p) (upd H p (ndO X.prog X.w p []))) I fun p hp => ⟨p, rfl, rfl, h p hp⟩
  refine thn run fun v s1 h1 => ?_
  obtain ⟨x, H1, I1, rx, p, rfl, rfl, q⟩ := h1
  obtain ⟨nm, o, es, ep, e1, e2, e3, e4, _, e6⟩ := Inv.nd0 (p := p) I1 upd_same
  have J := I1.write (t' := s1.toks) (h' := s1.heap) (x := p) (e := p) (o := ndO X.prog X.w p []) (by rw [upd_same]; trivial) (.inl rfl) (fun b u _ k => k) ⟨o, e1⟩ (ndO_ok ⟨nm, [], .nil, o, es, ep, e1, e2, e3, e4, e6⟩)
  rw [upd_upd] at J
  exact ⟨.ref p, _, J, rx, q⟩
theorem go_dnewN {P : Program} {w : World} {σ : L2.St} {H : Hp} {Q : VK} (h : ∀ p, H p = none → Q (.ref p) (upd H p (ndO P w p []))) : tDNewN P w σ H Q := h
/-- [e for (a, b) in d.items()], behind the reading of d -/
theorem lc_itemsN {P : Program} {w : World} {d : Addr} {o : Obj} {xs : List NRow} {g : TG} {tt : TT} {te : TE} {vs : List Nat} {σ : L2.St} {H1 : Hp} {D : Addr} {Qd : Hp → Prop} (Pv : Nat → Hp → Prop) (h0 : Pv 0 (upd H1 D (.lst [])))
    (hl : ∀ i H, i ≤ xs.length → Pv i H → H d = some (.frz o (ndO P w d xs)))
    (hs : ∀ (i : Nat) r T H, xs[i]? = some r → Pv i H → H T = none → g (.ref T) (wipe σ vs) (upd H T (.tup [.ref r.2.1, r.2.2])) fun σ2 H2 => wipe σ2 vs = wipe σ vs ∧ tt σ2 H2 fun b H3 =>
      if b = true then te σ2 H3 fun y H4 => ∃ acc, H4 D = some (.lst acc) ∧ acc.length < sizeLine ∧ Pv (i + 1) (upd H4 D (.lst (acc ++ [y]))) else Pv (i + 1) H3)
    (hd : ∀ H, Pv xs.length H → Qd H) :
    ∃ W : Nat → Nat → Hp → Prop, (∃ m, W 0 m (upd H1 D (.lst []))) ∧ ∀ i m H, W i m H →
      ((Itn P w d o xs).stop i H ∧ Qd H) ∨ ((Itn P w d o xs).go i H ∧ ∃ Nx : Hp → Prop, (∀ H', Nx H' → ∃ m', m' < m ∧ W (i + 1) m' H') ∧ ∀ x H', (Itn P w d o xs).yld i H x H' → g x (wipe σ vs) H' fun σ2 H2 => wipe σ2 vs = wipe σ vs ∧ tt σ2 H2 fun b H3 =>
        if b = true then te σ2 H3 fun y H4 => ∃ acc, H4 D = some (.lst acc) ∧ acc.length < sizeLine ∧ Nx (upd H4 D (.lst (acc ++ [y]))) else Nx H3) := by
  refine ⟨fun i m H => i ≤ xs.length ∧ m + i = xs.length ∧ Pv i H, ⟨xs.length, Nat.zero_le _, rfl, h0⟩, ?_⟩
  rintro i m H ⟨hi, hm, hp⟩
  rcases Nat.lt_or_ge i xs.length with h | h
  · refine .inr ⟨⟨hl i H hi hp, h⟩, fun H' => Pv (i + 1) H', fun H' hp' => ⟨m - 1, by omega, by omega, by omega, hp'⟩, ?_⟩
    rintro x H' ⟨T, r, hr, rfl, hT, rfl⟩
    exact hs i r T H hr hp hT
  · obtain rfl : i = xs.length := by omega
    exact .inl ⟨⟨hl _ H hi hp, Nat.le_refl _⟩, hd H hp⟩
/-- for (i, x) in enumerate(xs), behind the reading of xs -/
theorem foEn {K : PySem.W.Frag} {σ : L2.St} {H1 : Hp} {g : TG} {D : Ends} {tb : TS} {a : Addr} (xs : List V) (Pv : Nat → L2.St → Hp → Prop) (h0 : Pv 0 σ H1) (hl : ∀ i σ H, i ≤ xs.length → Pv i σ H → SqL K H a xs)
    (hs : ∀ (i : Nat) x T σ H, xs[i]? = some x → Pv i σ H → H T = none → g (.ref T) σ (upd H T (.tup [.int (i : Nat), x])) fun σ2 H2 => tb { D with nx := Pv (i + 1), ct := Pv (i + 1), bk := D.nx } σ2 H2)
    (hd : ∀ σ H, Pv xs.length σ H → D.nx σ H) :
    ∃ W : Nat → Nat → L2.St → Hp → Prop, (∃ m, W 0 m σ H1) ∧ ∀ i m σ H, W i m σ H →
      ((Ite K a).stop i H ∧ D.nx σ H) ∨ ((Ite K a).go i H ∧ ∃ N : L2.St → Hp → Prop, (∀ σ' H', N σ' H' → ∃ m', m' < m ∧ W (i + 1) m' σ' H') ∧ ∀ x H', (Ite K a).yld i H x H' → g x σ H' fun σ2 H2 => tb { D with nx := N, ct := N, bk := D.nx } σ2 H2) := by
  refine ⟨fun i m σ H => i ≤ xs.length ∧ m + i = xs.length ∧ Pv i σ H, ⟨xs.length, Nat.zero_le _, rfl, h0⟩, ?_⟩
  rintro i m σ H ⟨hi, hm, hp⟩
  have here := hl i σ H hi hp
  rcases Nat.lt_or_ge i xs.length with h | h
  · refine .inr ⟨⟨xs, xs[i], here, List.getElem?_eq_getElem h⟩, Pv (i + 1), fun σ' H' hp' => ⟨m - 1, by omega, by omega, by omega, hp'⟩, ?_⟩
    rintro x H' ⟨T, y, rfl, hT, rfl, at_⟩
    exact hs i y T σ H (at_ xs here) hp hT
  · obtain rfl : i = xs.length := by omega
    exact .inl ⟨⟨xs, here, Nat.le_refl _⟩, hd σ H hp⟩
end Gx

set_option Elab.async false
set_option linter.all false
set_option maxRecDepth 100000
set_option maxHeartbeats 4000000
/-! Own lemmas: != of two lists whose items are equal by an own __eq__. -/
namespace Gx
open PySem PySem.Spec PyProof.Rows L2
open AutoSeq1 (wpAny_loadPart')
open PySem.SeqAt MeetsSeq MeetsSeq2 MeetsSeq3 SeqRoads2
section
variable {prog : Program} {w : World} {A : Around} {R : Result → Shared → Prop}
/-- the loop's turns, each pair equal: False at the end -/
theorem nel_turns {l b : Addr} {N : Nat} {I : Nat → Shared → Prop} (hl : GQ.ListI prog w A (fun e s' => R (.error e) s') l b N I) (fin : ∀ s, I N s → R (.ok (.ret (.bool false))) s) :
    ∀ (k i : Nat), k + i = N → ∀ s, I i s → wpAny (model prog w) A.in1 (Builtin.«list.__eq__.loop» ⟨[.ref l, .ref b, rawInt i, rawInt 3], []⟩) (GQ.FinOf prog w A R) (fun e s' => R (.error e) s') s
  | 0, i, hk, s, h => by
    obtain ⟨xs, ys, n, n2, e1, e2, z1, z2, _⟩ := hl _ _ h
    obtain rfl : i = N := by omega
    have hR := fin s h
    obtain ⟨hp, g, d, tk, os⟩ := s
    wp_walk using wpAny_loadPart' e1, wpAny_loadPart' e2
    have o1 : xs[((i : Nat) : Int).toNat]? = none := by simp; omega
    have o2 : ys[((i : Nat) : Int).toNat]? = none := by simp; omega
    rw [o1, o2]
    wp_walk using wpAny_loadPart' e1, wpAny_loadPart' e2
    show R (.ok (.ret (.bool (xs.size != ys.size)))) _
    rw [z1, z2]
    simpa using hR
  | k + 1, i, hk, s, h => by
    obtain ⟨xs, ys, n, n2, e1, e2, z1, z2, turn⟩ := hl _ _ h
    have g1 : i < xs.size := by omega
    have g2 : i < ys.size := by omega
    have go := turn g1 g2
    obtain ⟨hp, g, d, tk, os⟩ := s
    wp_walk using wpAny_loadPart' e1, wpAny_loadPart' e2
    have o1 : xs[((i : Nat) : Int).toNat]? = some xs[i] := by simp [g1]
    have o2 : ys[((i : Nat) : Int).toNat]? = some ys[i] := by simp [g2]
    have cast : ((i : Int) + 1) = ((i + 1 : Nat) : Int) := by omega
    rw [o1, o2]
    refine wpAny_bind (wpAny_mono go (fun r s2 q => ?_) fun _ _ x => x)
    obtain ⟨rfl, q⟩ := q
    have rest := nel_turns hl fin k (i + 1) (by omega) s2 q
    obtain ⟨hp2, g2, d2, tk2, os2⟩ := s2
    wp_walk
    rw [cast]
    refine ⟨plainId_quiet plain_eq_loop _, codeAny_builtin entry_eq_loop ?_⟩
    rw [Around.under_plainId plain_eq_loop _]
    exact rest
theorem nel_all {l b : Addr} {N : Nat} {I : Nat → Shared → Prop} (hl : GQ.ListI prog w A (fun e s' => R (.error e) s') l b N I) (fin : ∀ s, I N s → R (.ok (.ret (.bool false))) s) {s : Shared} (h : I 0 s) :
    wpAny (model prog w) A.in1 (Builtin.«list.__ne__» ⟨[.ref l, .ref b], []⟩) (GQ.FinOf prog w A R) (fun e s' => R (.error e) s') s := by
  obtain ⟨xs, ys, n, n2, e1, e2, z1, z2, _⟩ := hl _ _ h
  have rest := nel_turns (A := A) (R := R) hl fin N 0 rfl s h
  obtain ⟨hp, g, d, tk, os⟩ := s
  have sub := AutoSeq1.sub_list_list
  have hz : ¬ (xs.size != ys.size) = true := by simp [z1, z2]
  wp_walk using wpAny_loadPart' e1, wpAny_loadPart' e2
  refine ⟨plainId_quiet plain_eq_loop _, codeAny_builtin entry_eq_loop ?_⟩
  rw [Around.under_plainId plain_eq_loop _]
  exact rest
end
section
variable {prog : Program} {w : World} {A : Around} {E : Value → Shared → Prop} {s : Shared}
theorem rc_nel {l b : Addr} {N : Nat} {Q : Value → Shared → Prop} (hu : A.units < cLine) (I : Nat → Shared → Prop) (hl : GQ.ListI prog w A E l b N I)
    (fin : ∀ s, I N s → Q (.bool false) s) (h : I 0 s) : wpAny (model prog w) A (richCompare .NotEq (.ref l) (.ref b)) Q E s := by
  obtain ⟨xs, ys, n, n2, e1, e2, _⟩ := hl _ _ h
  refine wpAny_richCompare_same_room (op := .NotEq) ⟨_, e1, rfl⟩ ⟨_, e2, rfl⟩ F.slot_list_ne (GQ.call_here F.slot_list_ne ⟨_, e1, rfl⟩ F.entry_list_ne (F.args_list_ne_2 _ _) ?_) hu
  exact nel_all (R := wants (fun v s' => v ≠ .notImplemented ∧ Q v s') E) hl (fun s' q => ⟨(fun x => nomatch x), fin s' q⟩) h
end
section
variable {X : Cx} {n : Nat} {D : Eqv}
/-- x != y of two lists, item by item equal: False -/
def rNeL (D : Eqv) : R2 := fun x y H Q => DList D x y H ∧ ∀ H', Ext H H' → Q (.bl false) H'
theorem op_neL (hD : Mon D) (h : EqG X n D) (hr : Room (n + 1) X.A) : OpR X (compareOp .NotEq) (rNeL D) := by
  intro pins s σ H x y v u Q I rx ry hq
  obtain ⟨⟨a, b, xs, ys, rfl, rfl, ha, hb, p⟩, q⟩ := hq
  have sb : Sub X (n + 1) X.A := ⟨hr, rfl⟩
  cases rx
  cases ry
  show wpAny (model X.prog X.w) X.A (richCompare .NotEq (.ref a) (.ref b)) (EP X pins σ Q) X.xe s
  refine rc_nel (N := xs.length) sb.room.units0 (fun _ s' => LoopI X pins σ H s') (fun i s' z => ?_) (fun s' z => ?_) ⟨H, I, Ext.rfl'⟩
  · obtain ⟨H1, I1, e1⟩ := id z
    obtain ⟨m1, as, k, r, e⟩ := I1.hok a _ (e1 _ _ ha)
    obtain ⟨m2, bs, k2, r2, e2⟩ := I1.hok b _ (e1 _ _ hb)
    exact ⟨as.toArray, bs.toArray, k, k2, e, e2, by rw [List.size_toArray, ← r.length], by rw [List.size_toArray, ← r2.length, ← p.1], fun h1 h2 => turnG hD h sb p r r2 i h1 h2 s' z⟩
  · obtain ⟨H1, I1, e1⟩ := z
    exact ⟨.bl false, H1, I1, rfl, q H1 e1⟩
/-- all that stands outlasts, but at S -/
def Off (S : Addr → Prop) (H H' : Hp) : Prop := ∀ c o, ¬ S c → H c = some o → H' c = some o
/-- no tuple stands at S -/
def NoT (S : Addr → Prop) (H : Hp) : Prop := ∀ c xs, S c → H c ≠ some (.tup xs) ∧ ∀ o, H c ≠ some (.frz o (.tup xs))
theorem sqT_off {K : PySem.W.Frag} {S : Addr → Prop} {H H' : Hp} {a : Addr} {xs : List V} (o : Off S H H') (n : NoT S H) (h : SqT K H a xs) : SqT K H' a xs := by
  rcases h with (h | ⟨b, h⟩) | h
  · exact .inl (.inl (o _ _ (fun z => (n a xs z).1 h) h))
  · exact .inl (.inr ⟨b, o _ _ (fun z => (n a xs z).2 b h) h⟩)
  · exact .inr h
mutual
theorem dp_off {K : PySem.W.Frag} {S : Addr → Prop} {H H' : Hp} (o : Off S H H') (n : NoT S H) : ∀ (d : PyData) (v : V), plainK d = true → Dp K H v d → Dp K H' v d
  | .none, _, _, h => by cases h; exact .non
  | .bool b, _, _, h => by cases h; exact .bl b
  | .int i, _, _, h => by cases h; exact .int i
  | .str x, _, _, h => by cases h; exact .str x
  | .list ds, _, k, _ => by simp [plainK] at k
  | .dict _, _, k, _ => by simp [plainK] at k
  | .tuple ds, _, k, h => by
    cases h with
    | tup hs ha => exact .tup (sqT_off o n hs) (dpAll_off o n ds _ (by simpa [plainK] using k) ha)
theorem dpAll_off {K : PySem.W.Frag} {S : Addr → Prop} {H H' : Hp} (o : Off S H H') (n : NoT S H) : ∀ (ds : List PyData) (vs : List V), plainKs ds = true → DpAll K H vs ds → DpAll K H' vs ds
  | [], _, _, h => by cases h; exact .nil
  | d :: ds, _, k, h => by
    have k' : plainK d = true ∧ plainKs ds = true := by simpa [plainKs] using k
    cases h with
    | cons h1 h2 => exact .cons (dp_off o n d _ k'.1 h1) (dpAll_off o n ds _ k'.2 h2)
end
theorem But.off {p : Addr} {H H' : Hp} (b : But p H H') : Off (fun c => c = p) H H' := fun c o n e => b c o n e
theorem noT_ins {p : Addr} {H : Hp} {C dx : Addr} {fs : List (Str × V)} (h : H p = some (.ins C dx fs)) : NoT (fun c => c = p) H := fun c xs z => by
  subst z
  rw [h]
  exact ⟨fun e => (by cases e), fun o e => (by cases e)⟩
theorem noT_lst {p : Addr} {H : Hp} {ys : List V} (h : H p = some (.lst ys)) : NoT (fun c => c = p) H := fun c xs z => by
  subst z
  rw [h]
  exact ⟨fun e => (by cases e), fun o e => (by cases e)⟩
theorem Off.trans {S : Addr → Prop} {H H1 H2 : Hp} (a : Off S H H1) (b : Off S H1 H2) : Off S H H2 := fun c o n e => b c o n (a c o n e)
theorem Off.same {S : Addr → Prop} {H H1 H2 : Hp} (a : Off S H H1) (b : Same H1 H2) : Off S H H2 := fun c o n e => b c o (a c o n e)
theorem Off.put {S : Addr → Prop} {H H1 : Hp} {p : Addr} {o : HO} (a : Off S H H1) (h : S p) : Off S H (upd H1 p o) := fun c u n e => by
  have ne : c ≠ p := fun z => n (by rw [z]; exact h)
  rw [upd_ne ne]
  exact a c u n e
theorem nAt_any {xs : List NRow} {k : NestedKey} : (nAt xs k).isSome = xs.any fun x => decide (keyD x.1 = k) := by
  unfold nAt
  rw [Option.isSome_map]
  induction xs with
  | nil => rfl
  | cons x t ih =>
    rw [List.find?_cons, List.any_cons]
    by_cases e : keyD x.1 = k
    · simp [e]
    · simp [e, ih]
/-- d.name(..) of a dict by nested keys -/
def tBMN (P : Program) (w : World) (r : V → List V → Hp → VK → Prop) (to : TE) (t : TA) : TE := fun σ H Q => to σ H fun x H1 => (∃ p xs, x = .ref p ∧ NDst P w H1 p xs) ∧ t σ H1 fun xs H2 => r x xs H2 Q
theorem nd_is {X : Cx} {pins : List (Addr × Obj)} {σ : L2.St} {H : Hp} {s : Shared} {p : Addr} {xs : List NRow} (I : Inv X pins σ H s) (e : NDst X.prog X.w H p xs) : s.TypeIs (.ref p) "dict" ∧ ∀ a, Value.ref p = .ref a → ∃ ob, s.heap.get? a = some ob ∧ ob.dict = none := by
  have z : ∃ o, s.heap.get? p = some o ∧ o.ExactDict := by
    rcases e with e | ⟨e, _⟩
    · obtain ⟨_, _, _, o, _, _, e1, e2, _⟩ := (I.hok p _ e).1
      exact ⟨o, e1, e2⟩
    · obtain ⟨_, o, _, _, e1, e2, _⟩ := Inv.nd0 I e
      exact ⟨o, e1, e2⟩
  obtain ⟨o, e1, e2⟩ := z
  refine ⟨⟨o, e1, e2.1⟩, fun a h => ?_⟩
  cases h
  exact ⟨o, e1, e2.2.1⟩
theorem pe_bmN {X : Cx} {o e : Expr} {es : List Expr} {to : TE} {t : TA} {name : Str} {ap cp : Pos} {id : String} {r : V → List V → Hp → VK → Prop} (pa : PlainAttrs "dict") (slot : Slot "dict" name id) (hty : typeOf (.builtin id) = pure (.type "method_descriptor")) (hm : MtR X id r) (ho : PE X o to) (ha : PA X (e :: es) t)
    (hbase : attributeBase o name X.env (eval o X.env) = eval o X.env := by rfl)
    (hfew : ((backTo cp (starEach (e :: es) X.env)).all (fun x => !x.1) && (backToKw cp (keywordEach [] X.env)).all (fun x => x.1.isSome) && decide ((e :: es).length + ([] : List Keyword).length + (if ([] : List Keyword).isEmpty then 0 else 1) < 30)) = true := by rfl)
    (hline : (ap.endLine == cp.line) = true := by rfl) (hst : starEach (e :: es) X.env = (false, eval e X.env) :: starEach es X.env := by rfl) (hp : (backTo cp (starEach es X.env)).any (·.1) = false := by rfl) :
    PE X (.Call (.Attribute o name ap) (e :: es) [] cp) (tBMN X.prog X.w r to t) := by
  constructor
  intro pins s σ H Q I h
  refine wpAny_Call_method_late hbase hfew hline rfl (thn (ho.run pins s σ H _ I h) fun v s1 z => ?_)
  obtain ⟨x, H1, I1, r1, ⟨p, xs, rfl, nd⟩, q1⟩ := z
  have run := ha.run cp pins s1 σ H1 _ I1 q1
  cases r1
  obtain ⟨h1, h2⟩ := nd_is I1 nd
  refine ⟨"dict", id, pa, slot, hty, h1, h2, ?_⟩
  rw [hst] at run ⊢
  have no : (false || (backTo cp (starEach es X.env)).any (·.1)) = false := by rw [hp] <;> rfl
  refine Calls.callWith_builtin no (Calls.evalArgs_plain ?_)
  exact thn run fun us s2 ⟨vs, H2, I2, r2, q2⟩ =>
     hm pins s2 σ H2 (.ref p) vs _ us Q I2 rfl r2 q2
/-- within a block: the written part told apart -/
theorem pi_listK {X : Cx} {K : PySem.W.Frag} {tg l : Expr} {tl : TE} (hK : X.K = K) (hl : PE X l tl) : PI X tg l (iList K tl) := by
  subst hK
  exact pi_list hl
/-- [e for x in range(n)] that makes objects, behind the reading of n -/
theorem lcRh {σ : L2.St} {H1 : Hp} {te : TE} {vs : List Nat} {j : Nat} {R : Addr → Hp → Prop} {n : Int} {P : Hp → Nat → V → Prop} (hP : Stays P) (hz : n ≤ 100000) (hn : -(2 ^ 62) ≤ n) (hw : ∀ x, wipe ((wipe σ vs).set j x) vs = wipe σ vs)
    (he : ∀ (i : Nat) H', i < n.toNat → Same H1 H' → ∀ R : VK, (∀ y H'', Same H' H'' → P H'' i y → R y H'') → te ((wipe σ vs).set j (some (.int i))) H' R)
    (q : ∀ D (ys : List V) H2, H1 D = none → Same H1 H2 → H2 D = some (.lst ys) → ys.length = n.toNat → (∀ k y, ys[k]? = some y → P H2 k y) → R D H2) :
    ∃ k : Int, [V.int n] = [.int k] ∧ -(2 ^ 62) ≤ k ∧ k < 2 ^ 62 ∧ ∀ D, H1 D = none → ∃ W : Nat → Nat → Hp → Prop, (∃ m, W 0 m (upd H1 D (.lst []))) ∧ ∀ i m H, W i m H →
      ((Itr 0 k.toNat).stop i H ∧ R D H) ∨ ((Itr 0 k.toNat).go i H ∧ ∃ Nx : Hp → Prop, (∀ H', Nx H' → ∃ m', m' < m ∧ W (i + 1) m' H') ∧ ∀ x H', (Itr 0 k.toNat).yld i H x H' → gName j x (wipe σ vs) H' fun σ2 H2 => wipe σ2 vs = wipe σ vs ∧ tYes σ2 H2 fun b H3 =>
        if b = true then te σ2 H3 fun y H4 => ∃ acc, H4 D = some (.lst acc) ∧ acc.length < sizeLine ∧ Nx (upd H4 D (.lst (acc ++ [y]))) else Nx H3) := by
  refine ⟨n, rfl, hn, by omega, fun D hD => ?_⟩
  refine lc_range (lo := 0) (n := n.toNat) (fun i H' => Same H1 H' ∧ ∃ ys : List V, H' D = some (.lst ys) ∧ ys.length = i ∧ ∀ k y, ys[k]? = some y → P H' k y) ⟨same_new hD, [], upd_same, rfl, fun k y h => by simp at h⟩ (fun i H hi p => ?_) fun H p => ?_
  · obtain ⟨s, ys, e, hl, hp⟩ := p
    refine ⟨hw _, go_yes (iteT ?_)⟩
    rw [Int.zero_add]
    refine he i H hi s _ fun y H4 s4 hy => ?_
    have e4 := s4 _ _ e
    refine ⟨ys, e4, szlt (by omega), same_mut (s.trans s4) hD, ys ++ [y], upd_same, by simp [hl], fun k z hz => ?_⟩
    refine hP.lst _ _ ys _ _ _ e4 ?_
    rcases Nat.lt_or_ge k ys.length with h | h
    · rw [List.getElem?_append_left h] at hz
      exact hP.same _ _ _ _ s4 (hp k z hz)
    · have hk := (List.getElem?_eq_some_iff.mp hz).1
      rw [List.length_append, List.length_singleton] at hk
      obtain rfl : k = ys.length := by omega
      rw [List.getElem?_append_right (Nat.le_refl _), Nat.sub_self] at hz
      cases hz
      rw [hl]
      exact hy
  · obtain ⟨s, ys, e, hl, hp⟩ := p
    exact q D ys H hD s e hl hp
theorem go_iTp {K : PySem.W.Frag} {σ : L2.St} {H : Hp} {tl : TE} {R : It → Hp → Prop} (h : tl σ H fun x H1 => ∃ a, x = .ref a ∧ (∃ xs, SqT K H1 a xs) ∧ R (Itt K a) H1) : iTup K tl σ H R := h
/-- for x in a tuple, behind the tuple's reading -/
theorem foTp {K : PySem.W.Frag} {σ : L2.St} {H1 : Hp} {D : Ends} {g : TG} {tb : TS} {a : Addr} (xs : List V) (Pv : Nat → L2.St → Hp → Prop) (h0 : Pv 0 σ H1) (hl : ∀ i σ H, i ≤ xs.length → Pv i σ H → SqT K H a xs)
    (hs : ∀ i x σ H, xs[i]? = some x → Pv i σ H → g x σ H fun σ2 H2 => tb { D with nx := Pv (i + 1), ct := Pv (i + 1), bk := D.nx } σ2 H2) (hd : ∀ σ H, Pv xs.length σ H → D.nx σ H) :
    ∃ b, V.ref a = .ref b ∧ (∃ xs, SqT K H1 b xs) ∧ ∃ W : Nat → Nat → L2.St → Hp → Prop, (∃ m, W 0 m σ H1) ∧ ∀ i m σ H, W i m σ H →
      ((Itt K b).stop i H ∧ D.nx σ H) ∨ ((Itt K b).go i H ∧ ∃ N : L2.St → Hp → Prop, (∀ σ' H', N σ' H' → ∃ m', m' < m ∧ W (i + 1) m' σ' H') ∧ ∀ x H', (Itt K b).yld i H x H' → g x σ H' fun σ2 H2 => tb { D with nx := N, ct := N, bk := D.nx } σ2 H2) :=
  ⟨a, rfl, ⟨xs, hl 0 σ H1 (Nat.zero_le _) h0⟩, for_tup Pv h0 hl hs hd⟩
/-- the turns of a comprehension's walk over a list, whatever its body -/
theorem walkL {K : PySem.W.Frag} {a : Addr} {xs : List V} {Q : Hp → Prop} {Bd : V → Hp → (Hp → Prop) → Prop} {H0 : Hp} (Pv : Nat → Hp → Prop) (h0 : Pv 0 H0) (hl : ∀ i H, i ≤ xs.length → Pv i H → SqL K H a xs)
    (hs : ∀ (i : Nat) x H, xs[i]? = some x → Pv i H → Bd x H (Pv (i + 1))) (hd : ∀ H, Pv xs.length H → Q H) :
    ∃ W : Nat → Nat → Hp → Prop, (∃ m, W 0 m H0) ∧ ∀ i m H, W i m H → ((Itl K a).stop i H ∧ Q H) ∨ ((Itl K a).go i H ∧ ∃ N : Hp → Prop, (∀ H', N H' → ∃ m', m' < m ∧ W (i + 1) m' H') ∧ ∀ x H', (Itl K a).yld i H x H' → Bd x H' N) := by
  refine ⟨fun i m H => m + i = xs.length ∧ Pv i H, ⟨xs.length, rfl, h0⟩, ?_⟩
  rintro i m H ⟨hm, p⟩
  have here := hl i H (by omega) p
  by_cases lt : i < xs.length
  · refine .inr ⟨⟨xs, xs[i], here, by simp [lt]⟩, Pv (i + 1), fun H' p' => ⟨m - 1, by omega, by omega, p'⟩, fun x H' y => ?_⟩
    obtain ⟨e, y⟩ := y
    subst e
    exact hs i x _ (y xs here) p
  · obtain rfl : i = xs.length := by omega
    exact .inl ⟨⟨xs, here, Nat.le_refl _⟩, hd H p⟩
/-- the same over range(n) -/
theorem walkR {n : Nat} {Q : Hp → Prop} {Bd : V → Hp → (Hp → Prop) → Prop} {H0 : Hp} (Pv : Nat → Hp → Prop) (h0 : Pv 0 H0)
    (hs : ∀ (i : Nat) H, i < n → Pv i H → Bd (.int (i : Nat)) H (Pv (i + 1))) (hd : ∀ H, Pv n H → Q H) :
    ∃ W : Nat → Nat → Hp → Prop, (∃ m, W 0 m H0) ∧ ∀ i m H, W i m H → ((Itr 0 n).stop i H ∧ Q H) ∨ ((Itr 0 n).go i H ∧ ∃ N : Hp → Prop, (∀ H', N H' → ∃ m', m' < m ∧ W (i + 1) m' H') ∧ ∀ x H', (Itr 0 n).yld i H x H' → Bd x H' N) := by
  refine ⟨fun i m H => m + i = n ∧ Pv i H, ⟨n, rfl, h0⟩, ?_⟩
  rintro i m H ⟨hm, p⟩
  by_cases lt : i < n
  · refine .inr ⟨lt, Pv (i + 1), fun H' p' => ⟨m - 1, by omega, by omega, p'⟩, fun x H' y => ?_⟩
    obtain ⟨e1, e2⟩ := y
    subst e1
    subst e2
    rw [Int.zero_add]
    exact hs i _ lt p
  · obtain rfl : i = n := by omega
    exact .inl ⟨Nat.le_refl _, hd H p⟩
/-- key not in dict -/
def rNotInN (P : Program) (w : World) (K : PySem.W.Frag) : R2 := fun x y H Q => ∃ a p d xs, x = .ref a ∧ y = .ref p ∧ NDst P w H p xs ∧ NKeys K H xs ∧ plainK d = true ∧ (keyD d).depth ≤ 8 ∧ Dp K H (.ref a) d ∧ Q (.bl (!(nAt xs (keyD d)).isSome)) H
theorem op_notInN {X : Cx} (hu : X.A.units + 9 < cLine) : OpR X (compareOp .NotIn) (rNotInN X.prog X.w X.K) := by
  intro pins s σ H x y v u Q I rx ry h
  obtain ⟨a, p, d, xs, rfl, rfl, e, hk, pd, dd, hd, q⟩ := h
  cases rx
  cases ry
  obtain ⟨nm, ys, r, hm⟩ := Inv.nd I e hk
  obtain ⟨f1, f2⟩ := nrel_find (k := keyD d) r
  have room : (nestedKind X.prog X.w).room X.A.in1 := by
    show X.A.units + 1 + 8 < cLine
    omega
  refine wpAny_notIn_heap (k := keyD d) room ⟨dp_key I _ _ _ pd hd rfl, dd⟩ nm hm ?_
  have same : (atKey ys (keyD d)).isSome = (nAt xs (keyD d)).isSome := by
    cases z : nAt xs (keyD d) with
    | none =>
      rw [f1.mp z]
      rfl
    | some v =>
      obtain ⟨p2, z2, _⟩ := f2 v z
      rw [z2]
      rfl
  rw [same]
  exact ⟨.bl _, H, I.tok _, rfl, q⟩
mutual
theorem eqv_plain : ∀ a b : PyData, plainK a = true → plainK b = true → PyData.eqv a b = true → a = b
  | .int i, .int j, _, _, h => by
    have : i = j := by simpa [PyData.eqv] using h
    rw [this]
  | .str i, .str j, _, _, h => by
    have : i = j := by simpa [PyData.eqv] using h
    rw [this]
  | .tuple ds, .tuple es, h1, h2, h => by
    rw [eqvs_plain ds es (by simpa [plainK] using h1) (by simpa [plainK] using h2) (by simpa [PyData.eqv] using h)]
  | .int _, .str _, _, _, h => by simp [PyData.eqv] at h
  | .int _, .tuple _, _, _, h => by simp [PyData.eqv] at h
  | .str _, .int _, _, _, h => by simp [PyData.eqv] at h
  | .str _, .tuple _, _, _, h => by simp [PyData.eqv] at h
  | .tuple _, .int _, _, _, h => by simp [PyData.eqv] at h
  | .tuple _, .str _, _, _, h => by simp [PyData.eqv] at h
  | .none, _, h, _, _ => by simp [plainK] at h
  | .bool _, _, h, _, _ => by simp [plainK] at h
  | .list _, _, h, _, _ => by simp [plainK] at h
  | .dict _, _, h, _, _ => by simp [plainK] at h
  | _, .none, _, h, _ => by simp [plainK] at h
  | _, .bool _, _, h, _ => by simp [plainK] at h
  | _, .list _, _, h, _ => by simp [plainK] at h
  | _, .dict _, _, h, _ => by simp [plainK] at h
theorem eqvs_plain : ∀ a b : List PyData, plainKs a = true → plainKs b = true → PyData.eqvAll a b = true → a = b
  | [], [], _, _, _ => rfl
  | [], _ :: _, _, _, h => by simp [PyData.eqvAll] at h
  | _ :: _, [], _, _, h => by simp [PyData.eqvAll] at h
  | a :: as, b :: bs, h1, h2, h => by
    have h1' : plainK a = true ∧ plainKs as = true := by simpa [plainKs] using h1
    have h2' : plainK b = true ∧ plainKs bs = true := by simpa [plainKs] using h2
    have h' : PyData.eqv a b = true ∧ PyData.eqvAll as bs = true := by simpa [PyData.eqvAll] using h
    rw [eqv_plain a b h1'.1 h2'.1 h'.1, eqvs_plain as bs h1'.2 h2'.2 h'.2]
end
theorem cut_ints {ds : List Int} {a n : Nat} : ∃ ws : List Int, cutV (ds.map V.int) (some (a : Int)) (some ((a + n : Nat) : Int)) = ws.map V.int ∧ ws.length ≤ n ∧ (∀ w ∈ ws, w ∈ ds) ∧ (a + n ≤ ds.length → ws.length = n) := by
  unfold cutV
  rw [HT.sIx_nat, HT.sIx_nat]
  refine ⟨(ds.drop (min a (ds.map V.int).length)).take (min (a + n) (ds.map V.int).length - min a (ds.map V.int).length), by rw [List.map_take, List.map_drop], ?_, fun w h => List.mem_of_mem_drop (List.mem_of_mem_take h), fun h => ?_⟩
  · rw [List.length_take]
    omega
  · rw [List.length_take, List.length_drop, List.length_map]
    omega
theorem cut_tl {ws : List Int} : cutV (ws.map V.int) (some 1) none = (ws.drop 1).map V.int := by
  unfold cutV
  have h1 : HT.sIx (ws.map V.int).length 0 (some 1) = min 1 (ws.map V.int).length := HT.sIx_nat _ _ 1
  rw [h1]
  cases ws with
  | nil => rfl
  | cons w r =>
    have h2 : min 1 (List.map V.int (w :: r)).length = 1 := by simp
    rw [h2]
    show List.take ((List.map V.int (w :: r)).length - 1) (r.map V.int) = _
    rw [List.take_of_length_le (by simp)]
    rfl
theorem ite_nI {a : Int} {A B : Prop} (k : B) : if (!decide (a = a)) = true then A else B := by rw [decide_eq_true rfl]; exact k
theorem room65 {k : Nat} {A : Around} (r : Room k A) : A.units + 65 < cLine := by
  have := r.un
  omega
end
end Gx

set_option Elab.async false
set_option linter.all false
set_option maxRecDepth 100000
set_option maxHeartbeats 4000000
/-! Own lemmas: zip of a list and a tuple. An iterator of a builtin sequence is told by what it promises (Fed). -/
namespace Gx
open PySem PySem.Spec PyProof.Rows L2
section
variable {prog : Program} {w : World}
/-- what the iterator at `it` over the items xs (kept at l) promises in the state st h k: it stands at its k-th item -/
structure Fed (prog : Program) (w : World) (it l : Addr) (xs : Array Value) (st : Heap → Nat → Prop) : Prop where
  keep : ∀ {h g : Heap} {k : Nat}, (∀ c, c = it ∨ c = l → ∀ o, h.get? c = some o → g.get? c = some o) → st h k → st g k
  next : ∀ {A : Around} {E : Value → Shared → Prop} {s : Shared} {k : Nat} {x : Value} {Q : Value → Shared → Prop}, st s.heap k → xs[k]? = some x →
    (∀ g, st g (k + 1) → Heap.SameBut it s.heap g → Q x { s with heap := g }) → wpAny (model prog w) A (Builtin.SmallTypes.nextOf (.ref it)) Q E s
  fin : ∀ {A : Around} {E : Value → Shared → Prop} {s : Shared} {k : Nat} {Q : Value → Shared → Prop}, A.handled = none → st s.heap k → xs[k]? = none →
    (∀ g e, Heap.ExtBut it s.heap g → (∃ o, g.get? e = some o ∧ o.cls = .type "StopIteration") → E (.ref e) { s with heap := g }) → wpAny (model prog w) A (Builtin.SmallTypes.nextOf (.ref it)) Q E s
theorem at_list {h g : Heap} {l : Addr} {xs : Array Value} (x : h.IsList l xs) (e : ∀ o, h.get? l = some o → g.get? l = some o) : g.IsList l xs := let ⟨o, a, b⟩ := x; ⟨o, e _ a, b⟩
theorem at_tuple {h g : Heap} {l : Addr} {xs : Array Value} (x : h.IsTuple l xs) (e : ∀ o, h.get? l = some o → g.get? l = some o) : g.IsTuple l xs := let ⟨o, a, b⟩ := x; ⟨o, e _ a, b⟩
theorem fed_list {it l : Addr} {xs : Array Value} (ne : l ≠ it) : Fed prog w it l xs fun h k => h.IsListIter it l k ∧ h.IsList l xs :=
  ⟨fun e ⟨a, b⟩ => ⟨a.at fun o q => e it (.inl rfl) o q, at_list b fun o q => e l (.inr rfl) o q⟩,
   fun ⟨a, b⟩ hx q => wpAny_nextOf_list_item a b hx fun g g1 g2 => q g ⟨g1, b.extBut g2.extBut ne⟩ g2,
   fun hh ⟨a, b⟩ hx q => wpAny_nextOf_list_end hh a b hx q⟩
theorem fed_tuple {it l : Addr} {xs : Array Value} (ne : l ≠ it) : Fed prog w it l xs fun h k => h.IsTupleIter it l k ∧ h.IsTuple l xs :=
  ⟨fun e ⟨a, b⟩ => ⟨a.at fun o q => e it (.inl rfl) o q, at_tuple b fun o q => e l (.inr rfl) o q⟩,
   fun ⟨a, b⟩ hx q => RZ.nextOf_tuple_item a b hx fun g g1 g2 => q g ⟨g1, b.extBut g2.extBut ne⟩ g2,
   fun hh ⟨a, b⟩ hx q => RZ.nextOf_tuple_end hh a b hx q⟩
variable {A : Around} {E : Value → Shared → Prop} {s : Shared} {z TI TO i1 i2 l1 l2 : Addr} {m n : Nat} {xs ys : Array Value} {x y a b : Value} {s1 s2 : Heap → Nat → Prop}
/-- what stands outlasts but at the four places that a turn of zip writes -/
abbrev Zk (z TO i1 i2 : Addr) (h g : Heap) : Prop := ∀ c o, c ≠ z → c ≠ TO → c ≠ i1 → c ≠ i2 → h.get? c = some o → g.get? c = some o
theorem fzip_next {Q : Value → Shared → Prop} (F1 : Fed prog w i1 l1 xs s1) (F2 : Fed prog w i2 l2 ys s2) (D : ZipApart z TI TO i1 i2 l1 l2)
    (hz : IsZip s.heap z TI TO .none) (hI : IsPair s.heap TI (.ref i1) (.ref i2)) (hO : IsPair s.heap TO a b) (h1 : s1 s.heap m) (h2 : s2 s.heap n) (hx : xs[m]? = some x) (hy : ys[n]? = some y)
    (hQ : ∀ g, IsZip g z TI TO (rawInt s.heap.objs.size) → IsPair g TO x y → s1 g (m + 1) → s2 g (n + 1) → IsPair g s.heap.objs.size x y → g.objs.size = s.heap.objs.size + 1 → Zk z TO i1 i2 s.heap g → Q (.ref s.heap.objs.size) { s with heap := g }) :
    wpAny (model prog w) A (Builtin.«zip.__next__» ⟨[.ref z], []⟩) (fun fin t => ∃ v, fin = .done (.ret v) ∧ Q v t) E s := by
  have k1 : ∀ {c : Addr} {h g : Heap} {k : Nat}, Heap.SameBut c h g → i1 ≠ c → l1 ≠ c → s1 h k → s1 g k := fun sb n1 n2 st => F1.keep (fun d hd o e => sb.extBut _ _ (by rcases hd with rfl | rfl <;> assumption) e) st
  have k2 : ∀ {c : Addr} {h g : Heap} {k : Nat}, Heap.SameBut c h g → i2 ≠ c → l2 ≠ c → s2 h k → s2 g k := fun sb n1 n2 st => F2.keep (fun d hd o e => sb.extBut _ _ (by rcases hd with rfl | rfl <;> assumption) e) st
  show wpAny _ _ (field (.ref z) 2 >>= _) _ _ s
  refine wpAny_bind (wpAny_field hz rfl (x := .bool false) rfl ?_)
  show wpAny _ _ (field (.ref z) 3 >>= _) _ _ s
  refine wpAny_bind (wpAny_field hz rfl (x := .ref TI) rfl ?_)
  refine wpAny_bind (wpAny_seqItems hI rfl ?_)
  show wpAny _ _ (Builtin.SmallTypes.ownedTupleIsFree (.ref z) >>= _) _ _ s
  refine wpAny_bind ?_
  unfold
    Builtin.SmallTypes.ownedTupleIsFree
  refine wpAny_bind (wpAny_field hz rfl (x := .none) rfl (wpAny_pure ?_))
  simp only [if_true]
  refine wpAny_bind (wpAny_rule ?_)
  refine wpAny_bind (wpAny_field hz rfl (x := .ref TO) rfl ?_)
  refine wpAny_bind (wpAny_setField_rec hz (by simp) fun g1 zz1 b1 => ?_)
  replace zz1 : IsZip g1 z TI TO .ellipsis := zz1
  refine wpAny_bind ?_
  simp only [List.zipIdx_cons, List.zipIdx_nil,
    List.forIn_cons, List.forIn_nil]
  refine wpAny_bind (wpAny_bind (wpAny_onRaise ?_))
  show wpAny _ _ (Builtin.SmallTypes.nextOf (.ref i1) >>= _) _ _ { s with heap := g1 }
  refine wpAny_bind (F1.next (s := { s with heap := g1 }) (k1 b1 D.i1z D.l1z h1) hx fun g2 p1 b2 => wpAny_pure ?_)
  have O2 : IsPair g2 TO a b := b2.extBut _ _ D.TOi1 (b1.extBut _ _ D.TOz hO)
  refine wpAny_bind (wpAny_seqItems O2 rfl ?_)
  refine wpAny_bind (wpAny_updateSeq_pair O2 fun g3 O3 b3 => ?_)
  replace O3 : IsPair g3 TO x b := O3
  refine wpAny_bind (wpAny_letGo (wpAny_pure ?_))
  refine wpAny_bind (wpAny_bind (wpAny_onRaise ?_))
  show wpAny _ _ (Builtin.SmallTypes.nextOf (.ref i2) >>= _) _ _ { s with heap := g3 }
  refine wpAny_bind (F2.next (s := { s with heap := g3 }) (k2 b3 D.TOi2.symm D.l2TO (k2 b2 D.i12.symm D.l2i1 (k2 b1 D.i2z D.l2z h2))) hy fun g4 p2 b4 => wpAny_pure ?_)
  have O4 : IsPair g4 TO x b := b4.extBut _ _ D.TOi2 O3
  refine wpAny_bind (wpAny_seqItems O4 rfl ?_)
  refine wpAny_bind (wpAny_updateSeq_pair O4 fun g5 O5 b5 => ?_)
  replace O5 : IsPair g5 TO x y := O5
  refine wpAny_bind (wpAny_letGo (wpAny_pure (wpAny_pure ?_)))
  refine wpAny_bind (wpAny_seqItems O5 rfl ?_)
  refine wpAny_bind (wpAny_newTuple ?_)
  have sz : g5.objs.size = s.heap.objs.size := by rw [b5.1, b4.1, b3.1, b2.1, b1.1]
  have zz5 : IsZip g5 z TI TO .ellipsis := b5.extBut _ _ D.TOz.symm (b4.extBut _ _ D.i2z.symm (b3.extBut _ _ D.TOz.symm (b2.extBut _ _ D.i1z.symm zz1)))
  have kk : Zk z TO i1 i2 s.heap g5 := fun c o c1 c2 c3 c4 e => b5.extBut _ _ c2 (b4.extBut _ _ c4 (b3.extBut _ _ c2 (b2.extBut _ _ c3 (b1.extBut _ _ c1 e))))
  have q1 : s1 g5 (m + 1) := k1 b5 D.TOi1.symm D.l1TO (k1 b4 D.i12 D.l1i2 (k1 b3 D.TOi1.symm D.l1TO p1))
  have q2 : s2 g5 (n + 1) := k2 b5 D.TOi2.symm D.l2TO p2
  have zlt : z < g5.objs.size := Heap.lt_size zz5
  show wpAny _ _ (Builtin.SmallTypes.ownedTupleHandOut (.ref z) (.ref g5.objs.size) >>= _) _ _ _
  refine wpAny_bind ?_
  unfold
    Builtin.SmallTypes.ownedTupleHandOut
  have zz6 : IsZip (g5.push { cls := .type "tuple", data := .seq #[x, y] }) z TI TO .ellipsis := Heap.get?_push_of_some _ zz5
  refine wpAny_bind (wpAny_setField_rec zz6 (by simp) fun g7 zz7 b7 => ?_)
  replace zz7 : IsZip g7 z TI TO (rawInt g5.objs.size) := zz7
  refine wpAny_setField_rec zz7 (by simp) fun g8 zz8 b8 => ?_
  replace zz8 : IsZip g8 z TI TO (rawInt g5.objs.size) := zz8
  have up : ∀ c o, c ≠ z → g5.get? c = some o → g8.get? c = some o := fun c o c1 e => b8.extBut _ _ c1 (b7.extBut _ _ c1 (Heap.get?_push_of_some _ e))
  have T8 : IsPair g8 g5.objs.size x y := b8.extBut _ _ (Nat.ne_of_gt zlt) (b7.extBut _ _ (Nat.ne_of_gt zlt) (Heap.get?_push_size _ rfl))
  have sz8 : g8.objs.size = g5.objs.size + 1 := by rw [b8.1, b7.1, Heap.size_push]
  rw [sz] at zz8 T8 sz8
  refine wpAny_pure ⟨_, rfl, ?_⟩
  show Q (.ref g5.objs.size) _
  rw [sz]
  exact hQ g8 zz8 (up _ _ D.TOz O5) (F1.keep (fun c hc o e => up c o (by rcases hc with rfl | rfl; exact D.i1z; exact D.l1z) e) q1) (F2.keep (fun c hc o e => up c o (by rcases hc with rfl | rfl; exact D.i2z; exact D.l2z) e) q2) T8 sz8 fun c o c1 c2 c3 c4 e => up c o c1 (kk c o c1 c2 c3 c4 e)
theorem fzip_end {Q : Fin → Shared → Prop} (hh : A.handled = none) (F1 : Fed prog w i1 l1 xs s1) (F2 : Fed prog w i2 l2 ys s2) (D : ZipApart z TI TO i1 i2 l1 l2)
    (hz : IsZip s.heap z TI TO .none) (hI : IsPair s.heap TI (.ref i1) (.ref i2)) (hO : IsPair s.heap TO a b) (h1 : s1 s.heap m) (h2 : s2 s.heap n) (hend : xs[m]? = none ∨ ys[n]? = none)
    (hE : ∀ g e, Zk z TO i1 i2 s.heap g → (∃ o, g.get? e = some o ∧ o.cls = .type "StopIteration") → E (.ref e) { s with heap := g }) :
    wpAny (model prog w) A (Builtin.«zip.__next__» ⟨[.ref z], []⟩) Q E s := by
  have k1 : ∀ {c : Addr} {h g : Heap} {k : Nat}, Heap.SameBut c h g → i1 ≠ c → l1 ≠ c → s1 h k → s1 g k := fun sb n1 n2 st => F1.keep (fun d hd o e => sb.extBut _ _ (by rcases hd with rfl | rfl <;> assumption) e) st
  have k2 : ∀ {c : Addr} {h g : Heap} {k : Nat}, Heap.SameBut c h g → i2 ≠ c → l2 ≠ c → s2 h k → s2 g k := fun sb n1 n2 st => F2.keep (fun d hd o e => sb.extBut _ _ (by rcases hd with rfl | rfl <;> assumption) e) st
  show wpAny _ _ (field (.ref z) 2 >>= _) _ _ s
  refine wpAny_bind (wpAny_field hz rfl (x := .bool false) rfl ?_)
  show wpAny _ _ (field (.ref z) 3 >>= _) _ _ s
  refine wpAny_bind (wpAny_field hz rfl (x := .ref TI) rfl ?_)
  refine wpAny_bind (wpAny_seqItems hI rfl ?_)
  show wpAny _ _ (Builtin.SmallTypes.ownedTupleIsFree (.ref z) >>= _) _ _ s
  refine wpAny_bind ?_
  unfold
    Builtin.SmallTypes.ownedTupleIsFree
  refine wpAny_bind (wpAny_field hz rfl (x := .none) rfl (wpAny_pure ?_))
  simp only [if_true]
  refine wpAny_bind (wpAny_rule ?_)
  refine wpAny_bind (wpAny_field hz rfl (x := .ref TO) rfl ?_)
  refine wpAny_bind (wpAny_setField_rec hz (by simp) fun g1 zz1 b1 => ?_)
  replace zz1 : IsZip g1 z TI TO .ellipsis := zz1
  refine wpAny_bind ?_
  simp only [List.zipIdx_cons, List.zipIdx_nil,
    List.forIn_cons, List.forIn_nil]
  refine wpAny_bind (wpAny_bind (wpAny_onRaise ?_))
  show wpAny _ _ (Builtin.SmallTypes.nextOf (.ref i1) >>= _) _ _ { s with heap := g1 }
  cases hx : xs[m]? with
  | none =>
    refine wpAny_bind (F1.fin (s := { s with heap := g1 }) hh (k1 b1 D.i1z D.l1z h1) hx fun g2 e b2 ex => ?_)
    obtain ⟨oe, he, hc⟩ := ex
    have zz2 : IsZip g2 z TI TO .ellipsis := b2 _ _ D.i1z.symm zz1
    have ez : e ≠ z := fun q => by
      subst q
      rw [zz2] at he
      cases he
      simp at hc
    refine wpAny_setField_rec zz2 (by simp) fun g3 _ b3 => ?_
    exact hE g3 e (fun c o c1 _ c3 _ q => b3.extBut _ _ c1 (b2 _ _ c3 (b1.extBut _ _ c1 q))) ⟨oe, b3.extBut _ _ ez he, hc⟩
  | some x =>
    have hy : ys[n]? = none := hend.resolve_left (by rw [hx]; exact fun q => nomatch q)
    refine wpAny_bind (F1.next (s := { s with heap := g1 }) (k1 b1 D.i1z D.l1z h1) hx fun g2 p1 b2 => wpAny_pure ?_)
    have O2 : IsPair g2 TO a b := b2.extBut _ _ D.TOi1 (b1.extBut _ _ D.TOz hO)
    refine wpAny_bind (wpAny_seqItems O2 rfl ?_)
    refine wpAny_bind (wpAny_updateSeq_pair O2 fun g3 O3 b3 => ?_)
    refine wpAny_bind (wpAny_letGo (wpAny_pure ?_))
    refine wpAny_bind (wpAny_bind (wpAny_onRaise ?_))
    show wpAny _ _ (Builtin.SmallTypes.nextOf (.ref i2) >>= _) _ _ { s with heap := g3 }
    refine wpAny_bind (F2.fin (s := { s with heap := g3 }) hh (k2 b3 D.TOi2.symm D.l2TO (k2 b2 D.i12.symm D.l2i1 (k2 b1 D.i2z D.l2z h2))) hy fun g4 e b4 ex => ?_)
    obtain ⟨oe, he, hc⟩ := ex
    have zz4 : IsZip g4 z TI TO .ellipsis := b4 _ _ D.i2z.symm (b3.extBut _ _ D.TOz.symm (b2.extBut _ _ D.i1z.symm zz1))
    have ez : e ≠ z := fun q => by
      subst q
      rw [zz4] at he
      cases he
      simp at hc
    refine wpAny_setField_rec zz4 (by simp) fun g5 _ b5 => ?_
    exact hE g5 e (fun c o c1 c2 c3 c4 q => b5.extBut _ _ c1 (b4 _ _ c4 (b3.extBut _ _ c2 (b2.extBut _ _ c3 (b1.extBut _ _ c1 q))))) ⟨oe, b5.extBut _ _ ez he, hc⟩
theorem py_fzip {Q : Option Value → Shared → Prop} (F1 : Fed prog w i1 l1 xs s1) (F2 : Fed prog w i2 l2 ys s2) (D : ZipApart z TI TO i1 i2 l1 l2)
    (hz : IsZip s.heap z TI TO .none) (hI : IsPair s.heap TI (.ref i1) (.ref i2)) (hO : IsPair s.heap TO a b) (h1 : s1 s.heap m) (h2 : s2 s.heap n) (hx : xs[m]? = some x) (hy : ys[n]? = some y)
    (hQ : ∀ g, IsZip g z TI TO (rawInt s.heap.objs.size) → IsPair g TO x y → s1 g (m + 1) → s2 g (n + 1) → IsPair g s.heap.objs.size x y → g.objs.size = s.heap.objs.size + 1 → Zk z TO i1 i2 s.heap g → Q (some (.ref s.heap.objs.size)) { s with heap := g }) :
    wpAny (model prog w) A (pyNext (.ref z)) Q E s := by
  have ty : s.TypeIs (.ref z) "zip" := ⟨_, hz, rfl⟩
  unfold pyNext
  refine wpAny_bind (wpAny_attempt (wpAny_callSpecial?_slot (name := Str.ofString "__next__") ty F.slot_zip_next ?_))
  refine wpAny_call_entry F.slot_zip_next ty F.entry_zip_next ?_ (F.args_zip_next_1 _)
  exact fzip_next F1 F2 D hz hI hO h1 h2 hx hy fun g a1 a2 a3 a4 a5 a6 a7 => wpAny_pure (hQ g a1 a2 a3 a4 a5 a6 a7)
theorem py_fzip_end {Q : Option Value → Shared → Prop} (hh : A.handled = none) (F1 : Fed prog w i1 l1 xs s1) (F2 : Fed prog w i2 l2 ys s2) (D : ZipApart z TI TO i1 i2 l1 l2)
    (hz : IsZip s.heap z TI TO .none) (hI : IsPair s.heap TI (.ref i1) (.ref i2)) (hO : IsPair s.heap TO a b) (h1 : s1 s.heap m) (h2 : s2 s.heap n) (hend : xs[m]? = none ∨ ys[n]? = none)
    (hQ : ∀ g, Zk z TO i1 i2 s.heap g → Q none { s with heap := g }) : wpAny (model prog w) A (pyNext (.ref z)) Q E s := by
  have ty : s.TypeIs (.ref z) "zip" := ⟨_, hz, rfl⟩
  unfold pyNext
  refine wpAny_bind (wpAny_attempt (wpAny_callSpecial?_slot (name := Str.ofString "__next__") ty F.slot_zip_next ?_))
  refine wpAny_call_entry F.slot_zip_next ty F.entry_zip_next ?_ (F.args_zip_next_1 _)
  refine fzip_end hh F1 F2 D hz hI hO h1 h2 hend fun g e hk he => ?_
  obtain ⟨o, ho, hc⟩ := he
  refine wpAny_bind (wpAny_isInstance (T := "StopIteration") (b := true) ⟨o, ho, hc⟩ isSubtype_stop ?_)
  exact wpAny_pure (hQ _ hk)
end
/-! ### zip(list, tuple) -/
abbrev zlt1 (h : Heap) (l : Addr) : Heap := h.push { cls := .type "list_iterator", data := .fields #[.ref l, .int 0 0] }
abbrev zlt2 (h : Heap) (l t : Addr) : Heap := (zlt1 h l).push { cls := .type "tuple_iterator", data := .fields #[.ref t, .int 0 0] }
abbrev zlt3 (h : Heap) (l t : Addr) : Heap := (zlt2 h l t).push { cls := .type "tuple", data := .seq #[.ref h.objs.size, .ref (zlt1 h l).objs.size] }
abbrev zlt4 (h : Heap) (l t : Addr) : Heap := (zlt3 h l t).push { cls := .type "tuple", data := .seq #[.none, .none] }
abbrev zlt5 (h : Heap) (l t : Addr) : Heap := (zlt4 h l t).push { cls := .type "zip", data := .fields #[.none, .bool false, .bool false, .ref (zlt2 h l t).objs.size, .ref (zlt3 h l t).objs.size] }
theorem meets_zlt (l t : Addr) (xs ys : Array Value) :
    Meets (Builtin.«zip.__new__» ⟨[.type "zip", .ref l, .ref t], []⟩) (fun _ R s => s.heap.IsList l xs ∧ s.heap.IsTuple t ys ∧ R (.ok (.ret (.ref (zlt4 s.heap l t).objs.size))) { s with heap := zlt5 s.heap l t }) :=
  .of_wp fun prog w A R s h => by
    obtain ⟨hp, g, d, tk, os⟩ := s
    obtain ⟨q1, q2, h⟩ := h
    have hsub := sub_zip
    have hA : Heap.IsList (Shared.heap ⟨hp, g, d, tk, os⟩) l xs := q1
    have hB : Heap.IsTuple (Shared.heap ⟨hp.push { cls := .type "list_iterator", data := .fields #[.ref l, .int 0 0] }, g, d, tk, os⟩) t ys := Heap.IsTuple.push q2 _
    wp_walk using wpAny_pyIter_list hA, wpAny_pyIter_tuple hB
    exact ⟨_, rfl, h⟩
section
variable {prog : Program} {w : World} {A : Around} {E : Value → Shared → Prop} {s : Shared}
theorem call_zlt {l t : Addr} {xs ys : Array Value} {Q : Value → Shared → Prop} (q1 : s.heap.IsList l xs) (q2 : s.heap.IsTuple t ys)
    (h : ∀ g, IsZip g (s.heap.objs.size + 4) (s.heap.objs.size + 2) (s.heap.objs.size + 3) .none → IsPair g (s.heap.objs.size + 2) (.ref s.heap.objs.size) (.ref (s.heap.objs.size + 1)) →
      IsPair g (s.heap.objs.size + 3) .none .none → g.IsListIter s.heap.objs.size l 0 → g.IsTupleIter (s.heap.objs.size + 1) t 0 → (∀ c o, s.heap.get? c = some o → g.get? c = some o) → Q (.ref (s.heap.objs.size + 4)) { s with heap := g }) :
    wpAny (model prog w) A (call (.type "zip") [.ref l, .ref t]) Q E s := by
  have made := meets_zlt l t xs ys
  refine callType_new F.called_zip (by decide) (F.typeCall_zip_2 _ _) (F.newCall_zip_2 _ _) (fun obj => F.args_object_init_3 obj _ _) F.entry_zip_new made ⟨q1, q2, ?_⟩
  have e1 : (zlt1 s.heap l).objs.size = s.heap.objs.size + 1 := Heap.size_push ..
  have e2 : (zlt2 s.heap l t).objs.size = s.heap.objs.size + 2 := by rw [Heap.size_push, e1]
  have e3 : (zlt3 s.heap l t).objs.size = s.heap.objs.size + 3 := by rw [Heap.size_push, e2]
  have e4 : (zlt4 s.heap l t).objs.size = s.heap.objs.size + 4 := by rw [Heap.size_push, e3]
  have p5 : (zlt5 s.heap l t).get? (zlt4 s.heap l t).objs.size = some _ := Heap.get?_push_size _ rfl
  have p4 : (zlt5 s.heap l t).get? (zlt3 s.heap l t).objs.size = some _ := Heap.get?_push_of_some _ (Heap.get?_push_size _ rfl)
  have up4 : ∀ {c o}, (zlt3 s.heap l t).get? c = some o → (zlt5 s.heap l t).get? c = some o := fun q => Heap.get?_push_of_some _ (Heap.get?_push_of_some _ q)
  have p3 : (zlt5 s.heap l t).get? (zlt2 s.heap l t).objs.size = some _ := up4 (Heap.get?_push_size _ rfl)
  have p2 : (zlt5 s.heap l t).get? (zlt1 s.heap l).objs.size = some _ := up4 (Heap.get?_push_of_some _ (Heap.get?_push_size _ rfl))
  have p1 : (zlt5 s.heap l t).get? s.heap.objs.size = some _ := up4 (Heap.get?_push_of_some _ (Heap.get?_push_of_some _ (Heap.get?_push_size _ rfl)))
  show _ ∧ _
  rw [e2, e3, e4] at p5
  rw [e3] at p4
  rw [e1, e2] at p3
  rw [e1] at p2
  rw [e4]
  exact ⟨⟨_, p5, rfl⟩, h _ p5 p3 p4 ⟨_, p1, rfl, rfl⟩ ⟨_, p2, rfl, rfl⟩ fun c o q => up4 (Heap.get?_push_of_some _ (Heap.get?_push_of_some _ (Heap.get?_push_of_some _ q)))⟩
end
/-- the list at a and the tuple at b as they stand at each turn -/
def ItzM (K : PySem.W.Frag) (a b : Addr) : It :=
  ⟨fun i H => ∃ (xs ys : List V) (x y : V), SqL K H a xs ∧ SqT K H b ys ∧ xs[i]? = some x ∧ ys[i]? = some y,
    fun i H v H' => ∃ T x y, v = .ref T ∧ H T = none ∧ H' = upd H T (.tup [x, y]) ∧ (∀ xs, SqL K H a xs → xs[i]? = some x) ∧ ∀ ys, SqT K H b ys → ys[i]? = some y,
    fun i H => ∃ xs ys : List V, SqL K H a xs ∧ SqT K H b ys ∧ (xs.length ≤ i ∨ ys.length ≤ i)⟩
theorem five {c z TI TO i1 i2 : Addr} (h : c ∈ [z, TI, TO, i1, i2]) : c = z ∨ c = TI ∨ c = TO ∨ c = i1 ∨ c = i2 := by simpa using h
theorem turn_zipM {P : Program} {w : World} {K : PySem.W.Frag} {elts : List Expr} {kk : Nat} {tpos : Pos} {a b z TI TO i1 i2 : Addr} (D : ZipApart z TI TO i1 i2 a b) :
    L2.Turn P w K (.Tuple elts kk tpos) (ItzM K a b) [z, TI, TO, i1, i2] z (fun i h => IsZip h z TI TO .none ∧ IsPair h TI (.ref i1) (.ref i2) ∧ (∃ x y, IsPair h TO x y) ∧ h.IsListIter i1 a i ∧ h.IsTupleIter i2 b i) where
  mem := List.mem_cons_self
  obj := fun i h st c hc => by
    obtain ⟨w1, w2, ⟨x, y, w3⟩, ⟨o1, u1, _, v1⟩, ⟨o2, u2, _, v2⟩⟩ := st
    rcases five hc with rfl | rfl | rfl | rfl | rfl
    · exact ⟨_, w1, fun v => nofun⟩
    · exact ⟨_, w2, fun v => nofun⟩
    · exact ⟨_, w3, fun v => nofun⟩
    · exact ⟨o1, u1, fun v q => by rw [v1] at q; exact nomatch q⟩
    · exact ⟨o2, u2, fun v q => by rw [v2] at q; exact nomatch q⟩
  keep := fun i h g st k => by
    obtain ⟨w1, w2, ⟨x, y, w3⟩, w4, w5⟩ := st
    exact ⟨k _ (by simp) _ w1, k _ (by simp) _ w2, ⟨x, y, k _ (by simp) _ w3⟩, w4.at (k _ (by simp)), w5.at (k _ (by simp))⟩
  item := by
    intro X rP rw' rK calm i pins s σ H E I hf st hg
    subst rP rw' rK
    obtain ⟨w1, w2, ⟨x0, y0, w3⟩, w4, w5⟩ := st
    obtain ⟨xs, ys, x, y, qx, qy, hx, hy⟩ := hg
    obtain ⟨us, rv, pu, _⟩ := I.list qx
    obtain ⟨vs, rv2, pv, _⟩ := I.tuple qy
    obtain ⟨u, hu, ru⟩ := rv.get hx
    obtain ⟨v, hv, rv3⟩ := rv2.get hy
    have zlt : z < s.heap.objs.size := Heap.lt_size w1
    refine py_fzip (fed_list D.l1i1) (fed_tuple D.l2i2) D w1 w2 w3 ⟨w4, pu.isList⟩ ⟨w5, pv⟩ (x := u) (y := v) (by simpa using hu) (by simpa using hv) fun g zz OO f1 f2 TT szz kk => ?_
    refine ⟨_, rfl, wpAny_letOwnedTupleGo_zip (s := { s with heap := g }) zz fun g' zz' sb => ?_⟩
    have T2 : g'.get? s.heap.objs.size = some { cls := .type "tuple", data := .seq #[u, v] } := (sb.2 _ (Nat.ne_of_gt zlt)).trans TT
    have new : ObjOk X.prog X.w (upd H s.heap.objs.size (.tup [x, y])) g' s.heap.objs.size (.tup [x, y]) := ⟨by show 2 ≤ sizeLine; decide, [u, v], .cons ru (.cons rv3 .nil), ⟨_, T2, rfl, _, rfl⟩⟩
    have out : ∀ c o, c ∉ [z, TI, TO, i1, i2] → s.heap.get? c = some o → g'.get? c = some o := fun c o nb q => by
      have n1 : c ≠ z := fun q' => nb (by simp [q'])
      have n2 : c ≠ TO := fun q' => nb (by simp [q'])
      have n3 : c ≠ i1 := fun q' => nb (by simp [q'])
      have n4 : c ≠ i2 := fun q' => nb (by simp [q'])
      exact (sb.2 c n1).trans (kk c o n1 n2 n3 n4 q)
    have I1 : Inv X pins σ (upd H s.heap.objs.size (.tup [x, y])) { s with heap := g' } := I.turnedNew (t' := s.toks) (ch := [z, TI, TO, i1, i2]) (fun c o hb q => out c o hb q) hf (Nat.le_refl _) new
    refine ⟨.ref s.heap.objs.size, _, I1, rfl, ⟨_, x, y, rfl, I.hok.fresh (Nat.le_refl _), rfl, fun l hl => by rw [I.list_inj hl qx]; exact hx, fun l hl => by rw [I.tuple_inj hl qy]; exact hy⟩, ⟨zz', ?_, ⟨u, v, ?_⟩, ?_, ?_⟩, fun c hc => ?_⟩
    · exact (sb.2 _ D.TIz).trans (kk _ _ D.TIz D.TITO D.TIi1 D.TIi2 w2)
    · exact (sb.2 _ D.TOz).trans OO
    · exact f1.1.at fun o q => (sb.2 _ D.i1z).trans q
    · exact f2.1.at fun o q => (sb.2 _ D.i2z).trans q
    · have lt : c < s.heap.objs.size := by
        rcases five hc with rfl | rfl | rfl | rfl | rfl
        · exact zlt
        · exact Heap.lt_size w2
        · exact Heap.lt_size w3
        · obtain ⟨_, e, _⟩ := w4; exact Heap.lt_size e
        · obtain ⟨_, e, _⟩ := w5; exact Heap.lt_size e
      rw [upd_ne (Nat.ne_of_lt lt)]
      exact (hf c hc).1
  done := by
    intro X rP rw' rK calm i pins s σ H E I hf st hg
    subst rP rw' rK
    obtain ⟨w1, w2, ⟨x0, y0, w3⟩, w4, w5⟩ := st
    obtain ⟨xs, ys, qx, qy, hend⟩ := hg
    obtain ⟨us, rv, pu, _⟩ := I.list qx
    obtain ⟨vs, rv2, pv, _⟩ := I.tuple qy
    have n1 := rv.length
    have n2 := rv2.length
    have none' : us.toArray[i]? = none ∨ vs.toArray[i]? = none := hend.imp (fun q => by simp; omega) (fun q => by simp; omega)
    refine py_fzip_end (I.ok.hd calm) (fed_list D.l1i1) (fed_tuple D.l2i2) D w1 w2 w3 ⟨w4, pu.isList⟩ ⟨w5, pv⟩ none' fun g kk => ⟨rfl, ?_⟩
    refine I.turnedL (t' := s.toks) (ch := [z, TI, TO, i1, i2]) (fun c o nb q => ?_) hf
    exact kk c o (fun q' => nb (by simp [q'])) (fun q' => nb (by simp [q'])) (fun q' => nb (by simp [q'])) (fun q' => nb (by simp [q'])) q
  self := fun A i s Q E st h => wpAny_pyIter_zip st.1 h
def iZipM (K : PySem.W.Frag) (ta : TA) : TI := fun σ H R => ta σ H fun vs H1 => ∃ a b xs ys, vs = [.ref a, .ref b] ∧ SqL K H1 a xs ∧ SqT K H1 b ys ∧ R (ItzM K a b) H1
theorem pi_zipM {X : Cx} {e e2 : Expr} {ta : TA} {p pos tpos : Pos} {elts : List Expr} {kk : Nat} (hg : Gl X "zip") (hm : X.mg "zip" = none) (ha : PA X [e, e2] ta)
    (hs : starEach [e, e2] X.env = (false, eval e X.env) :: starEach [e2] X.env := by rfl) (hpl : (backTo pos (starEach [e2] X.env)).any (·.1) = false := by rfl) :
    PI X (.Tuple elts kk tpos) (.Call (.Name "zip" p) [e, e2] [] pos) (iZipM X.K ta) := by
  refine ⟨fun pins s σ H R I h => ?_⟩
  have args := ha.run pos pins s σ H _ I h
  refine Call_ (ld_blt I hg hm PyProof.Rows.boot_zip (PyProof.Rows.callWith_type1 (thn args fun us s1 ⟨vs, H1, I1, r1, q1⟩ => ?_) hs hpl))
  obtain ⟨a, b, xs, ys, rfl, qx, qy, q⟩ := q1
  obtain ⟨u1, u2, rfl, ra, rb⟩ := vals2 r1
  cases ra
  cases rb
  obtain ⟨its, rv, p1, _⟩ := I1.list qx
  obtain ⟨its2, rv2, p2, _⟩ := I1.tuple qy
  have lb : b < s1.heap.objs.size := by
    obtain ⟨o, e, _⟩ := p2
    exact Heap.lt_size e
  refine call_zlt p1.isList p2 fun g g1 g2 g3 g4 g5 kk => wpAny_pyIter_zip g1 ?_
  have I2 : Inv X pins σ H1 { s1 with heap := g } := I1.kept (t' := s1.toks) kk
  have n := s1.heap.objs.size
  refine ⟨s1.heap.objs.size + 4, [s1.heap.objs.size + 4, s1.heap.objs.size + 2, s1.heap.objs.size + 3, s1.heap.objs.size, s1.heap.objs.size + 1], _, _, H1, rfl, I2, turn_zipM (PySem.W.ktu_apart s1.heap.objs.size a b p1.lt lb), ⟨g1, g2, ⟨_, _, g3⟩, g4, g5⟩, fun c hc => ?_, q⟩
  have le : s1.heap.objs.size ≤ c := by rcases five hc with rfl | rfl | rfl | rfl | rfl <;> omega
  exact I1.fpOk le (I1.hok.fresh le)
theorem go_iZipM {K : PySem.W.Frag} {σ : L2.St} {H : Hp} {ta : TA} {R : It → Hp → Prop} (h : ta σ H fun vs H1 => ∃ a b xs ys, vs = [.ref a, .ref b] ∧ SqL K H1 a xs ∧ SqT K H1 b ys ∧ R (ItzM K a b) H1) : iZipM K ta σ H R := h
/-- for (x, y) in zip(list, tuple) of one length -/
theorem for_zipM {K : PySem.W.Frag} {a b : Addr} {xs ys : List V} {g : TG} {tb : TS} {D : Ends} {σ : L2.St} {H : Hp} (hl : xs.length = ys.length) (Pv : Nat → L2.St → Hp → Prop) (h0 : Pv 0 σ H) (hq : ∀ i σ H, Pv i σ H → SqL K H a xs ∧ SqT K H b ys)
    (hs : ∀ (i : Nat) (x y : V) (T : Addr) (σ : L2.St) (H : Hp), xs[i]? = some x → ys[i]? = some y → Pv i σ H → H T = none → g (.ref T) σ (upd H T (.tup [x, y])) fun σ2 H2 => tb { D with nx := Pv (i + 1), ct := Pv (i + 1), bk := D.nx } σ2 H2) (hd : ∀ σ H, Pv xs.length σ H → D.nx σ H) :
    ∃ W : Nat → Nat → L2.St → Hp → Prop, (∃ m, W 0 m σ H) ∧ ∀ i m σ H, W i m σ H →
      ((ItzM K a b).stop i H ∧ D.nx σ H) ∨ ((ItzM K a b).go i H ∧ ∃ N : L2.St → Hp → Prop, (∀ σ' H', N σ' H' → ∃ m', m' < m ∧ W (i + 1) m' σ' H') ∧ ∀ v H', (ItzM K a b).yld i H v H' → g v σ H' fun σ2 H2 => tb { D with nx := N, ct := N, bk := D.nx } σ2 H2) := by
  refine ⟨fun i m σ H => m + i = xs.length ∧ Pv i σ H, ⟨xs.length, rfl, h0⟩, ?_⟩
  rintro i m σ H ⟨hm, p⟩
  obtain ⟨qx, qy⟩ := hq i σ H p
  rcases Nat.lt_or_ge i xs.length with lt | ge
  · refine .inr ⟨⟨xs, ys, xs[i], ys[i]'(by omega), qx, qy, List.getElem?_eq_getElem lt, List.getElem?_eq_getElem _⟩, Pv (i + 1), fun σ' H' p' => ⟨m - 1, by omega, by omega, p'⟩, ?_⟩
    rintro v H' ⟨T, x, y, rfl, hT, rfl, f1, f2⟩
    exact hs i x y T σ H (f1 xs qx) (f2 ys qy) p hT
  · obtain rfl : i = xs.length := by omega
    exact .inl ⟨⟨xs, ys, qx, qy, .inl (Nat.le_refl _)⟩, hd σ H p⟩
/-- [e for x, y in zip(list, tuple)] of one length, behind the reading -/
theorem walkM {K : PySem.W.Frag} {a b : Addr} {xs ys : List V} {Q : Hp → Prop} {Bd : V → Hp → (Hp → Prop) → Prop} {H0 : Hp} (hl : xs.length = ys.length) (Pv : Nat → Hp → Prop) (h0 : Pv 0 H0) (hq : ∀ i H, Pv i H → SqL K H a xs ∧ SqT K H b ys)
    (hs : ∀ (i : Nat) x y (T : Addr) H, xs[i]? = some x → ys[i]? = some y → Pv i H → H T = none → Bd (.ref T) (upd H T (.tup [x, y])) (Pv (i + 1))) (hd : ∀ H, Pv xs.length H → Q H) :
    ∃ W : Nat → Nat → Hp → Prop, (∃ m, W 0 m H0) ∧ ∀ i m H, W i m H → ((ItzM K a b).stop i H ∧ Q H) ∨ ((ItzM K a b).go i H ∧ ∃ N : Hp → Prop, (∀ H', N H' → ∃ m', m' < m ∧ W (i + 1) m' H') ∧ ∀ x H', (ItzM K a b).yld i H x H' → Bd x H' N) := by
  refine ⟨fun i m H => m + i = xs.length ∧ Pv i H, ⟨xs.length, rfl, h0⟩, ?_⟩
  rintro i m H ⟨hm, p⟩
  obtain ⟨qx, qy⟩ := hq i H p
  rcases Nat.lt_or_ge i xs.length with lt | ge
  · refine .inr ⟨⟨xs, ys, xs[i], ys[i]'(by omega), qx, qy, List.getElem?_eq_getElem lt, List.getElem?_eq_getElem _⟩, Pv (i + 1), fun H' p' => ⟨m - 1, by omega, by omega, p'⟩, ?_⟩
    rintro v H' ⟨T, x, y, rfl, hT, rfl, f1, f2⟩
    exact hs i x y T H (f1 xs qx) (f2 ys qy) p hT
  · obtain rfl : i = xs.length := by omega
    exact .inl ⟨⟨xs, ys, qx, qy, .inl (Nat.le_refl _)⟩, hd H p⟩
end Gx

set_option Elab.async false
set_option linter.all false
set_option maxRecDepth 100000
set_option maxHeartbeats 4000000
/-! Own lemmas: enumerate of a tuple, in the way of LibZ. -/
namespace Gx
open PySem PySem.Spec PyProof.Rows L2
section
variable {prog : Program} {w : World} {A : Around} {E : Value → Shared → Prop} {s : Shared} {e it l : Addr} {i : Nat} {xs : Array Value} {x old : Value} {st : Heap → Nat → Prop}
/-- what stands outlasts but at the two places that a turn of enumerate writes -/
abbrev Ek (e it : Addr) (h g : Heap) : Prop := ∀ c o, c ≠ e → c ≠ it → h.get? c = some o → g.get? c = some o
theorem fenum_next {Q : Value → Shared → Prop} (F1 : Fed prog w it l xs st) (ne : e ≠ it) (nl : l ≠ e) (r0 : IsEnum s.heap e it i old) (h1 : st s.heap i) (hx : xs[i]? = some x)
    (hQ : ∀ g, IsEnumOut g e it ((i : Int) + 1) x s.heap.objs.size → st g (i + 1) → g.get? s.heap.objs.size = some { cls := .type "tuple", data := .seq #[.int i s.toks, x] } → Ek e it s.heap g → Q (.ref s.heap.objs.size) { s with heap := g, toks := s.toks + 1 }) :
    wpAny (model prog w) A (Builtin.«enumerate.__next__» ⟨[.ref e], []⟩) (fun fin t => ∃ v, fin = .done (.ret v) ∧ Q v t) E s := by
  have k1 : ∀ {h g : Heap} {k : Nat}, Heap.SameBut e h g → st h k → st g k := fun sb p => F1.keep (fun d hd o q => sb.extBut _ _ (by rcases hd with rfl | rfl; exact ne.symm; exact nl) q) p
  show wpAny _ _ (field (.ref e) 2 >>= _) _ _ s
  refine wpAny_bind (wpAny_field r0 rfl (x := .ref it) rfl ?_)
  refine wpAny_bind (F1.next h1 hx fun g1 p1 b1 => ?_)
  have r1 : IsEnum g1 e it i old := b1.extBut _ _ ne r0
  show wpAny _ _ (field (.ref e) 3 >>= _) _ _ { s with heap := g1 }
  refine wpAny_bind (wpAny_field r1 rfl (x := rawInt i) rfl ?_)
  show wpAny _ _ (field (.ref e) 4 >>= _) _ _ { s with heap := g1 }
  refine wpAny_bind (wpAny_field r1 rfl (x := .none) rfl ?_)
  show wpAny _ _ (mkInt i >>= _) _ _ { s with heap := g1 }
  refine wpAny_bind (wpAny_mkInt ?_)
  show wpAny _ _ (setField (.ref e) 3 (rawInt ((i : Int) + 1)) >>= _) _ _ { s with heap := g1, toks := s.toks + 1 }
  refine wpAny_bind (wpAny_setField_rec r1 (by simp) fun g2 r2 b2 => ?_)
  replace r2 : IsEnum g2 e it ((i : Int) + 1) old := r2
  show wpAny _ _ (setField (.ref e) 4 .none >>= _) _ _ { s with heap := g2, toks := s.toks + 1 }
  refine wpAny_bind (wpAny_setField_rec r2 (by simp) fun g3 r3 b3 => ?_)
  replace r3 : IsEnum g3 e it ((i : Int) + 1) old := r3
  show wpAny _ _ (newTuple [.int i s.toks, x] >>= _) _ _ { s with heap := g3, toks := s.toks + 1 }
  refine wpAny_bind (wpAny_newTuple ?_)
  have r4 : IsEnum (g3.push { cls := .type "tuple", data := .seq #[.int i s.toks, x] }) e it ((i : Int) + 1) old := Heap.get?_push_of_some _ r3
  have T4 : (g3.push { cls := .type "tuple", data := .seq #[.int i s.toks, x] }).get? g3.objs.size = some { cls := .type "tuple", data := .seq #[.int i s.toks, x] } := Heap.get?_push_size _ rfl
  have p3 : st g3 (i + 1) := k1 b3 (k1 b2 p1)
  have up3 : ∀ c o, c ≠ e → c ≠ it → s.heap.get? c = some o → g3.get? c = some o := fun c o c1 c2 q => b3.extBut _ _ c1 (b2.extBut _ _ c1 (b1.extBut _ _ c2 q))
  have lt : e < g3.objs.size := Heap.lt_size r3
  have sz : g3.objs.size = s.heap.objs.size := by rw [b3.1, b2.1, b1.1]
  show wpAny _ _ (Builtin.SmallTypes.ownedTupleIsFree (.ref e) >>= _) _ _ { s with heap := g3.push { cls := .type "tuple", data := .seq #[.int i s.toks, x] }, toks := s.toks + 1 }
  have p4 : ∀ c o, g3.get? c = some o → (g3.push { cls := .type "tuple", data := .seq #[.int i s.toks, x] }).get? c = some o := fun c o q => Heap.get?_push_of_some _ q
  generalize (g3.push { cls := .type "tuple", data := .seq #[.int i s.toks, x] }) = g4 at *
  refine wpAny_bind ?_
  unfold
    Builtin.SmallTypes.ownedTupleIsFree
  refine wpAny_bind (wpAny_field r4 rfl (x := .none) rfl (wpAny_pure ?_))
  simp only [if_true]
  refine wpAny_bind (wpAny_rule ?_)
  refine wpAny_bind (wpAny_field r4 rfl (x := old) rfl ?_)
  refine wpAny_bind (wpAny_setField_rec r4 (by simp) fun g5 r5 b5 => ?_)
  replace r5 : IsEnum g5 e it ((i : Int) + 1) x := r5
  show wpAny _ _ (Builtin.SmallTypes.ownedTupleHandOut (.ref e) (.ref g3.objs.size) >>= _) _ _ { s with heap := g5, toks := s.toks + 1 }
  refine wpAny_bind ?_
  unfold
    Builtin.SmallTypes.ownedTupleHandOut
  refine wpAny_bind (wpAny_setField_rec r5 (by simp) fun g6 r6 b6 => ?_)
  replace r6 : IsEnumOut g6 e it ((i : Int) + 1) x g3.objs.size := r6
  refine wpAny_setField_rec r6 (by simp) fun g7 r7 b7 => ?_
  replace r7 : IsEnumOut g7 e it ((i : Int) + 1) x g3.objs.size := r7
  have up : ∀ c o, c ≠ e → g4.get? c = some o → g7.get? c = some o := fun c o c1 q => b7.extBut _ _ c1 (b6.extBut _ _ c1 (b5.extBut _ _ c1 q))
  rw [sz] at r7 T4 lt
  refine wpAny_bind (wpAny_letGo (wpAny_pure ⟨_, rfl, ?_⟩))
  rw [sz]
  exact hQ g7 r7 (k1 b7 (k1 b6 (k1 b5 (F1.keep (fun d _ o q => p4 d o q) p3)))) (up _ _ (Nat.ne_of_gt lt) T4) fun c o c1 c2 q => up c o c1 (p4 c o (up3 c o c1 c2 q))
theorem py_fenum {Q : Option Value → Shared → Prop} (F1 : Fed prog w it l xs st) (ne : e ≠ it) (nl : l ≠ e) (r0 : IsEnum s.heap e it i old) (h1 : st s.heap i) (hx : xs[i]? = some x)
    (hQ : ∀ g, IsEnumOut g e it ((i : Int) + 1) x s.heap.objs.size → st g (i + 1) → g.get? s.heap.objs.size = some { cls := .type "tuple", data := .seq #[.int i s.toks, x] } → Ek e it s.heap g → Q (some (.ref s.heap.objs.size)) { s with heap := g, toks := s.toks + 1 }) :
    wpAny (model prog w) A (pyNext (.ref e)) Q E s := by
  have ty : s.TypeIs (.ref e) "enumerate" := ⟨_, r0, rfl⟩
  unfold pyNext
  refine wpAny_bind (wpAny_attempt (wpAny_callSpecial?_slot (name := Str.ofString "__next__") ty F.slot_enumerate_next ?_))
  refine wpAny_call_entry F.slot_enumerate_next ty F.entry_enumerate_next ?_ (F.args_enumerate_next_1 _)
  exact fenum_next F1 ne nl r0 h1 hx fun g a1 a2 a3 a4 => wpAny_pure (hQ g a1 a2 a3 a4)
theorem py_fenum_end {Q : Option Value → Shared → Prop} (hh : A.handled = none) (F1 : Fed prog w it l xs st) (r0 : IsEnum s.heap e it i old) (h1 : st s.heap i) (hx : xs[i]? = none)
    (hQ : ∀ g, Heap.ExtBut it s.heap g → Q none { s with heap := g }) : wpAny (model prog w) A (pyNext (.ref e)) Q E s := by
  have ty : s.TypeIs (.ref e) "enumerate" := ⟨_, r0, rfl⟩
  unfold pyNext
  refine wpAny_bind (wpAny_attempt (wpAny_callSpecial?_slot (name := Str.ofString "__next__") ty F.slot_enumerate_next ?_))
  refine wpAny_call_entry F.slot_enumerate_next ty F.entry_enumerate_next ?_ (F.args_enumerate_next_1 _)
  show wpAny _ _ (field (.ref e) 2 >>= _) _ _ s
  refine wpAny_bind (wpAny_field r0 rfl (x := .ref it) rfl ?_)
  refine wpAny_bind (F1.fin hh h1 hx fun g y b ex => ?_)
  obtain ⟨o, ho, hc⟩ := ex
  refine wpAny_bind (wpAny_isInstance (T := "StopIteration") (b := true) ⟨o, ho, hc⟩ isSubtype_stop ?_)
  exact wpAny_pure (hQ g b)
end
abbrev ent1 (h : Heap) (t : Addr) : Heap := h.push { cls := .type "tuple_iterator", data := .fields #[.ref t, .int 0 0] }
abbrev ent2 (h : Heap) (t : Addr) : Heap := (ent1 h t).push { cls := .type "enumerate", data := .fields #[.none, .bool false, .ref h.objs.size, rawInt 0, .none, .none] }
theorem meets_ent (t : Addr) (ys : Array Value) :
    Meets (Builtin.«enumerate.__new__» ⟨[.type "enumerate", .ref t], []⟩) (fun _ R s => s.heap.IsTuple t ys ∧ R (.ok (.ret (.ref (ent1 s.heap t).objs.size))) { s with heap := ent2 s.heap t }) :=
  .of_wp fun prog w A R s h => by
    obtain ⟨hp, g, d, tk, os⟩ := s
    obtain ⟨q1, h⟩ := h
    have hsub := sub_enumerate
    have hB : Heap.IsTuple (Shared.heap ⟨hp, g, d, tk, os⟩) t ys := q1
    obtain ⟨ob, hob, hrest⟩ := id q1
    wp_walk using AutoSeq1.wpAny_loadPart' hob
    refine wpAny_stack_any fun sk => wpAny_pure ?_
    split
    · rename_i c _ _ _ _ _
      cases (c == Value.type "enumerate")
      · wp_walk using AutoSeq1.wpAny_loadPart' hob, wpAny_pyIter_tuple hB
        exact ⟨_, rfl, h⟩
      · wp_walk using AutoSeq1.wpAny_loadPart' hob, wpAny_pyIter_tuple hB
        exact ⟨_, rfl, h⟩
    · wp_walk using AutoSeq1.wpAny_loadPart' hob, wpAny_pyIter_tuple hB
      exact ⟨_, rfl, h⟩
section
variable {prog : Program} {w : World} {A : Around} {E : Value → Shared → Prop} {s : Shared}
theorem call_ent {t : Addr} {ys : Array Value} {Q : Value → Shared → Prop} (q1 : s.heap.IsTuple t ys)
    (h : ∀ g, IsEnum g (s.heap.objs.size + 1) s.heap.objs.size 0 .none → g.IsTupleIter s.heap.objs.size t 0 → (∀ c o, s.heap.get? c = some o → g.get? c = some o) → Q (.ref (s.heap.objs.size + 1)) { s with heap := g }) :
    wpAny (model prog w) A (call (.type "enumerate") [.ref t]) Q E s := by
  have made := meets_ent t ys
  refine callType_new F.called_enumerate (by decide) (F.typeCall_enumerate_1 _) (F.newCall_enumerate_1 _) (fun obj => F.args_object_init_2 obj _) F.entry_enumerate_new made ⟨q1, ?_⟩
  have e1 : (ent1 s.heap t).objs.size = s.heap.objs.size + 1 := Heap.size_push ..
  have p2 : (ent2 s.heap t).get? (ent1 s.heap t).objs.size = some _ := Heap.get?_push_size _ rfl
  have p1 : (ent2 s.heap t).get? s.heap.objs.size = some _ := Heap.get?_push_of_some _ (Heap.get?_push_size _ rfl)
  show _ ∧ _
  rw [e1] at p2
  rw [e1]
  exact ⟨⟨_, p2, rfl⟩, h _ p2 ⟨_, p1, rfl, rfl⟩ fun c o q => Heap.get?_push_of_some _ (Heap.get?_push_of_some _ q)⟩
end
/-- the tuple at a, each item in a new pair -/
def IteT (K : PySem.W.Frag) (a : Addr) : It :=
  ⟨fun i H => ∃ (ys : List V) (y : V), SqT K H a ys ∧ ys[i]? = some y, fun i H v H' => ∃ T y, v = .ref T ∧ H T = none ∧ H' = upd H T (.tup [.int (i : Nat), y]) ∧ ∀ ys, SqT K H a ys → ys[i]? = some y, fun i H => ∃ ys : List V, SqT K H a ys ∧ ys.length ≤ i⟩
theorem turn_enumT {P : Program} {w : World} {K : PySem.W.Frag} {elts : List Expr} {kk : Nat} {tpos : Pos} {a e it : Addr} (n1 : a ≠ e) (n2 : a ≠ it) (n3 : e ≠ it) :
    L2.Turn P w K (.Tuple elts kk tpos) (IteT K a) [e, it] e (fun i h => (∃ old, IsEnum h e it ((i : Nat) : Int) old) ∧ h.IsTupleIter it a i) where
  mem := List.mem_cons_self
  obj := fun i h st c hc => by
    obtain ⟨⟨old, w1⟩, ⟨o1, u1, _, v1⟩⟩ := st
    rcases (show c = e ∨ c = it by simpa using hc) with rfl | rfl
    · exact ⟨_, w1, fun v => nofun⟩
    · exact ⟨o1, u1, fun v q => by rw [v1] at q; exact nomatch q⟩
  keep := fun i h g st k => by
    obtain ⟨⟨old, w1⟩, w2⟩ := st
    exact ⟨⟨old, k _ (by simp) _ w1⟩, w2.at (k _ (by simp))⟩
  item := by
    intro X rP rw' rK calm i pins s σ H E I hf st hg
    subst rP rw' rK
    obtain ⟨⟨old, w1⟩, w2⟩ := st
    obtain ⟨ys, y, qy, hy⟩ := hg
    obtain ⟨vs, rv, pv, _⟩ := I.tuple qy
    obtain ⟨u, hu, ru⟩ := rv.get hy
    have elt : e < s.heap.objs.size := Heap.lt_size w1
    refine py_fenum (fed_tuple n2) n3 n1 w1 ⟨w2, pv⟩ (x := u) (by simpa using hu) fun g out f1 TT kk => ?_
    refine ⟨_, rfl, wpAny_letOwnedTupleGo_enum (s := { s with heap := g, toks := s.toks + 1 }) out fun g' e' sb => ?_⟩
    have T2 : g'.get? s.heap.objs.size = some { cls := .type "tuple", data := .seq #[.int i s.toks, u] } := (sb.2 _ (Nat.ne_of_gt elt)).trans TT
    have new : ObjOk X.prog X.w (upd H s.heap.objs.size (.tup [.int (i : Nat), y])) g' s.heap.objs.size (.tup [.int (i : Nat), y]) := ⟨by show 2 ≤ sizeLine; decide, [.int i s.toks, u], .cons ⟨_, rfl⟩ (.cons ru .nil), ⟨_, T2, rfl, _, rfl⟩⟩
    have outs : ∀ c o, c ∉ [e, it] → s.heap.get? c = some o → g'.get? c = some o := fun c o nb q => by
      have m1 : c ≠ e := fun q' => nb (by simp [q'])
      have m2 : c ≠ it := fun q' => nb (by simp [q'])
      exact (sb.2 c m1).trans (kk c o m1 m2 q)
    have I1 : Inv X pins σ (upd H s.heap.objs.size (.tup [.int (i : Nat), y])) { s with heap := g', toks := s.toks + 1 } := I.turnedNew (ch := [e, it]) (fun c o hb q => outs c o hb q) hf (Nat.le_refl _) new
    refine ⟨.ref s.heap.objs.size, _, I1, rfl, ⟨_, y, rfl, I.hok.fresh (Nat.le_refl _), rfl, fun l hl => by rw [I.tuple_inj hl qy]; exact hy⟩, ⟨⟨u, ?_⟩, ?_⟩, fun c hc => ?_⟩
    · rw [show ((i + 1 : Nat) : Int) = (i : Int) + 1 by omega]
      exact e'
    · exact f1.1.at fun o q => (sb.2 _ n3.symm).trans q
    · have lt : c < s.heap.objs.size := by
        rcases (show c = e ∨ c = it by simpa using hc) with rfl | rfl
        · exact elt
        · obtain ⟨_, q, _⟩ := w2; exact Heap.lt_size q
      rw [upd_ne (Nat.ne_of_lt lt)]
      exact (hf c hc).1
  done := by
    intro X rP rw' rK calm i pins s σ H E I hf st hg
    subst rP rw' rK
    obtain ⟨⟨old, w1⟩, w2⟩ := st
    obtain ⟨ys, qy, hend⟩ := hg
    obtain ⟨vs, rv, pv, _⟩ := I.tuple qy
    have m1 := rv.length
    obtain ⟨f0, f1, f2, f3, f4, f5⟩ := hf it (by simp)
    exact py_fenum_end (I.ok.hd calm) (fed_tuple n2) w1 ⟨w2, pv⟩ (by simp; omega) fun g eb => ⟨rfl, I.turned (t' := s.toks) (fun b o hb q => eb b o hb q) f0 f1 f3 f4 f5⟩
  self := fun A i s Q E st h => let ⟨⟨_, w1⟩, _⟩ := st; wpAny_pyIter_enum w1 h
def iEnumT (K : PySem.W.Frag) (ta : TA) : TI := fun σ H R => ta σ H fun vs H1 => ∃ a ys, vs = [.ref a] ∧ SqT K H1 a ys ∧ R (IteT K a) H1
theorem pi_enumT {X : Cx} {e : Expr} {ta : TA} {p pos tpos : Pos} {elts : List Expr} {kk : Nat} (hg : Gl X "enumerate") (hm : X.mg "enumerate" = none) (ha : PA X [e] ta) (hs : starEach [e] X.env = [(false, eval e X.env)] := by rfl) :
    PI X (.Tuple elts kk tpos) (.Call (.Name "enumerate" p) [e] [] pos) (iEnumT X.K ta) := by
  refine ⟨fun pins s σ H R I h => ?_⟩
  have args := ha.run pos pins s σ H _ I h
  refine Call_ (ld_blt I hg hm boot_enumerate (PyProof.Rows.callWith_type1 (thn args fun us s1 ⟨vs, H1, I1, r1, q1⟩ => ?_) hs rfl))
  obtain ⟨a, ys, rfl, qy, q⟩ := q1
  obtain ⟨u1, rfl, ra⟩ : ∃ u, us = [u] ∧ RelV (.ref a) u := by
    cases r1 with
    | cons r rr =>
      cases rr
      exact ⟨_, rfl, r⟩
  cases ra
  obtain ⟨its, rv, p1, _⟩ := I1.tuple qy
  have la : a < s1.heap.objs.size := by
    obtain ⟨o, q', _⟩ := p1
    exact Heap.lt_size q'
  refine call_ent p1 fun g g1 g2 kk => wpAny_pyIter_enum g1 ?_
  have I2 : Inv X pins σ H1 { s1 with heap := g } := I1.kept (t' := s1.toks) kk
  refine ⟨s1.heap.objs.size + 1, [s1.heap.objs.size + 1, s1.heap.objs.size], _, _, H1, rfl, I2, turn_enumT (a := a) (Nat.ne_of_lt (Nat.lt_succ_of_lt la)) (Nat.ne_of_lt la) (Nat.succ_ne_self _), ⟨⟨.none, g1⟩, g2⟩, fun c hc => ?_, q⟩
  have le : s1.heap.objs.size ≤ c := by
    rcases (show c = s1.heap.objs.size + 1 ∨ c = s1.heap.objs.size by simpa using hc) with rfl | rfl <;> omega
  exact I1.fpOk le (I1.hok.fresh le)
theorem go_iEnumT {K : PySem.W.Frag} {σ : L2.St} {H : Hp} {ta : TA} {R : It → Hp → Prop} (h : ta σ H fun vs H1 => ∃ a ys, vs = [.ref a] ∧ SqT K H1 a ys ∧ R (IteT K a) H1) : iEnumT K ta σ H R := h
/-- for (i, x) in enumerate(a tuple), behind the reading -/
theorem foEnT {K : PySem.W.Frag} {σ : L2.St} {H1 : Hp} {g : TG} {D : Ends} {tb : TS} {a : Addr} (xs : List V) (Pv : Nat → L2.St → Hp → Prop) (h0 : Pv 0 σ H1) (hl : ∀ i σ H, i ≤ xs.length → Pv i σ H → SqT K H a xs)
    (hs : ∀ (i : Nat) x T σ H, xs[i]? = some x → Pv i σ H → H T = none → g (.ref T) σ (upd H T (.tup [.int (i : Nat), x])) fun σ2 H2 => tb { D with nx := Pv (i + 1), ct := Pv (i + 1), bk := D.nx } σ2 H2)
    (hd : ∀ σ H, Pv xs.length σ H → D.nx σ H) :
    ∃ W : Nat → Nat → L2.St → Hp → Prop, (∃ m, W 0 m σ H1) ∧ ∀ i m σ H, W i m σ H →
      ((IteT K a).stop i H ∧ D.nx σ H) ∨ ((IteT K a).go i H ∧ ∃ N : L2.St → Hp → Prop, (∀ σ' H', N σ' H' → ∃ m', m' < m ∧ W (i + 1) m' σ' H') ∧ ∀ x H', (IteT K a).yld i H x H' → g x σ H' fun σ2 H2 => tb { D with nx := N, ct := N, bk := D.nx } σ2 H2) := by
  refine ⟨fun i m σ H => i ≤ xs.length ∧ m + i = xs.length ∧ Pv i σ H, ⟨xs.length, Nat.zero_le _, rfl, h0⟩, ?_⟩
  rintro i m σ H ⟨hi, hm, hp⟩
  have here := hl i σ H hi hp
  rcases Nat.lt_or_ge i xs.length with h | h
  · refine .inr ⟨⟨xs, xs[i], here, List.getElem?_eq_getElem h⟩, Pv (i + 1), fun σ' H' hp' => ⟨m - 1, by omega, by omega, by omega, hp'⟩, ?_⟩
    rintro x H' ⟨T, y, rfl, hT, rfl, at_⟩
    exact hs i y T σ H (at_ xs here) hp hT
  · obtain rfl : i = xs.length := by omega
    exact .inl ⟨⟨xs, here, Nat.le_refl _⟩, hd σ H hp⟩
end Gx

set_option Elab.async false
set_option linter.all false
set_option maxRecDepth 100000
set_option maxHeartbeats 4000000
/-! Own lemmas: dict(a list of pairs), the keys nested tuples, no key twice. -/
namespace Gx
open PySem PySem.Spec PyProof.Rows L2
theorem stored_all {K : Type} [DecidableEq K] : ∀ (ps acc : List (K × Addr × Value)), ((acc ++ ps).map (·.1)).Nodup → storedAllH acc ps = acc ++ ps
  | [], acc, _ => (List.append_nil acc).symm
  | p :: ps, acc, h => by
    have hn : atKey acc p.1 = none := by
      unfold atKey
      have : acc.find? (fun x => decide (x.1 = p.1)) = none := by
        refine List.find?_eq_none.mpr fun x hx e => ?_
        have e := of_decide_eq_true e
        rw [List.map_append, List.map_cons] at h
        have := (List.nodup_append.mp h).2.2 x.1 (List.mem_map.mpr ⟨x, hx, rfl⟩) p.1 List.mem_cons_self
        exact this e
      rw [this]
      rfl
    have e : storedAllH acc (p :: ps) = storedAllH (storedH acc p.1 p.2.1 p.2.2) ps := rfl
    rw [e, storedH_new hn, stored_all ps (acc ++ [(p.1, p.2.1, p.2.2)]) (by rw [List.append_assoc]; exact h), List.append_assoc]
    rfl
def rowsV (vf : Nat → Value) (xs : List NRow) (k : Nat) : List (NestedKey × Addr × Value) := (xs.zipIdx k).map fun p => (keyD p.1.1, p.1.2.1, vf p.2)
theorem rowsV_at {vf : Nat → Value} {xs : List NRow} {i : Nat} {x : NRow} (h : xs[i]? = some x) : (rowsV vf xs 0)[i]? = some (keyD x.1, x.2.1, vf i) := by
  unfold rowsV
  rw [List.getElem?_map, List.getElem?_zipIdx, h]
  simp
theorem rowsV_len {vf : Nat → Value} {xs : List NRow} : (rowsV vf xs 0).length = xs.length := by
  unfold rowsV
  rw [List.length_map, List.length_zipIdx]
theorem rowsV_rel {vf : Nat → Value} : ∀ {xs : List NRow} {k : Nat}, (∀ (i : Nat) x, xs[i]? = some x → RelV x.2.2 (vf (k + i))) → Paired NRel xs (rowsV vf xs k)
  | [], _, _ => .nil
  | x :: xs, k, h => by
    refine .cons ⟨rfl, rfl, h 0 x rfl⟩ (rowsV_rel (k := k + 1) fun i y hy => ?_)
    have := h (i + 1) y (by simpa using hy)
    rw [show k + 1 + i = k + (i + 1) by omega]
    exact this
theorem rowsV_keys {vf : Nat → Value} : ∀ {xs : List NRow} {k : Nat}, (rowsV vf xs k).map (·.1) = xs.map fun x => keyD x.1
  | [], _ => rfl
  | x :: xs, k => by
    have ih := rowsV_keys (vf := vf) (xs := xs) (k := k + 1)
    show keyD x.1 :: (rowsV vf xs (k + 1)).map (·.1) = keyD x.1 :: xs.map fun x => keyD x.1
    rw [ih]
def qDictN (P : Program) (w : World) (K : PySem.W.Frag) : List V → Hp → VK → Prop := fun vs H Q => ∃ (l : Addr) (zs : List V) (xs : List NRow), vs = [.ref l] ∧ SqL K H l zs ∧ zs.length = xs.length ∧
  (∀ (i : Nat) z x, zs[i]? = some z → xs[i]? = some x → ∃ t, z = .ref t ∧ SqT K H t [.ref x.2.1, x.2.2]) ∧ NKeys K H xs ∧ (xs.map fun x => keyD x.1).Nodup ∧ xs.length ≤ 100000 ∧ ∀ d, H d = none → Q (.ref d) (upd H d (ndO P w d xs))
theorem call_dictN {X : Cx} (hc : X.calm = true) (hu : X.A.units + 10 < cLine) : CallR X (.type "dict") (qDictN X.prog X.w X.K) := by
  intro pins s σ H vs us Q I r h
  obtain ⟨l, zs, xs, rfl, hl, hlen, hz, hk, hnd, hsz, q⟩ := h
  obtain ⟨u, rfl, rx⟩ := vals1 r
  cases rx
  obtain ⟨its, rv, p1, _⟩ := I.list hl
  have hil := rv.length
  have pick : ∀ i : Nat, ∃ (t : Addr) (v : Value), ∀ x, xs[i]? = some x → its[i]? = some (.ref t) ∧ s.heap.IsTuple t #[.ref x.2.1, v] ∧ RelV x.2.2 v := fun i => by
    cases ex : xs[i]? with
    | none => exact ⟨0, .none, fun x h => by cases h⟩
    | some x =>
      obtain ⟨z, ez⟩ : ∃ z, zs[i]? = some z := ⟨_, List.getElem?_eq_getElem (by have := (List.getElem?_eq_some_iff.mp ex).1; omega)⟩
      obtain ⟨t, rfl, ht⟩ := hz i z x ez ex
      obtain ⟨u, hu2, ru⟩ := rv.get ez
      cases ru
      obtain ⟨vs2, rv2, pt, _⟩ := I.tuple ht
      obtain ⟨u1, u2, rfl, ra, rb⟩ := vals2 rv2
      cases ra
      exact ⟨t, u2, fun y hy => by cases hy; exact ⟨hu2, pt, rb⟩⟩
  obtain ⟨Ts, pick⟩ := Classical.axiomOfChoice pick
  obtain ⟨vf, pick⟩ := Classical.axiomOfChoice pick
  have yl := rowsV_len (vf := vf) (xs := xs)
  have yrel : Paired NRel xs (rowsV vf xs 0) := rowsV_rel fun i x hx => by rw [Nat.zero_add]; exact (pick i x hx).2.2
  have ykeys := rowsV_keys (vf := vf) (xs := xs) (k := 0)
  have yat : ∀ (i : Nat) y, (rowsV vf xs 0)[i]? = some y → ∃ x, xs[i]? = some x ∧ y = (keyD x.1, x.2.1, vf i) := fun i y hy => by
    obtain ⟨x, ex⟩ : ∃ x, xs[i]? = some x := ⟨_, List.getElem?_eq_getElem (by have := (List.getElem?_eq_some_iff.mp hy).1; omega)⟩
    have := rowsV_at (vf := vf) ex
    rw [hy] at this
    exact ⟨x, ex, Option.some.inj this⟩
  generalize rowsV vf xs 0 = ys at *
  obtain ⟨pvs, hpv⟩ : ∃ pvs : List (Value × Value), pvs = ys.map fun y => (.ref y.2.1, y.2.2) := ⟨_, rfl⟩
  have pl : pvs.length = ys.length := by rw [hpv, List.length_map]
  have pat : ∀ (i : Nat) k v, pvs[i]? = some (k, v) → ∃ x, xs[i]? = some x ∧ ys[i]? = some (keyD x.1, x.2.1, vf i) ∧ k = .ref x.2.1 ∧ v = vf i := fun i k v hi => by
    rw [hpv, List.getElem?_map] at hi
    cases ey : ys[i]? with
    | none => rw [ey] at hi; cases hi
    | some y =>
      rw [ey] at hi
      obtain ⟨x, ex, rfl⟩ := yat i y ey
      cases hi
      exact ⟨x, ex, rfl, rfl, rfl⟩
  have ok : PlainSeq "list" s.heap l its.toArray ∧ PairItems s.heap its.toArray Ts pvs := by
    obtain ⟨o, n, e1, e2, e3, e4⟩ := p1
    refine ⟨⟨o, n, e1, e2, e3, e4⟩, by simp only [List.size_toArray]; omega, fun j k v hj => ?_⟩
    obtain ⟨x, ex, _, rfl, rfl⟩ := pat j k v hj
    obtain ⟨a1, a2, _⟩ := pick j x ex
    exact ⟨by simpa using a1, .inl a2⟩
  have room : (nestedKind X.prog X.w).room X.A.in1.in1 := by
    show X.A.units + 1 + 1 + 8 < cLine
    omega
  refine call_dict_pairsH (knd := nestedKind X.prog X.w) (ps := ys) (PairArg.list l its.toArray Ts pvs) (I.ok.hd hc) room ok ⟨by rw [pl], fun i k v hi => ?_⟩ (fun h' hk' y hy => ?_) (by rw [pl, yl, sizeLine_eq]; omega) fun h' tk hd' kp => ?_
  · obtain ⟨x, _, ey, rfl, rfl⟩ := pat i k v hi
    exact ⟨_, _, ey, rfl⟩
  · obtain ⟨i, hi⟩ := List.mem_iff_getElem?.mp hy
    obtain ⟨x, ex, rfl⟩ := yat i y hi
    obtain ⟨pd, dd, hd⟩ := hk x (List.mem_of_getElem? ex)
    have J : Inv X pins σ H { s with heap := h' } := I.kept (t' := s.toks) fun b o e => hk' b o (Nat.ne_of_lt (Heap.lt_size e)) (fun z => nomatch z) e
    exact ⟨dp_key J _ _ _ pd hd rfl, dd⟩
  · rw [stored_all ys [] (by rw [List.nil_append, ykeys]; exact hnd), List.nil_append] at hd'
    have nm : (s.heap.objs.size == sysModules) = false :=
       beq_eq_false_iff_ne.mpr (Nat.ne_of_gt I.big)
    obtain ⟨ob, es, ep, e1, e2, e3, e4, e5, e6⟩ := hd'
    have J := I.laid (t' := tk) (h' := h') (a := s.heap.objs.size) (o := ndO X.prog X.w s.heap.objs.size xs) (fun b o e => kp b o (fun z => nomatch z) e) (Nat.le_refl _) (ndO_ok ⟨nm, ys, yrel, ob, es, ep, e1, e2, e3, e4, e6⟩)
    exact ⟨.ref s.heap.objs.size, _, J, rfl, q _ (I.hok.fresh (Nat.le_refl _))⟩
theorem go_dictN {P : Program} {w : World} {K : PySem.W.Frag} {H : Hp} {Q : VK} {l : Addr} {zs : List V} (xs : List NRow) (hl : SqL K H l zs) (h2 : zs.length = xs.length) (h3 : ∀ (i : Nat) z x, zs[i]? = some z → xs[i]? = some x → ∃ t, z = .ref t ∧ SqT K H t [.ref x.2.1, x.2.2])
    (hk : NKeys K H xs) (hn : (xs.map fun x => keyD x.1).Nodup) (hz : xs.length ≤ 100000) (q : ∀ d, H d = none → Q (.ref d) (upd H d (ndO P w d xs))) : qDictN P w K [.ref l] H Q := ⟨l, zs, xs, rfl, hl, h2, h3, hk, hn, hz, q⟩
theorem pe_bmNK {X : Cx} {P : Program} {w : World} (hP : X.prog = P) (hw : X.w = w) {o e : Expr} {es : List Expr} {to : TE} {t : TA} {name : Str} {ap cp : Pos} {id : String} {r : V → List V → Hp → VK → Prop} (pa : PlainAttrs "dict") (slot : Slot "dict" name id) (hty : typeOf (.builtin id) = pure (.type "method_descriptor")) (hm : MtR X id r) (ho : PE X o to) (ha : PA X (e :: es) t)
    (hbase : attributeBase o name X.env (eval o X.env) = eval o X.env := by rfl)
    (hfew : ((backTo cp (starEach (e :: es) X.env)).all (fun x => !x.1) && (backToKw cp (keywordEach [] X.env)).all (fun x => x.1.isSome) && decide ((e :: es).length + ([] : List Keyword).length + (if ([] : List Keyword).isEmpty then 0 else 1) < 30)) = true := by rfl)
    (hline : (ap.endLine == cp.line) = true := by rfl) (hst : starEach (e :: es) X.env = (false, eval e X.env) :: starEach es X.env := by rfl) (hp : (backTo cp (starEach es X.env)).any (·.1) = false := by rfl) :
    PE X (.Call (.Attribute o name ap) (e :: es) [] cp) (tBMN P w r to t) := by
  subst hP hw
  exact pe_bmN pa slot hty hm ho ha hbase hfew hline hst hp
theorem mt_getNK {X : Cx} {P : Program} {w : World} {K : PySem.W.Frag} (hP : X.prog = P) (hw : X.w = w) (hK : X.K = K) (hu : X.A.units + 9 < cLine) : MtR X "dict.get" (rGetN P w K) := by
  subst hP hw hK
  exact mt_getN hu
end Gx

local macro_rules | `(tactic| walk_at "side") => `(tactic| first | decide | omega | assumption | exact Or.inl ⟨by decide, by decide⟩ | exact Or.inr ⟨by decide, by decide⟩ | exact Or.inl ⟨by omega, by omega⟩ | exact Or.inr ⟨by omega, by omega⟩ | (refine ⟨?_, ?_⟩ <;> first | decide | omega | assumption))
local macro_rules | `(tactic| walk_at "go1") => `(tactic| first
  | with_reducible refine Gx.go_seq ?_
  | with_reducible refine Gx.go_asg ?_
  | with_reducible refine Gx.go_name ?_
  | with_reducible refine Gx.go_var rfl ?_
  | with_reducible refine Gx.go_c ?_
  | with_reducible refine Gx.go_op ?_
  | with_reducible refine Gx.go_rI0 ?_
  | ((with_reducible refine Gx.go_rI ?k1 ?k2); (case k1 => walk_at "side"))
  | with_reducible refine Gx.go_test ?_
  | with_reducible refine Gx.go_if ?_
  | with_reducible refine Gx.go_cons ?_
  | with_reducible refine Gx.go_nil ?_
  | with_reducible refine Gx.go_CB ?_
  | with_reducible refine Gx.go_call ?_
  | with_reducible refine Gx.go_eqI ?_
  | with_reducible refine Gx.go_neI ?_
  | with_reducible refine Gx.go_eqS ?_
  | with_reducible refine Gx.go_neS ?_
  | with_reducible refine Gx.go_eqB ?_
  | with_reducible refine Gx.go_neB ?_
  | with_reducible refine Gx.go_eqN ?_
  | with_reducible refine Gx.ite_dt ?_
  | with_reducible refine Gx.go_ret ?_
  | with_reducible refine Gx.go_retN ?_
  | with_reducible refine Gx.go_next ?_
  | with_reducible refine Gx.go_drop ?_
  | with_reducible refine Gx.go_un ?_
  | with_reducible refine Gx.go_rU ?_
  | with_reducible refine Gx.go_and ?_
  | with_reducible refine Gx.go_or ?_
  | with_reducible refine Gx.go_not ?_
  | with_reducible refine Gx.go_andV ?_
  | with_reducible refine Gx.go_orV ?_
  | with_reducible refine Gx.go_notV ?_
  | with_reducible refine Gx.go_blA ?_
  | with_reducible refine L2.iteT ?_
  | with_reducible refine L2.iteF ?_
  | with_reducible refine Gx.ite_nt ?_
  | with_reducible refine Gx.ite_nf ?_
  | with_reducible refine Gx.go_ifE ?_
  | with_reducible refine Gx.go_chain ?_
  | with_reducible refine Gx.go_B ?_
  | with_reducible refine Gx.go_int1 ?_
  | with_reducible refine Gx.go_intB ?_
  | with_reducible refine Gx.go_lst ?_
  | with_reducible refine Gx.go_tup ?_
  | with_reducible refine Gx.go_sl ?_
  | with_reducible refine Gx.go_noPart ?_
  | with_reducible refine Gx.go_part ?_
  | with_reducible refine Gx.go_partI ?_
  | with_reducible refine Gx.isi_int_int ?_
  | with_reducible refine Gx.isi_int_bool ?_
  | with_reducible refine Gx.isi_int_str ?_
  | with_reducible refine Gx.isi_int_list ?_
  | with_reducible refine Gx.isi_int_tuple ?_
  | with_reducible refine Gx.isi_bool_int ?_
  | with_reducible refine Gx.isi_bool_bool ?_
  | with_reducible refine Gx.isi_bool_str ?_
  | with_reducible refine Gx.isi_bool_list ?_
  | with_reducible refine Gx.isi_bool_tuple ?_
  | with_reducible refine Gx.isi_str_int ?_
  | with_reducible refine Gx.isi_str_bool ?_
  | with_reducible refine Gx.isi_str_str ?_
  | with_reducible refine Gx.isi_str_list ?_
  | with_reducible refine Gx.isi_str_tuple ?_
  | with_reducible refine Gx.isi_NoneType_int ?_
  | with_reducible refine Gx.isi_NoneType_bool ?_
  | with_reducible refine Gx.isi_NoneType_str ?_
  | with_reducible refine Gx.isi_NoneType_list ?_
  | with_reducible refine Gx.isi_NoneType_tuple ?_
  | with_reducible refine Gx.go_bool1 ?_
  | with_reducible refine Gx.go_boolB ?_
  | with_reducible refine Gx.go_abs ?_
  | with_reducible refine Gx.go_max2 ?_
  | with_reducible refine Gx.go_min2 ?_
  | with_reducible refine Gx.go_ord ?_
  | with_reducible refine Gx.go_isN0 ?_
  | with_reducible refine Gx.go_isNI ?_
  | with_reducible refine Gx.go_isNS ?_
  | with_reducible refine Gx.go_isNB ?_
  | with_reducible refine Gx.go_isNR ?_
  | with_reducible refine Gx.go_notN0 ?_
  | with_reducible refine Gx.go_notNI ?_
  | with_reducible refine Gx.go_notNS ?_
  | with_reducible refine Gx.go_notNB ?_
  | with_reducible refine Gx.go_notNR ?_
  | with_reducible refine Gx.go_ltS ?_
  | with_reducible refine Gx.go_leS ?_
  | with_reducible refine Gx.go_BM ?_
  | with_reducible refine Gx.go_BM0 ?_
  | with_reducible refine Gx.go_not_t ?_
  | with_reducible refine Gx.go_not_f ?_
  | with_reducible refine Gx.go_iList ?_
  | with_reducible refine Gx.go_iRng1 ?_
  | with_reducible refine Gx.go_iRng2 ?_
  | with_reducible refine Gx.go_lc ?_
  | with_reducible refine Gx.go_for ?_
  | with_reducible refine Gx.go_sub ?_
  | with_reducible refine Gx.go_setL2 (by with_unfolding_all rfl) ?_
  | with_reducible refine Gx.go_ixL2 (by with_unfolding_all rfl) ?_
  | with_reducible refine Gx.go_setL (by assumption) (by with_unfolding_all rfl) ?_
  | with_reducible refine Gx.go_ixL1 (by assumption) (by with_unfolding_all rfl) ?_
  | with_reducible refine Gx.go_ixT1 (by assumption) (by with_unfolding_all rfl) ?_
  | with_reducible refine Gx.go_M1 ?_
  | with_reducible refine Gx.go_M0 ?_
  | with_reducible refine Gx.go_isS ?_
  | with_reducible refine Gx.go_iStr ?_
  | with_reducible refine Gx.sq_list_int (by assumption) ?_
  | with_reducible refine Gx.sq_list_bool (by assumption) ?_
  | with_reducible refine Gx.sq_list_str (by assumption) ?_
  | with_reducible refine Gx.sq_list_list (by assumption) ?_
  | with_reducible refine Gx.sq_list_tuple (by assumption) ?_
  | with_reducible refine Gx.sq_tuple_int (by assumption) ?_
  | with_reducible refine Gx.sq_tuple_bool (by assumption) ?_
  | with_reducible refine Gx.sq_tuple_str (by assumption) ?_
  | with_reducible refine Gx.sq_tuple_list (by assumption) ?_
  | with_reducible refine Gx.sq_tuple_tuple (by assumption) ?_
  | with_reducible refine Gx.go_fld ?_
  | with_reducible refine Gx.go_rnum (by assumption) (by assumption) (by assumption) ?_
  | with_reducible refine Gx.go_rden (by assumption) (by assumption) (by assumption) ?_
  | with_reducible refine Gx.go_make ?_
  | with_reducible refine Gx.go_meth ?_
  | with_reducible refine Gx.go_sfld ?_
  | with_reducible refine Gx.go_own (by assumption) (by assumption) ?_
  | with_reducible refine Gx.go_uOwn (by assumption) ?_
  | with_reducible refine Gx.go_gcons ?_
  | with_reducible refine Gx.go_gnil ?_
  | with_reducible refine Gx.go_brk ?_
  | with_reducible refine Gx.go_cont ?_)
local macro_rules | `(tactic| walk_at "go") => `(tactic| repeat walk_at "go1")
local macro_rules | `(tactic| walk_at "br") => `(tactic| first
  | with_reducible refine Gx.ite_d ?_ ?_
  | with_reducible refine Gx.ite_nd ?_ ?_
  | with_reducible refine Gx.ite_b ?_ ?_)
local macro_rules | `(tactic| walk_at "go1") => `(tactic| first
  | with_reducible refine Gx.go_iRng3 ?_
  | with_reducible refine Gx.go_revL ?_)
local macro_rules | `(tactic| walk_at "go1") => `(tactic| first
  | with_reducible refine Gx.go_raise ?_
  | with_reducible refine Gx.go_callSD ?_
  | with_reducible refine Gx.go_methSD ?_
  | with_reducible refine Gx.go_makeSD ?_
  | with_reducible refine Gx.go_xf ?_)
local macro_rules | `(tactic| walk_at "go1") => `(tactic| first
  | with_reducible refine Gx.go_dnewN ?_)
local macro_rules | `(tactic| walk_at "go1") => `(tactic| first
  | with_reducible refine Gx.go_iTp ?_)
local macro_rules | `(tactic| walk_at "go1") => `(tactic| first
  | with_reducible refine Gx.go_iZipM ?_)
local macro_rules | `(tactic| walk_at "go1") => `(tactic| first
  | with_reducible refine Gx.go_iEnumT ?_)
namespace K42
open PySem PySem.Spec PyProof.Rows L2 Gx
def top (i : Nat) : Stmt := PySem.Challenge.pw_sureplay_k42_pure_and_even_plans.main.body.getD i (.Pass ⟨0, 0, 0, 0⟩)
abbrev s_common : Stmt := top 7
abbrev s_are_lots : Stmt := top 8
abbrev s_Ratio___init__ : Stmt := inClass (top 10) 0
abbrev s_Ratio___eq__ : Stmt := inClass (top 10) 1
abbrev s_End___init__ : Stmt := inClass (top 12) 0
abbrev s_Lot___init__ : Stmt := inClass (top 13) 0
abbrev s_Turn___init__ : Stmt := inClass (top 14) 0
abbrev s__collect : Stmt := top 16
abbrev s_views_of : Stmt := top 17
abbrev s_Plan___init__ : Stmt := inClass (top 19) 0
abbrev s_Plan_entries : Stmt := inClass (top 19) 2
abbrev s_pure : Stmt := top 20
abbrev s_even : Stmt := top 21
abbrev s_fits : Stmt := top 22
abbrev s__law_cell : Stmt := top 24
abbrev s__law_row : Stmt := top 26
abbrev s__law_stages : Stmt := top 27
abbrev s__law_paths : Stmt := top 28
abbrev s__law_view : Stmt := top 29
abbrev s__law_asked : Stmt := top 30
abbrev s__law_met : Stmt := top 31
abbrev s__law_node : Stmt := top 32
abbrev s__law_plans : Stmt := top 33
abbrev s_law : Stmt := top 34
/-- where the defs and classes stand -/
structure Ad where
  f_common : Addr
  d_common : FuncData
  f_are_lots : Addr
  d_are_lots : FuncData
  f_Ratio___init__ : Addr
  d_Ratio___init__ : FuncData
  f_Ratio___eq__ : Addr
  d_Ratio___eq__ : FuncData
  f_End___init__ : Addr
  d_End___init__ : FuncData
  f_Lot___init__ : Addr
  d_Lot___init__ : FuncData
  f_Turn___init__ : Addr
  d_Turn___init__ : FuncData
  f__collect : Addr
  d__collect : FuncData
  f_views_of : Addr
  d_views_of : FuncData
  f_Plan___init__ : Addr
  d_Plan___init__ : FuncData
  f_Plan_entries : Addr
  d_Plan_entries : FuncData
  f_pure : Addr
  d_pure : FuncData
  f_even : Addr
  d_even : FuncData
  f_fits : Addr
  d_fits : FuncData
  f__law_cell : Addr
  d__law_cell : FuncData
  f__law_row : Addr
  d__law_row : FuncData
  f__law_stages : Addr
  d__law_stages : FuncData
  f__law_paths : Addr
  d__law_paths : FuncData
  f__law_view : Addr
  d__law_view : FuncData
  f__law_asked : Addr
  d__law_asked : FuncData
  f__law_met : Addr
  d__law_met : FuncData
  f__law_node : Addr
  d__law_node : FuncData
  f__law_plans : Addr
  d__law_plans : FuncData
  f_law : Addr
  d_law : FuncData
  c_Ratio : Addr
  c_End : Addr
  c_Lot : Addr
  c_Turn : Addr
  c_Plan : Addr
  c_BadPlan : Addr
  i_BadPlan : Addr
/-- what the top has left -/
structure Txt (P : Program) (K : PySem.W.Frag) (mg : Str → Option Value) (A : Ad) : Prop where
  F_common : Fun K "common" "common" s_common A.f_common A.d_common
  b_common : Binds K A.d_common ["ratios"] []
  m_common : mg "common" = some (.ref A.f_common)
  F_are_lots : Fun K "are_lots" "are_lots" s_are_lots A.f_are_lots A.d_are_lots
  b_are_lots : Binds K A.d_are_lots ["ratios"] []
  m_are_lots : mg "are_lots" = some (.ref A.f_are_lots)
  F_Ratio___init__ : FunD K "__init__" "Ratio.__init__" (defArgs s_Ratio___init__) (defBody s_Ratio___init__) (defScope s_Ratio___init__) [V.int 1] [] A.f_Ratio___init__ A.d_Ratio___init__
  b_Ratio___init___0 : ∃ ds, Vals [] ds ∧ Binds K A.d_Ratio___init__ ["self", "num", "den"] ds
  b_Ratio___init___1 : ∃ ds, Vals [V.int 1] ds ∧ Binds K A.d_Ratio___init__ ["self", "num", "den"] ds
  mk_Ratio : Mk K A.c_Ratio A.f_Ratio___init__
  F_Ratio___eq__ : Fun K "__eq__" "Ratio.__eq__" s_Ratio___eq__ A.f_Ratio___eq__ A.d_Ratio___eq__
  b_Ratio___eq__ : Binds K A.d_Ratio___eq__ ["self", "other"] []
  me_Ratio___eq__ : Meth K A.c_Ratio "__eq__" A.f_Ratio___eq__
  F_End___init__ : Fun K "__init__" "End.__init__" s_End___init__ A.f_End___init__ A.d_End___init__
  b_End___init__ : Binds K A.d_End___init__ ["self", "paid"] []
  mk_End : Mk K A.c_End A.f_End___init__
  F_Lot___init__ : Fun K "__init__" "Lot.__init__" s_Lot___init__ A.f_Lot___init__ A.d_Lot___init__
  b_Lot___init__ : Binds K A.d_Lot___init__ ["self", "parts"] []
  mk_Lot : Mk K A.c_Lot A.f_Lot___init__
  F_Turn___init__ : Fun K "__init__" "Turn.__init__" s_Turn___init__ A.f_Turn___init__ A.d_Turn___init__
  b_Turn___init__ : Binds K A.d_Turn___init__ ["self", "player", "view", "parts"] []
  mk_Turn : Mk K A.c_Turn A.f_Turn___init__
  F__collect : Fun K "_collect" "_collect" s__collect A.f__collect A.d__collect
  b__collect : Binds K A.d__collect ["tree", "player", "found"] []
  m__collect : mg "_collect" = some (.ref A.f__collect)
  F_views_of : Fun K "views_of" "views_of" s_views_of A.f_views_of A.d_views_of
  b_views_of : Binds K A.d_views_of ["tree", "player"] []
  m_views_of : mg "views_of" = some (.ref A.f_views_of)
  F_Plan___init__ : Fun K "__init__" "Plan.__init__" s_Plan___init__ A.f_Plan___init__ A.d_Plan___init__
  b_Plan___init__ : Binds K A.d_Plan___init__ ["self", "entries"] []
  mk_Plan : Mk K A.c_Plan A.f_Plan___init__
  F_Plan_entries : Fun K "entries" "Plan.entries" s_Plan_entries A.f_Plan_entries A.d_Plan_entries
  b_Plan_entries : Binds K A.d_Plan_entries ["self"] []
  me_Plan_entries : Meth K A.c_Plan "entries" A.f_Plan_entries
  F_pure : Fun K "pure" "pure" s_pure A.f_pure A.d_pure
  b_pure : Binds K A.d_pure ["views", "moves"] []
  m_pure : mg "pure" = some (.ref A.f_pure)
  F_even : Fun K "even" "even" s_even A.f_even A.d_even
  b_even : Binds K A.d_even ["views"] []
  m_even : mg "even" = some (.ref A.f_even)
  F_fits : Fun K "fits" "fits" s_fits A.f_fits A.d_fits
  b_fits : Binds K A.d_fits ["plan", "tree", "player"] []
  m_fits : mg "fits" = some (.ref A.f_fits)
  F__law_cell : Fun K "_law_cell" "_law_cell" s__law_cell A.f__law_cell A.d__law_cell
  b__law_cell : Binds K A.d__law_cell ["_law_script", "_law_k"] []
  m__law_cell : mg "_law_cell" = some (.ref A.f__law_cell)
  F__law_row : Fun K "_law_row" "_law_row" s__law_row A.f__law_row A.d__law_row
  b__law_row : Binds K A.d__law_row ["_law_cell_here", "_law_count", "_law_size"] []
  m__law_row : mg "_law_row" = some (.ref A.f__law_row)
  F__law_stages : Fun K "_law_stages" "_law_stages" s__law_stages A.f__law_stages A.d__law_stages
  b__law_stages : Binds K A.d__law_stages ["_law_script", "_law_most"] []
  m__law_stages : mg "_law_stages" = some (.ref A.f__law_stages)
  F__law_paths : Fun K "_law_paths" "_law_paths" s__law_paths A.f__law_paths A.d__law_paths
  b__law_paths : Binds K A.d__law_paths ["_law_stages_here"] []
  m__law_paths : mg "_law_paths" = some (.ref A.f__law_paths)
  F__law_view : Fun K "_law_view" "_law_view" s__law_view A.f__law_view A.d__law_view
  b__law_view : Binds K A.d__law_view ["_law_stages_here", "_law_path", "_law_player"] []
  m__law_view : mg "_law_view" = some (.ref A.f__law_view)
  F__law_asked : Fun K "_law_asked" "_law_asked" s__law_asked A.f__law_asked A.d__law_asked
  b__law_asked : Binds K A.d__law_asked ["_law_stages_here", "_law_path"] []
  m__law_asked : mg "_law_asked" = some (.ref A.f__law_asked)
  F__law_met : Fun K "_law_met" "_law_met" s__law_met A.f__law_met A.d__law_met
  b__law_met : Binds K A.d__law_met ["_law_stages_here", "_law_player"] []
  m__law_met : mg "_law_met" = some (.ref A.f__law_met)
  F__law_node : Fun K "_law_node" "_law_node" s__law_node A.f__law_node A.d__law_node
  b__law_node : Binds K A.d__law_node ["_law_stages_here", "_law_paid", "_law_path"] []
  m__law_node : mg "_law_node" = some (.ref A.f__law_node)
  F__law_plans : Fun K "_law_plans" "_law_plans" s__law_plans A.f__law_plans A.d__law_plans
  b__law_plans : Binds K A.d__law_plans ["_law_views", "_law_moves"] []
  m__law_plans : mg "_law_plans" = some (.ref A.f__law_plans)
  F_law : Fun K "law" "law" s_law A.f_law A.d_law
  b_law : Binds K A.d_law ["_law_script"] []
  m_law : mg "law" = some (.ref A.f_law)
  m_Ratio : mg "Ratio" = some (.ref A.c_Ratio)
  cl_Ratio : Cls K A.c_Ratio
  na_Ratio_num : NoAttr K A.c_Ratio "num"
  na_Ratio_den : NoAttr K A.c_Ratio "den"
  ic_Ratio : C8.InsC K A.c_Ratio
  m_End : mg "End" = some (.ref A.c_End)
  cl_End : Cls K A.c_End
  na_End_paid : NoAttr K A.c_End "paid"
  ic_End : C8.InsC K A.c_End
  m_Lot : mg "Lot" = some (.ref A.c_Lot)
  cl_Lot : Cls K A.c_Lot
  na_Lot_parts : NoAttr K A.c_Lot "parts"
  ic_Lot : C8.InsC K A.c_Lot
  m_Turn : mg "Turn" = some (.ref A.c_Turn)
  cl_Turn : Cls K A.c_Turn
  na_Turn_player : NoAttr K A.c_Turn "player"
  na_Turn_view : NoAttr K A.c_Turn "view"
  na_Turn_parts : NoAttr K A.c_Turn "parts"
  ic_Turn : C8.InsC K A.c_Turn
  m_Plan : mg "Plan" = some (.ref A.c_Plan)
  cl_Plan : Cls K A.c_Plan
  na_Plan_table : NoAttr K A.c_Plan "table"
  m_BadPlan : mg "BadPlan" = some (.ref A.c_BadPlan)
  er_BadPlan : ErX.ErrT P K mg A.c_BadPlan A.i_BadPlan "place" "place"
  xf_BadPlan : XfC K A.c_BadPlan
  te_BadPlan : PySem.W.exmOne K (.ref A.c_BadPlan) (.ref A.c_BadPlan) = some true
  xd_BadPlan : ExD K A.c_BadPlan
  ki_End_End : PySem.W.kitOne K (.ref A.c_End) (.ref A.c_End) = some true
  ki_End_Lot : PySem.W.kitOne K (.ref A.c_End) (.ref A.c_Lot) = some false
  ki_End_Turn : PySem.W.kitOne K (.ref A.c_End) (.ref A.c_Turn) = some false
  ki_Lot_End : PySem.W.kitOne K (.ref A.c_Lot) (.ref A.c_End) = some false
  ki_Lot_Lot : PySem.W.kitOne K (.ref A.c_Lot) (.ref A.c_Lot) = some true
  ki_Lot_Turn : PySem.W.kitOne K (.ref A.c_Lot) (.ref A.c_Turn) = some false
  ki_Turn_End : PySem.W.kitOne K (.ref A.c_Turn) (.ref A.c_End) = some false
  ki_Turn_Lot : PySem.W.kitOne K (.ref A.c_Turn) (.ref A.c_Lot) = some false
  ki_Turn_Turn : PySem.W.kitOne K (.ref A.c_Turn) (.ref A.c_Turn) = some true
  g_gcd : mg "gcd" = some (.builtin "math.gcd")
  g_lcm : mg "lcm" = some (.builtin "math.lcm")
  n_all : mg "all" = none
  n_sum : mg "sum" = none
  n_isinstance : mg "isinstance" = none
  n_str : mg "str" = none
  n_len : mg "len" = none
  n_enumerate : mg "enumerate" = none
  n_list : mg "list" = none
  n_zip : mg "zip" = none
  n_int : mg "int" = none
  n_range : mg "range" = none
  n_dict : mg "dict" = none
  n_bool : mg "bool" = none
  n_tuple : mg "tuple" = none
theorem sc_common : FnScope ["ratios", "den", "ratio"] ["ratios"] (defScope s_common) := ⟨rfl, rfl, rfl, by decide +kernel, rfl, by decide +kernel, by decide +kernel⟩
theorem sc_are_lots : FnScope ["ratios", "weights", "den", "weight"] ["ratios"] (defScope s_are_lots) := ⟨rfl, rfl, rfl, by decide +kernel, rfl, by decide +kernel, by decide +kernel⟩
theorem sc_Ratio___init__ : FnScope ["self", "num", "den", "part"] ["self", "num", "den"] (defScope s_Ratio___init__) := ⟨rfl, rfl, rfl, by decide +kernel, rfl, by decide +kernel, by decide +kernel⟩
theorem sc_Ratio___eq__ : FnScope ["self", "other"] ["self", "other"] (defScope s_Ratio___eq__) := ⟨rfl, rfl, rfl, by decide +kernel, rfl, by decide +kernel, by decide +kernel⟩
theorem sc_End___init__ : FnScope ["self", "paid"] ["self", "paid"] (defScope s_End___init__) := ⟨rfl, rfl, rfl, by decide +kernel, rfl, by decide +kernel, by decide +kernel⟩
theorem sc_Lot___init__ : FnScope ["self", "parts"] ["self", "parts"] (defScope s_Lot___init__) := ⟨rfl, rfl, rfl, by decide +kernel, rfl, by decide +kernel, by decide +kernel⟩
theorem sc_Turn___init__ : FnScope ["self", "player", "view", "parts"] ["self", "player", "view", "parts"] (defScope s_Turn___init__) := ⟨rfl, rfl, rfl, by decide +kernel, rfl, by decide +kernel, by decide +kernel⟩
theorem sc__collect : FnScope ["tree", "player", "found", "part"] ["tree", "player", "found"] (defScope s__collect) := ⟨rfl, rfl, rfl, by decide +kernel, rfl, by decide +kernel, by decide +kernel⟩
theorem sc_views_of : FnScope ["tree", "player", "found", "view", "count"] ["tree", "player"] (defScope s_views_of) := ⟨rfl, rfl, rfl, by decide +kernel, rfl, by decide +kernel, by decide +kernel⟩
theorem sc_Plan___init__ : FnScope ["self", "entries", "place", "entry", "view", "lots"] ["self", "entries"] (defScope s_Plan___init__) := ⟨rfl, rfl, rfl, by decide +kernel, rfl, by decide +kernel, by decide +kernel⟩
theorem sc_Plan_entries : FnScope ["self", "view", "lots"] ["self"] (defScope s_Plan_entries) := ⟨rfl, rfl, rfl, by decide +kernel, rfl, by decide +kernel, by decide +kernel⟩
theorem sc_pure : FnScope ["views", "moves", "entries", "view", "count", "move", "k"] ["views", "moves"] (defScope s_pure) := ⟨rfl, rfl, rfl, by decide +kernel, rfl, by decide +kernel, by decide +kernel⟩
theorem sc_even : FnScope ["views", "view", "count", "k"] ["views"] (defScope s_even) := ⟨rfl, rfl, rfl, by decide +kernel, rfl, by decide +kernel, by decide +kernel⟩
theorem sc_fits : FnScope ["plan", "tree", "player", "counts", "view", "lots"] ["plan", "tree", "player"] (defScope s_fits) := ⟨rfl, rfl, rfl, by decide +kernel, rfl, by decide +kernel, by decide +kernel⟩
theorem sc__law_cell : FnScope ["_law_script", "_law_k"] ["_law_script", "_law_k"] (defScope s__law_cell) := ⟨rfl, rfl, rfl, by decide +kernel, rfl, by decide +kernel, by decide +kernel⟩
theorem sc__law_row : FnScope ["_law_cell_here", "_law_count", "_law_size", "_law_state", "_law_row_here", "_law_k"] ["_law_cell_here", "_law_count", "_law_size"] (defScope s__law_row) := ⟨rfl, rfl, rfl, by decide +kernel, rfl, by decide +kernel, by decide +kernel⟩
theorem sc__law_stages : FnScope ["_law_script", "_law_most", "_law_stages_here", "_law_count", "_law_digits", "_law_k", "_law_size", "_law_show"] ["_law_script", "_law_most"] (defScope s__law_stages) := ⟨rfl, rfl, rfl, by decide +kernel, rfl, by decide +kernel, by decide +kernel⟩
theorem sc__law_paths : FnScope ["_law_stages_here", "_law_paths_here", "_law_stage", "_law_longer", "_law_path", "_law_k"] ["_law_stages_here"] (defScope s__law_paths) := ⟨rfl, rfl, rfl, by decide +kernel, rfl, by decide +kernel, by decide +kernel⟩
theorem sc__law_view : FnScope ["_law_stages_here", "_law_path", "_law_player", "_law_view_here", "_law_number", "_law_k", "_law_stage"] ["_law_stages_here", "_law_path", "_law_player"] (defScope s__law_view) := ⟨rfl, rfl, rfl, by decide +kernel, rfl, by decide +kernel, by decide +kernel⟩
theorem sc__law_asked : FnScope ["_law_stages_here", "_law_path", "_law_number", "_law_k", "_law_stage"] ["_law_stages_here", "_law_path"] (defScope s__law_asked) := ⟨rfl, rfl, rfl, by decide +kernel, rfl, by decide +kernel, by decide +kernel⟩
theorem sc__law_met : FnScope ["_law_stages_here", "_law_player", "_law_views", "_law_path", "_law_k", "_law_view_here"] ["_law_stages_here", "_law_player"] (defScope s__law_met) := ⟨rfl, rfl, rfl, by decide +kernel, rfl, by decide +kernel, by decide +kernel⟩
theorem sc__law_node : FnScope ["_law_stages_here", "_law_paid", "_law_path", "_law_index", "_law_k", "_law_stage", "_law_parts"] ["_law_stages_here", "_law_paid", "_law_path"] (defScope s__law_node) := ⟨rfl, rfl, rfl, by decide +kernel, rfl, by decide +kernel, by decide +kernel⟩
theorem sc__law_plans : FnScope ["_law_views", "_law_moves", "_law_passed", "_law_plan", "_law_other", "_law_told", "_law_more", "_law_k", "_law_view_here", "_law_count", "_law_move"] ["_law_views", "_law_moves"] (defScope s__law_plans) := ⟨rfl, rfl, rfl, by decide +kernel, rfl, by decide +kernel, by decide +kernel⟩
theorem sc_law : FnScope ["_law_script", "_law_stages_here", "_law_tree", "_law_player", "_law_views", "_law_digits", "_law_moves", "_law_pair", "_law_strange", "_law_path", "_law_k"] ["_law_script"] (defScope s_law) := ⟨rfl, rfl, rfl, by decide +kernel, rfl, by decide +kernel, by decide +kernel⟩
def F_End (x0 : V) : List (Str × V) := [("paid", x0)]
theorem F_End_paid {x0 : V} : (F_End x0).lookup ("paid" : Str) = some x0 := by
  unfold F_End;  rw [List.lookup_cons, beq_self_eq_true]
theorem go_F_End_paid {K : PySem.W.Frag} {H : Hp} {Q : VK} {a C dx : Addr} {x0 : V} (e : H a = some (.ins C dx (F_End x0))) (c : Cls K C) (n : NoAttr K C "paid") (h : Q x0 H) : qFld K "paid" Q (.ref a) H := go_fldV e c n F_End_paid h
theorem F_End_put_paid {x0 y : V} : putF "paid" y (F_End x0) = F_End y := by
  unfold F_End
  simp only [putF, if_true]
theorem F_End_made {x0 : V} : (putF "paid" x0 []) = F_End x0 := by
  unfold F_End
  simp only [putF]
theorem F_End_no___init__ {x0 : V} : (F_End x0).lookup ("__init__" : Str) = none := by
  unfold F_End; rw [List.lookup_cons, show ((PySem.Str.ofString "__init__") == (PySem.Str.ofString "paid")) = false by decide +kernel]; rfl
def F_Lot (x0 : V) : List (Str × V) := [("parts", x0)]
theorem F_Lot_parts {x0 : V} : (F_Lot x0).lookup ("parts" : Str) = some x0 := by
  unfold F_Lot;  rw [List.lookup_cons, beq_self_eq_true]
theorem go_F_Lot_parts {K : PySem.W.Frag} {H : Hp} {Q : VK} {a C dx : Addr} {x0 : V} (e : H a = some (.ins C dx (F_Lot x0))) (c : Cls K C) (n : NoAttr K C "parts") (h : Q x0 H) : qFld K "parts" Q (.ref a) H := go_fldV e c n F_Lot_parts h
theorem F_Lot_put_parts {x0 y : V} : putF "parts" y (F_Lot x0) = F_Lot y := by
  unfold F_Lot
  simp only [putF, if_true]
theorem F_Lot_made {x0 : V} : (putF "parts" x0 []) = F_Lot x0 := by
  unfold F_Lot
  simp only [putF]
theorem F_Lot_no___init__ {x0 : V} : (F_Lot x0).lookup ("__init__" : Str) = none := by
  unfold F_Lot; rw [List.lookup_cons, show ((PySem.Str.ofString "__init__") == (PySem.Str.ofString "parts")) = false by decide +kernel]; rfl
def F_Turn (x0 x1 x2 : V) : List (Str × V) := [("player", x0), ("view", x1), ("parts", x2)]
theorem F_Turn_player {x0 x1 x2 : V} : (F_Turn x0 x1 x2).lookup ("player" : Str) = some x0 := by
  unfold F_Turn;  rw [List.lookup_cons, beq_self_eq_true]
theorem go_F_Turn_player {K : PySem.W.Frag} {H : Hp} {Q : VK} {a C dx : Addr} {x0 x1 x2 : V} (e : H a = some (.ins C dx (F_Turn x0 x1 x2))) (c : Cls K C) (n : NoAttr K C "player") (h : Q x0 H) : qFld K "player" Q (.ref a) H := go_fldV e c n F_Turn_player h
theorem F_Turn_put_player {x0 x1 x2 y : V} : putF "player" y (F_Turn x0 x1 x2) = F_Turn y x1 x2 := by
  unfold F_Turn
  simp only [putF, if_true]
theorem F_Turn_view {x0 x1 x2 : V} : (F_Turn x0 x1 x2).lookup ("view" : Str) = some x1 := by
  unfold F_Turn; rw [List.lookup_cons, show ((PySem.Str.ofString "view") == (PySem.Str.ofString "player")) = false by decide +kernel]; rw [List.lookup_cons, beq_self_eq_true]
theorem go_F_Turn_view {K : PySem.W.Frag} {H : Hp} {Q : VK} {a C dx : Addr} {x0 x1 x2 : V} (e : H a = some (.ins C dx (F_Turn x0 x1 x2))) (c : Cls K C) (n : NoAttr K C "view") (h : Q x1 H) : qFld K "view" Q (.ref a) H := go_fldV e c n F_Turn_view h
theorem F_Turn_put_view {x0 x1 x2 y : V} : putF "view" y (F_Turn x0 x1 x2) = F_Turn x0 y x2 := by
  unfold F_Turn
  simp only [putF, if_true, show ¬ ((PySem.Str.ofString "player") = (PySem.Str.ofString "view")) by decide +kernel, if_false]
theorem F_Turn_parts {x0 x1 x2 : V} : (F_Turn x0 x1 x2).lookup ("parts" : Str) = some x2 := by
  unfold F_Turn; rw [List.lookup_cons, show ((PySem.Str.ofString "parts") == (PySem.Str.ofString "player")) = false by decide +kernel]; rw [List.lookup_cons, show ((PySem.Str.ofString "parts") == (PySem.Str.ofString "view")) = false by decide +kernel]; rw [List.lookup_cons, beq_self_eq_true]
theorem go_F_Turn_parts {K : PySem.W.Frag} {H : Hp} {Q : VK} {a C dx : Addr} {x0 x1 x2 : V} (e : H a = some (.ins C dx (F_Turn x0 x1 x2))) (c : Cls K C) (n : NoAttr K C "parts") (h : Q x2 H) : qFld K "parts" Q (.ref a) H := go_fldV e c n F_Turn_parts h
theorem F_Turn_put_parts {x0 x1 x2 y : V} : putF "parts" y (F_Turn x0 x1 x2) = F_Turn x0 x1 y := by
  unfold F_Turn
  simp only [putF, if_true, show ¬ ((PySem.Str.ofString "player") = (PySem.Str.ofString "parts")) by decide +kernel, show ¬ ((PySem.Str.ofString "view") = (PySem.Str.ofString "parts")) by decide +kernel, if_false]
theorem F_Turn_made {x0 x1 x2 : V} : (putF "parts" x2 (putF "view" x1 (putF "player" x0 []))) = F_Turn x0 x1 x2 := by
  unfold F_Turn
  simp only [putF, show ¬ ((PySem.Str.ofString "player") = (PySem.Str.ofString "view")) by decide +kernel, show ¬ ((PySem.Str.ofString "player") = (PySem.Str.ofString "parts")) by decide +kernel, show ¬ ((PySem.Str.ofString "view") = (PySem.Str.ofString "parts")) by decide +kernel, if_false]
theorem F_Turn_no___init__ {x0 x1 x2 : V} : (F_Turn x0 x1 x2).lookup ("__init__" : Str) = none := by
  unfold F_Turn; rw [List.lookup_cons, show ((PySem.Str.ofString "__init__") == (PySem.Str.ofString "player")) = false by decide +kernel]; rw [List.lookup_cons, show ((PySem.Str.ofString "__init__") == (PySem.Str.ofString "view")) = false by decide +kernel]; rw [List.lookup_cons, show ((PySem.Str.ofString "__init__") == (PySem.Str.ofString "parts")) = false by decide +kernel]; rfl

theorem sq_nn (w : Int) : 0 ≤ w * w := by
  rcases Int.lt_trichotomy w 0 with z | z | z
  · exact Int.le_of_lt (Int.mul_pos_of_neg_of_neg z z)
  · rw [z]; decide
  · exact Int.le_of_lt (Int.mul_pos z z)
theorem fst_neg {p w : Int} (hw : w ≠ 0) : (0 ≤ rN p w) = ¬ (p * w < 0) := by
  have c := r_cross (a := p) hw
  have d := rD_pos (a := p) hw
  generalize rN p w = n at *
  generalize rD p w = m at *
  refine propext ⟨fun h h2 => ?_, fun h => ?_⟩
  · have e : n * (w * w) = p * w * m := by rw [← Int.mul_assoc, c]; ac_rfl
    have h3 : 0 ≤ n * (w * w) := Int.mul_nonneg h (sq_nn w)
    have h4 : p * w * m < 0 := Int.mul_neg_of_neg_of_pos h2 d
    omega
  · by_cases q : 0 ≤ n
    · exact q
    · exfalso
      have e : n * (w * w) = p * w * m := by rw [← Int.mul_assoc, c]; ac_rfl
      have h5 : 0 < w * w := by
        rcases Int.lt_trichotomy w 0 with z | z | z
        · exact Int.mul_pos_of_neg_of_neg z z
        · exact absurd z hw
        · exact Int.mul_pos z z
      have h3 : n * (w * w) < 0 := Int.mul_neg_of_neg_of_pos (by omega) h5
      have h4 : 0 ≤ p * w * m := Int.mul_nonneg (by omega) (by omega)
      omega
/-- the terms of the law's ratios -/
def terms (ps : List Int) (w : Int) : List (Int × Int) := ps.map fun p => (rN p w, rD p w)
theorem sum_terms {L w : Int} (hw : w ≠ 0) : ∀ (ps : List Int), (∀ p ∈ ps, rD p w ∣ L) → ((terms ps w).map fun r => r.1 * (L / r.2)).sum * w = ps.sum * L
  | [], _ => by simp [terms]
  | p :: t, h => by
    have c := r_cross (a := p) hw
    have d := rD_pos (a := p) hw
    have ih := sum_terms hw t fun z hz => h z (List.mem_cons_of_mem _ hz)
    have hd := h p List.mem_cons_self
    unfold terms at ih ⊢
    rw [List.map_cons, List.map_cons, List.sum_cons, List.sum_cons, Int.add_mul, Int.add_mul, ih]
    congr 1
    show rN p w * (L / rD p w) * w = p * L
    have : rD p w * (L / rD p w) = L := Int.mul_ediv_cancel' hd
    calc rN p w * (L / rD p w) * w = rN p w * w * (L / rD p w) := by ac_rfl
      _ = p * rD p w * (L / rD p w) := by rw [c]
      _ = p * (rD p w * (L / rD p w)) := by ac_rfl
      _ = p * L := by rw [this]
/-- what the law expects -/
def due0 (ps : List Int) (w : Int) : Bool := decide (0 < ps.length) && decide (ps.sum = w)
theorem lots_due {ps : List Int} {w : Int} (hw : w ≠ 0) (ex : List (Int × Int)) (hex : ex = [] ∨ ex = [(0, 1)]) :
    (decide ((cnum (terms ps w ++ ex)).sum = (cden (terms ps w ++ ex) : Int)) && (cnum (terms ps w ++ ex)).all (fun n => decide (0 ≤ n))) = (due0 ps w && !(ps.any fun p => decide (p * w < 0))) := by
  have hpos : ∀ r ∈ terms ps w ++ ex, 0 < r.2 := by
    intro r hr
    rcases List.mem_append.mp hr with h | h
    · obtain ⟨p, _, rfl⟩ := List.mem_map.mp h
      exact rD_pos hw
    · rcases hex with e | e
      · rw [e] at h; exact nomatch h
      · rw [e] at h
        rw [List.mem_singleton.mp h]
        decide
  have hL := cden_pos hpos
  have hdv : ∀ r ∈ terms ps w ++ ex, r.2 ∣ (cden (terms ps w ++ ex) : Int) := fun r hr => Int.natAbs_dvd_natAbs.mp (by rw [Int.natAbs_natCast]; exact cden_dvd hr)
  generalize hLe : (cden (terms ps w ++ ex) : Int) = L at hdv
  have hL2 : 0 < L := by omega
  have e1 : (cnum (terms ps w ++ ex)).sum * w = ps.sum * L := by
    unfold cnum
    rw [hLe, List.map_append, List.sum_append, Int.add_mul, sum_terms hw ps fun p hp => hdv (rN p w, rD p w) (List.mem_append_left _ (List.mem_map_of_mem hp))]
    have : (List.map (fun r : Int × Int => r.1 * (L / r.2)) ex).sum = 0 := by
      rcases hex with e | e <;> rw [e] <;> simp
    rw [this]
    simp
  have e2 : (cnum (terms ps w ++ ex)).all (fun n => decide (0 ≤ n)) = !(ps.any fun p => decide (p * w < 0)) := by
    rw [List.not_any_eq_all_not]
    unfold cnum
    rw [hLe, List.all_map, List.all_append]
    have : List.all ex ((fun n => decide (0 ≤ n)) ∘ fun r : Int × Int => r.1 * (L / r.2)) = true := by
      rcases hex with e | e <;> rw [e] <;> simp
    rw [this, Bool.and_true]
    unfold terms
    rw [List.all_map]
    rw [Bool.eq_iff_iff, List.all_eq_true, List.all_eq_true]
    have key : ∀ p ∈ ps, (((fun n => decide (0 ≤ n)) ∘ fun r : Int × Int => r.1 * (L / r.2)) ∘ fun p => (rN p w, rD p w)) p = !decide (p * w < 0) := by
      intro p hp
      show decide (0 ≤ rN p w * (L / rD p w)) = _
      have d := rD_pos (a := p) hw
      have hd : rD p w ∣ L := hdv (rN p w, rD p w) (List.mem_append_left _ (List.mem_map_of_mem hp))
      have hq : 0 < L / rD p w := by
        have h1 : rD p w * (L / rD p w) = L := Int.mul_ediv_cancel' hd
        rcases Int.lt_trichotomy (L / rD p w) 0 with z | z | z
        · have := Int.mul_neg_of_pos_of_neg d z
          omega
        · rw [z, Int.mul_zero] at h1
          omega
        · exact z
      have : (0 ≤ rN p w * (L / rD p w)) = (0 ≤ rN p w) := propext ⟨fun h => by
        by_cases q : 0 ≤ rN p w
        · exact q
        · have := Int.mul_neg_of_neg_of_pos (show rN p w < 0 by omega) hq
          omega, fun h => Int.mul_nonneg h (by omega)⟩
      rw [decide_eq_decide.mpr (show (0 ≤ rN p w * (L / rD p w)) ↔ ¬ (p * w < 0) by rw [this, fst_neg hw]), decide_not]
    exact ⟨fun h p hp => by rw [← key p hp]; exact h p hp, fun h p hp => by rw [key p hp]; exact h p hp⟩
  rw [e2]
  congr 1
  unfold due0
  cases ps with
  | nil =>
    simp only [List.length_nil, Nat.lt_irrefl, decide_false, Bool.false_and]
    have : (cnum (terms [] w ++ ex)).sum = 0 := by
      rw [List.sum_nil, Int.zero_mul] at e1
      exact (Int.mul_eq_zero.mp e1).resolve_right hw
    rw [this, decide_eq_false (by omega)]
  | cons p t =>
    rw [show decide (0 < (p :: t).length) = true by simp, Bool.true_and]
    refine decide_eq_decide.mpr ⟨fun h => ?_, fun h => ?_⟩
    · rw [h, Int.mul_comm] at e1
      exact (Int.eq_of_mul_eq_mul_right (by omega) e1).symm
    · rw [h, Int.mul_comm w L] at e1
      exact Int.eq_of_mul_eq_mul_right hw e1
theorem ratios_ok {ps : List Int} {w : Int} (hw : w ≠ 0) (hp : ∀ p ∈ ps, p.natAbs ≤ 10) (hz : w.natAbs ≤ 1000) : ∀ r ∈ terms ps w, 0 < r.2 ∧ r.2.natAbs < 2 ^ 100 ∧ r.1.natAbs < 2 ^ 100 := by
  intro r hr
  obtain ⟨p, hm, rfl⟩ := List.mem_map.mp hr
  have := hp p hm
  exact ⟨rD_pos hw, Nat.lt_of_le_of_lt (rD_le p w hw) (Nat.lt_of_le_of_lt hz (by decide)), Nat.lt_of_le_of_lt (rN_le p w hw) (Nat.lt_of_le_of_lt this (by decide))⟩
theorem sum_le : ∀ (ps : List Int), (∀ p ∈ ps, p.natAbs ≤ 10) → ps.sum.natAbs ≤ 10 * ps.length
  | [], _ => by simp
  | p :: t, h => by
    have h1 := h p List.mem_cons_self
    have h2 := sum_le t fun z hz => h z (List.mem_cons_of_mem _ hz)
    rw [List.sum_cons, List.length_cons]
    omega
theorem any_take {ps : List Int} {w : Int} {i : Nat} {p : Int} (h : ps[i]? = some p) : ((ps.take (i + 1)).any fun p => decide (p * w < 0)) = (((ps.take i).any fun p => decide (p * w < 0)) || decide (p * w < 0)) := by
  rw [List.take_add_one, h, List.any_append]
  simp
/-- a row that is given to the maker of a plan -/
structure PRow where
  d : PyData
  ka : Addr
  la : Addr
  xs : List V
  rs : List (Int × Int)
def lotsB (rs : List (Int × Int)) : Bool := decide ((cnum rs).sum = (cden rs : Int)) && (cnum rs).all (fun n => decide (0 ≤ n))
/-- the k-th entry is fine -/
def goodP (ps : List PRow) (k : Nat) (r : PRow) : Bool := !((ps.take k).any fun q => decide (keyD q.d = keyD r.d)) && (!r.rs.isEmpty && lotsB r.rs)
structure PIn (K : PySem.W.Frag) (C : Addr) (H : Hp) (r : PRow) (x : V) : Prop where
  t : ∃ t, x = .ref t ∧ SqT K H t [.ref r.ka, .ref r.la]
  kp : plainK r.d = true
  kd : (keyD r.d).depth ≤ 8
  kk : Dp K H (.ref r.ka) r.d
  li : H r.la = some (.lst r.xs)
  ra : RatsAt C H r.xs r.rs
  le : r.rs.length ≤ 60
  bd : ∀ z ∈ r.rs, 0 < z.2 ∧ z.2.natAbs < 2 ^ 100 ∧ z.1.natAbs < 2 ^ 100
def nrows (ps : List PRow) (ls : List Addr) : List NRow := (ps.zip ls).map fun x => (x.1.d, x.1.ka, .ref x.2)
theorem nrows_snoc {ps : List PRow} {i : Nat} {r : PRow} {ls : List Addr} {a : Addr} (h : ps[i]? = some r) (hl : ls.length = i) : nrows (ps.take (i + 1)) (ls ++ [a]) = nrows (ps.take i) ls ++ [(r.d, r.ka, .ref a)] := by
  have hi := (List.getElem?_eq_some_iff.mp h).1
  unfold nrows
  rw [List.take_add_one, h, Option.toList_some, List.zip_append (by rw [List.length_take]; omega), List.map_append]
  rfl
theorem nrows_any {k : NestedKey} : ∀ {ps : List PRow} {ls : List Addr}, ps.length = ls.length → ((nrows ps ls).any fun x => decide (keyD x.1 = k)) = ps.any fun q => decide (keyD q.d = k)
  | [], [], _ => rfl
  | p :: ps, l :: ls, h => by
    have ih := nrows_any (k := k) (ps := ps) (ls := ls) (by simpa using h)
    unfold nrows at ih ⊢
    rw [List.zip_cons_cons, List.map_cons, List.any_cons, List.any_cons, ih]
  | [], _ :: _, h => by simp at h
  | _ :: _, [], h => by simp at h
theorem nrows_mem {ps : List PRow} {ls : List Addr} {x : NRow} (h : x ∈ nrows ps ls) : ∃ r ∈ ps, x.1 = r.d ∧ x.2.1 = r.ka := by
  unfold nrows at h
  obtain ⟨⟨r, a⟩, hm, rfl⟩ := List.mem_map.mp h
  exact ⟨r, (List.of_mem_zip hm).1, rfl, rfl⟩
theorem ratsAt_but {C : Addr} {H H' : Hp} {p CP dx : Addr} {xs : List V} {rs : List (Int × Int)} (hp : H p = some (.ins CP dx [])) (B : But p H H') (h : RatsAt C H xs rs) : RatsAt C H' xs rs := ⟨h.1, fun i x r hx hr => by
  obtain ⟨q, dq, e, eq⟩ := h.2 i x r hx hr
  exact ⟨q, dq, e, B _ _ (ne_of eq hp (by intro z; cases z)) eq⟩⟩
theorem ratsAt_off {C : Addr} {S : Addr → Prop} {H H' : Hp} {xs : List V} {rs : List (Int × Int)} (o : Off S H H') (n : ∀ c C dx fs, S c → H c ≠ some (.ins C dx fs)) (h : RatsAt C H xs rs) : RatsAt C H' xs rs := ⟨h.1, fun i x r hx hr => by
  obtain ⟨q, dq, e, eq⟩ := h.2 i x r hx hr
  exact ⟨q, dq, e, o _ _ (fun z => n _ _ _ _ z eq) eq⟩⟩

structure Stg where
  w : Int
  n : Int
  s : Int
/-- the stages' list and tuples -/
structure StAt (H : Hp) (l : Addr) (st : List Stg) : Prop where
  ex : ∃ xs : List V, H l = some (.lst xs) ∧ xs.length = st.length ∧ ∀ (k : Nat) (s : Stg), st[k]? = some s → ∃ t, xs[k]? = some (.ref t) ∧ H t = some (.tup [.int s.w, .int s.n, .int s.s])
  le : st.length ≤ 4
  ok : ∀ s ∈ st, 0 ≤ s.w ∧ s.w ≤ 2 ∧ 1 ≤ s.n ∧ s.n ≤ 3 ∧ 0 ≤ s.s ∧ s.s ≤ 3
theorem StAt.same {H H' : Hp} {l : Addr} {st : List Stg} (h : StAt H l st) (s : Same H H') : StAt H' l st := by
  obtain ⟨xs, e, hl, f⟩ := h.ex
  exact ⟨⟨xs, s _ _ e, hl, fun k x hx => let ⟨t, a, b⟩ := f k x hx; ⟨t, a, s _ _ b⟩⟩, h.le, h.ok⟩
theorem StAt.get {H : Hp} {l : Addr} {st : List Stg} (h : StAt H l st) {k : Nat} {s : Stg} (hs : st[k]? = some s) : ∃ xs t, H l = some (.lst xs) ∧ xs.length = st.length ∧ atI xs (k : Int) = some (.ref t) ∧ H t = some (.tup [.int s.w, .int s.n, .int s.s]) := by
  obtain ⟨xs, e, hl, f⟩ := h.ex
  obtain ⟨t, a, b⟩ := f k s hs
  exact ⟨xs, t, e, hl, atI_nat a, b⟩
def prodN : List Stg → Int
  | [] => 1
  | s :: r => s.n * prodN r
theorem prodN_snoc {s : Stg} : ∀ {st : List Stg}, prodN (st ++ [s]) = prodN st * s.n
  | [] => by simp [prodN]
  | x :: r => by
    show x.n * prodN (r ++ [s]) = x.n * prodN r * s.n
    rw [prodN_snoc, Int.mul_assoc]
def p3 : Nat → Int
  | 0 => 1
  | k + 1 => 3 * p3 k
theorem p3_pos : ∀ k, 1 ≤ p3 k
  | 0 => by decide
  | k + 1 => by
    have := p3_pos k
    show 1 ≤ 3 * p3 k
    omega
theorem p3_le {k : Nat} (h : k ≤ 4) : p3 k ≤ 81 := by
  rcases (by omega : k = 0 ∨ k = 1 ∨ k = 2 ∨ k = 3 ∨ k = 4) with rfl | rfl | rfl | rfl | rfl <;> decide
theorem show_at {j : Int} (h0 : 0 ≤ j) (h1 : j < 5) : ∃ v : Int, atI [V.int 0, V.int 0, V.int 1, V.int 2, V.int 3] j = some (.int v) ∧ 0 ≤ v ∧ v ≤ 3 := by
  rcases (by omega : j = (0 : Nat) ∨ j = (1 : Nat) ∨ j = (2 : Nat) ∨ j = (3 : Nat) ∨ j = (4 : Nat)) with rfl | rfl | rfl | rfl | rfl
  · exact ⟨0, atI_nat rfl, by decide, by decide⟩
  · exact ⟨0, atI_nat rfl, by decide, by decide⟩
  · exact ⟨1, atI_nat rfl, by decide, by decide⟩
  · exact ⟨2, atI_nat rfl, by decide, by decide⟩
  · exact ⟨3, atI_nat rfl, by decide, by decide⟩
def dRound (k : Int) : PyData := .tuple [.str "round", .int k]
def dMove (n k : Int) : PyData := .tuple [.str "move", .int n, .int k]
def dDid (x : Int) : PyData := .tuple [.str "did", .int x]
def dTold (x : Int) : PyData := .tuple [.str "told", .int x]
/-- moves asked before the k-th stage -/
def nStep (st : List Stg) : Nat → Int
  | 0 => 0
  | k + 1 => match st[k]? with
    | some s => if s.w = 0 then nStep st k else nStep st k + 1
    | none => nStep st k
/-- what a player sees of the first k stages of a path -/
def vStep (st : List Stg) (path : List Int) (pl : Int) : Nat → List PyData
  | 0 => [dRound 0]
  | k + 1 => match st[k]?, path[k]? with
    | some s, some x => (vStep st path pl k ++ (if s.w = pl then [dMove (nStep st k) s.n, dDid x] else [])) ++ (if s.s = pl ∨ s.s = 3 then [dTold x] else [])
    | _, _ => vStep st path pl k
def viewD (st : List Stg) (path : List Int) (pl : Int) : List PyData := vStep st path pl path.length
def askD (st : List Stg) (path : List Int) (s : Stg) : List PyData := viewD st path s.w ++ [dMove (nStep st path.length) s.n]
theorem vStep_len (st : List Stg) (path : List Int) (pl : Int) : ∀ k, (vStep st path pl k).length ≤ 1 + 3 * k
  | 0 => by simp [vStep]
  | k + 1 => by
    have ih := vStep_len st path pl k
    unfold vStep
    split
    · rw [List.length_append, List.length_append]
      split <;> split <;> simp <;> omega
    · omega
/-- an item of a view -/
structure Itm (d : PyData) : Prop where
  k : plainK d = true
  c : d.canLay0 = true
  e : d.depth ≤ 1
  n : (keyD d).depth ≤ 1
theorem itm_round (k : Int) : Itm (dRound k) := ⟨rfl, by simp only [dRound, PyData.canLay0, PyData.canLayAll0, Bool.and_true]; decide +kernel, by simp [dRound, PyData.depth, PyData.depthAll], by simp [dRound, keyD, keyDs, NestedKey.depth, NestedKey.depthAll]⟩
theorem itm_move (n k : Int) : Itm (dMove n k) := ⟨rfl, by simp only [dMove, PyData.canLay0, PyData.canLayAll0, Bool.and_true]; decide +kernel, by simp [dMove, PyData.depth, PyData.depthAll], by simp [dMove, keyD, keyDs, NestedKey.depth, NestedKey.depthAll]⟩
theorem itm_did (k : Int) : Itm (dDid k) := ⟨rfl, by simp only [dDid, PyData.canLay0, PyData.canLayAll0, Bool.and_true]; decide +kernel, by simp [dDid, PyData.depth, PyData.depthAll], by simp [dDid, keyD, keyDs, NestedKey.depth, NestedKey.depthAll]⟩
theorem itm_told (k : Int) : Itm (dTold k) := ⟨rfl, by simp only [dTold, PyData.canLay0, PyData.canLayAll0, Bool.and_true]; decide +kernel, by simp [dTold, PyData.depth, PyData.depthAll], by simp [dTold, keyD, keyDs, NestedKey.depth, NestedKey.depthAll]⟩
theorem vStep_itm (st : List Stg) (path : List Int) (pl : Int) : ∀ k, ∀ d ∈ vStep st path pl k, Itm d
  | 0 => fun d h => by
    rw [List.mem_singleton.mp h]
    exact itm_round 0
  | k + 1 => fun d h => by
    have ih := vStep_itm st path pl k
    unfold vStep at h
    split at h
    · rcases List.mem_append.mp h with h | h
      · rcases List.mem_append.mp h with h | h
        · exact ih d h
        · split at h
          · rcases List.mem_cons.mp h with h | h
            · rw [h]; exact itm_move _ _
            · rw [List.mem_singleton.mp h]; exact itm_did _
          · exact nomatch h
      · split at h
        · rw [List.mem_singleton.mp h]; exact itm_told _
        · exact nomatch h
    · exact ih d h
theorem vStep_head (st : List Stg) (path : List Int) (pl : Int) : ∀ k, ∃ r, vStep st path pl k = dRound 0 :: r
  | 0 => ⟨[], rfl⟩
  | k + 1 => by
    obtain ⟨r, e⟩ := vStep_head st path pl k
    unfold vStep
    split
    · rw [e]; exact ⟨_, rfl⟩
    · exact ⟨r, e⟩
structure Itms (ds : List PyData) : Prop where
  k : plainKs ds = true
  c : PyData.canLayAll0 ds = true
  d : PyData.depthAll ds ≤ 1
  n : NestedKey.depthAll (keyDs ds) ≤ 1
theorem itms : ∀ {ds : List PyData}, (∀ d ∈ ds, Itm d) → Itms ds
  | [], _ => ⟨rfl, rfl, by simp [PyData.depthAll], by simp [keyDs, NestedKey.depthAll]⟩
  | d :: ds, h => by
    have h1 := h d List.mem_cons_self
    have h2 := itms fun x hx => h x (List.mem_cons_of_mem _ hx)
    refine ⟨?_, ?_, ?_, ?_⟩
    · simp only [plainKs, h1.k, h2.k, Bool.true_and]
    · simp only [PyData.canLayAll0, h1.c, h2.c, Bool.true_and]
    · have := h1.e
      have := h2.d
      simp only [PyData.depthAll]
      omega
    · have := h1.n
      have := h2.n
      simp only [keyDs, NestedKey.depthAll]
      omega
/-- a view and a number of moves -/
abbrev Met := List PyData × Int
def mD (m : Met) : PyData := .tuple [.tuple m.1, .int m.2]
structure MOk (m : Met) : Prop where
  i : ∀ d ∈ m.1, Itm d
  h : ∃ r, m.1 = dRound 0 :: r
  l : ∃ r n, m.1 = r ++ [dMove n m.2]
  z : m.1.length ≤ 20
  n : 1 ≤ m.2 ∧ m.2 ≤ 3
theorem MOk.view {m : Met} (h : MOk m) : plainK (.tuple m.1) = true ∧ (PyData.tuple m.1).canLay0 = true ∧ (PyData.tuple m.1).depth ≤ 2 ∧ (keyD (.tuple m.1)).depth ≤ 2 := by
  have k := itms h.i
  refine ⟨by simp only [plainK, k.k], by simp only [PyData.canLay0, k.c], ?_, ?_⟩
  · have := k.d
    simp only [PyData.depth]
    omega
  · have := k.n
    simp only [keyD, NestedKey.depth]
    omega
theorem MOk.vshaped {m : Met} (h : MOk m) : SeqAt.shaped (.tuple m.1) = true := by
  obtain ⟨_, h2, h3, _⟩ := h.view
  unfold SeqAt.shaped
  rw [h2, Bool.true_and]
  exact decide_eq_true (by omega)
theorem MOk.lay {m : Met} (h : MOk m) : plainK (mD m) = true ∧ (mD m).canLay0 = true ∧ (mD m).depth ≤ 3 := by
  obtain ⟨h1, h2, h3, _⟩ := h.view
  refine ⟨by simp only [mD, plainK, plainKs, Bool.and_true] at h1 ⊢; exact h1, by simp only [mD, PyData.canLay0, PyData.canLayAll0, Bool.and_true] at h2 ⊢; exact h2, ?_⟩
  simp only [mD, PyData.depth, PyData.depthAll] at h3 ⊢
  omega
theorem MOk.shaped {m : Met} (h : MOk m) : SeqAt.shaped (mD m) = true := by
  obtain ⟨_, h2, h3⟩ := h.lay
  unfold SeqAt.shaped
  rw [h2, Bool.true_and]
  exact decide_eq_true (by omega)
theorem mets_lay : ∀ {ms : List Met}, (∀ m ∈ ms, MOk m) → plainKs (ms.map mD) = true ∧ PyData.canLayAll0 (ms.map mD) = true ∧ PyData.depthAll (ms.map mD) ≤ 3
  | [], _ => ⟨rfl, rfl, by simp [PyData.depthAll]⟩
  | m :: ms, h => by
    obtain ⟨a1, a2, a3⟩ := mets_lay fun x hx => h x (List.mem_cons_of_mem _ hx)
    obtain ⟨b1, b2, b3⟩ := (h m List.mem_cons_self).lay
    rw [List.map_cons]
    simp only [plainKs, PyData.canLayAll0, PyData.depthAll, a1, a2, b1, b2, Bool.true_and]
    exact ⟨trivial, trivial, by omega⟩
theorem mets_shaped {ms : List Met} (h : ∀ m ∈ ms, MOk m) : SeqAt.shaped (.list (ms.map mD)) = true := by
  obtain ⟨_, a2, a3⟩ := mets_lay h
  unfold SeqAt.shaped
  simp only [PyData.canLay0, PyData.depth, a2, Bool.true_and]
  exact decide_eq_true (by omega)
/-- the paths through the first k stages -/
def pStep (st : List Stg) : Nat → List (List Int)
  | 0 => [[]]
  | k + 1 => match st[k]? with
    | some s => (pStep st k).flatMap fun p => (List.range s.n.toNat).map fun (j : Nat) => p ++ [(j : Int)]
    | none => pStep st k
def pathsD (st : List Stg) : List (List Int) := pStep st st.length
theorem pStep_at {st : List Stg} {k : Nat} {s : Stg} (h : st[k]? = some s) : pStep st (k + 1) = (pStep st k).flatMap fun p => (List.range s.n.toNat).map fun (j : Nat) => p ++ [(j : Int)] := by
  show (match st[k]? with | some s => _ | none => _) = _
  rw [h]
theorem flat_len {s : Int} (hs : s ≤ 3) : ∀ l : List (List Int), (l.flatMap fun p => (List.range s.toNat).map fun (j : Nat) => p ++ [(j : Int)]).length ≤ 3 * l.length
  | [] => by simp
  | p :: l => by
    have := flat_len hs l
    rw [List.flatMap_cons, List.length_append, List.length_map, List.length_range, List.length_cons]
    omega
theorem pStep_len {st : List Stg} (h : ∀ s ∈ st, s.n ≤ 3) : ∀ k, ((pStep st k).length : Int) ≤ p3 k
  | 0 => by simp [pStep, p3]
  | k + 1 => by
    have ih := pStep_len h k
    unfold pStep p3
    split
    · rename_i s e
      have := flat_len (h s (List.mem_of_getElem? e)) (pStep st k)
      omega
    · have := p3_pos k
      omega
theorem pStep_mem {st : List Stg} : ∀ {k : Nat}, k ≤ st.length → ∀ p ∈ pStep st k, p.length = k
  | 0, _, p, h => by
    rw [List.mem_singleton.mp h]
    rfl
  | k + 1, hk, p, h => by
    have e : st[k]? = some st[k] := List.getElem?_eq_getElem (by omega)
    rw [pStep_at e] at h
    obtain ⟨q, hq, hp⟩ := List.mem_flatMap.mp h
    obtain ⟨j, _, rfl⟩ := List.mem_map.mp hp
    rw [List.length_append, pStep_mem (by omega) q hq]
    rfl
/-- lists of ints in a list that grows at L; all are newer than B -/
structure LsAt (B H : Hp) (L : Addr) (ys : List V) (ps : List (List Int)) : Prop where
  n : ys.length = ps.length
  f : ∀ (k : Nat) p, ps[k]? = some p → ∃ q, ys[k]? = some (.ref q) ∧ q ≠ L ∧ B q = none ∧ H q = some (.lst (p.map V.int))
theorem LsAt.same {B H H' : Hp} {L : Addr} {ys : List V} {ps : List (List Int)} (h : LsAt B H L ys ps) (s : Same H H') : LsAt B H' L ys ps := ⟨h.n, fun k p hp => let ⟨q, a, b, d, c⟩ := h.f k p hp; ⟨q, a, b, d, s _ _ c⟩⟩
theorem LsAt.put {B H : Hp} {L : Addr} {ys zs : List V} {ps : List (List Int)} (h : LsAt B H L ys ps) : LsAt B (upd H L (.lst zs)) L ys ps := ⟨h.n, fun k p hp => let ⟨q, a, b, d, c⟩ := h.f k p hp; ⟨q, a, b, d, by rw [upd_ne b]; exact c⟩⟩
theorem LsAt.nil {B H : Hp} {L : Addr} : LsAt B H L [] [] := ⟨rfl, fun k p h => by simp at h⟩
theorem LsAt.snoc {B H : Hp} {L q : Addr} {ys : List V} {ps : List (List Int)} {p : List Int} (h : LsAt B H L ys ps) (ne : q ≠ L) (nb : B q = none) (e : H q = some (.lst (p.map V.int))) : LsAt B H L (ys ++ [.ref q]) (ps ++ [p]) := by
  refine ⟨by rw [List.length_append, List.length_append, h.n]; rfl, fun k r hr => ?_⟩
  rcases Nat.lt_or_ge k ps.length with z | z
  · rw [List.getElem?_append_left z] at hr
    obtain ⟨q', a, b, d, c⟩ := h.f k r hr
    exact ⟨q', by rw [List.getElem?_append_left (by rw [h.n]; exact z)]; exact a, b, d, c⟩
  · have hk := (List.getElem?_eq_some_iff.mp hr).1
    rw [List.length_append, List.length_singleton] at hk
    obtain rfl : k = ps.length := by omega
    rw [List.getElem?_append_right (Nat.le_refl _), Nat.sub_self] at hr
    cases hr
    exact ⟨q, by rw [List.getElem?_append_right (by rw [h.n]; exact Nat.le_refl _), h.n, Nat.sub_self]; rfl, ne, nb, e⟩
structure PsAt (B H : Hp) (l : Addr) (ps : List (List Int)) : Prop where
  nb : B l = none
  ex : ∃ xs : List V, H l = some (.lst xs) ∧ xs.length = ps.length ∧ ∀ (k : Nat) p, ps[k]? = some p → ∃ q, xs[k]? = some (.ref q) ∧ B q = none ∧ H q = some (.lst (p.map V.int))
theorem PsAt.same {B H H' : Hp} {l : Addr} {ps : List (List Int)} (h : PsAt B H l ps) (s : Same H H') : PsAt B H' l ps := by
  obtain ⟨xs, a, b, c⟩ := h.ex
  exact ⟨h.nb, xs, s _ _ a, b, fun k p hp => let ⟨q, d, f, e⟩ := c k p hp; ⟨q, d, f, s _ _ e⟩⟩
def mItem (st : List Stg) (pl : Int) (p : List Int) (k : Nat) : Option Met := match st[k]? with
  | some s => if s.w = pl then some (askD st (p.take k) s, s.n) else none
  | none => none
def mAdd (acc : List Met) : Option Met → List Met
  | none => acc
  | some m => if acc.any (fun z => PyData.eqv (mD z) (mD m)) then acc else acc ++ [m]
def mRow (st : List Stg) (pl : Int) (p : List Int) (acc : List Met) (n : Nat) : List Met := (List.range n).foldl (fun a k => mAdd a (mItem st pl p k)) acc
def mRows (st : List Stg) (pl : Int) (ps : List (List Int)) : List Met := ps.foldl (fun a p => mRow st pl p a st.length) []
/-- the views at which a player is asked, each once -/
def metD (st : List Stg) (pl : Int) : List Met := mRows st pl (pathsD st)
theorem mAdd_old {acc : List Met} {m : Met} (h : (acc.any fun z => PyData.eqv (mD z) (mD m)) = true) : mAdd acc (some m) = acc := by
  show (if _ then _ else _) = _
  rw [if_pos h]
theorem mAdd_new {acc : List Met} {m : Met} (h : (acc.any fun z => PyData.eqv (mD z) (mD m)) = false) : mAdd acc (some m) = acc ++ [m] := by
  show (if _ then _ else _) = _
  rw [if_neg (by rw [h]; decide)]
theorem mRow_succ {st : List Stg} {pl : Int} {p : List Int} {acc : List Met} {n : Nat} : mRow st pl p acc (n + 1) = mAdd (mRow st pl p acc n) (mItem st pl p n) := by
  unfold mRow
  rw [List.range_succ, List.foldl_append]
  rfl
theorem mRows_snoc {st : List Stg} {pl : Int} {ps : List (List Int)} {p : List Int} : mRows st pl (ps ++ [p]) = mRow st pl p (mRows st pl ps) st.length := by
  unfold mRows
  rw [List.foldl_append]
  rfl
theorem mItem_ok {st : List Stg} {pl : Int} {p : List Int} {k : Nat} {m : Met} (hl : st.length ≤ 4) (ok : ∀ s ∈ st, 1 ≤ s.n ∧ s.n ≤ 3) (hp : k ≤ p.length) (h : mItem st pl p k = some m) : MOk m := by
  unfold mItem at h
  split at h
  · rename_i s e
    have hk := (List.getElem?_eq_some_iff.mp e).1
    split at h
    · cases h
      have tl : (p.take k).length = k := by rw [List.length_take]; omega
      refine ⟨fun d hd => ?_, ?_, ⟨_, _, rfl⟩, ?_, ok s (List.mem_of_getElem? e)⟩
      · rcases List.mem_append.mp hd with hd | hd
        · exact vStep_itm _ _ _ _ d hd
        · rw [List.mem_singleton.mp hd]
          exact itm_move _ _
      · obtain ⟨r, e2⟩ := vStep_head st (p.take k) s.w (p.take k).length
        exact ⟨r ++ _, by show vStep st (p.take k) s.w (p.take k).length ++ _ = _; rw [e2]; rfl⟩
      · have := vStep_len st (p.take k) s.w (p.take k).length
        show (vStep st (p.take k) s.w (p.take k).length ++ _).length ≤ 20
        rw [List.length_append]
        simp only [List.length_singleton]
        omega
    · cases h
  · cases h
/-- each view once -/
structure Mets (ms : List Met) : Prop where
  ok : ∀ m ∈ ms, MOk m
  ne : ms.Pairwise fun a b => PyData.eqv (mD a) (mD b) = false
theorem Mets.add {ms : List Met} (h : Mets ms) {o : Option Met} (ho : ∀ m, o = some m → MOk m) : Mets (mAdd ms o) := by
  cases o with
  | none => exact h
  | some m =>
    unfold mAdd
    show Mets (if _ then _ else _)
    split
    · exact h
    · rename_i n
      have n2 : ∀ x ∈ ms, PyData.eqv (mD x) (mD m) = false := fun x hx => by
        cases z : PyData.eqv (mD x) (mD m) with
        | false => rfl
        | true => exact absurd (List.any_eq_true.mpr ⟨x, hx, z⟩) n
      refine ⟨fun x hx => ?_, List.pairwise_append.mpr ⟨h.ne, List.pairwise_singleton _ _, fun a ha b hb => ?_⟩⟩
      · rcases List.mem_append.mp hx with hx | hx
        · exact h.ok x hx
        · rw [List.mem_singleton.mp hx]; exact ho m rfl
      · rw [List.mem_singleton.mp hb]
        exact n2 a ha
theorem mAdd_len {ms : List Met} {o : Option Met} : (mAdd ms o).length ≤ ms.length + 1 := by
  cases o with
  | none => exact Nat.le_succ _
  | some m =>
    show (if _ then _ else _ : List Met).length ≤ _
    split
    · exact Nat.le_succ _
    · rw [List.length_append]; exact Nat.le_refl _
theorem mets_keys {ms : List Met} (h : Mets ms) : ms.Pairwise fun a b => keyD (.tuple a.1) ≠ keyD (.tuple b.1) := by
  refine List.Pairwise.imp_of_mem ?_ h.ne
  intro a b ha hb n e
  have k := keyD_inj _ _ (h.ok a ha).view.1 (h.ok b hb).view.1 e
  have e1 : a.1 = b.1 := by injection k
  obtain ⟨r, x, ea⟩ := (h.ok a ha).l
  obtain ⟨r', x', eb⟩ := (h.ok b hb).l
  have e2 : dMove x a.2 = dMove x' b.2 := by
    have : (r ++ [dMove x a.2]).getLast? = (r' ++ [dMove x' b.2]).getLast? := by rw [← ea, ← eb, e1]
    simpa using this
  have e3 : a.2 = b.2 := by
    simp only [dMove, PyData.tuple.injEq, List.cons.injEq, PyData.int.injEq] at e2
    exact e2.2.2.1
  have e4 : a = b := Prod.ext e1 e3
  rw [e4, SeqAt.eqv_refl _ (h.ok b hb).lay.2.1] at n
  cases n
structure MetAt (K : PySem.W.Frag) (H : Hp) (l : Addr) (ms : List Met) : Prop where
  ex : ∃ xs : List V, H l = some (.lst xs) ∧ DpAll K H xs (ms.map mD)
  ok : Mets ms
theorem MetAt.same {K : PySem.W.Frag} {H H' : Hp} {l : Addr} {ms : List Met} (h : MetAt K H l ms) (s : Same H H') : MetAt K H' l ms := by
  obtain ⟨xs, a, b⟩ := h.ex
  exact ⟨⟨xs, s _ _ a, dpAll_same s _ _ b⟩, h.ok⟩
/-- the k-th view's objects -/
theorem MetAt.get {K : PySem.W.Frag} {H : Hp} {l : Addr} {ms : List Met} (h : MetAt K H l ms) {k : Nat} {m : Met} (e : ms[k]? = some m) : ∃ xs t v, H l = some (.lst xs) ∧ xs.length = ms.length ∧ xs[k]? = some (.ref t) ∧ SqT K H t [.ref v, .int m.2] ∧ Dp K H (.ref v) (.tuple m.1) := by
  obtain ⟨xs, a, b⟩ := h.ex
  obtain ⟨x, hx, hd⟩ := dpAll_get b (show (ms.map mD)[k]? = some (mD m) by rw [List.getElem?_map, e]; rfl)
  obtain ⟨t, ys, rfl, h1, h2⟩ := dp_tup hd
  cases h2 with
  | cons g1 g2 =>
    cases g2 with
    | cons g3 g4 =>
      cases g3
      cases g4
      obtain ⟨v, vs, rfl, _⟩ := dp_tup g1
      exact ⟨xs, t, v, a, by have := dpAll_len b; rw [this, List.length_map], hx, h1, g1⟩

/-- an entry of a plan as the law has it -/
structure Ent where
  m : Met
  v : Addr
  l : Addr
  ws : List Int
structure EntOk (K : PySem.W.Frag) (H : Hp) (L : Addr) (e : Ent) (x : V) : Prop where
  t : ∃ t, x = .ref t ∧ H t = some (.tup [.ref e.v, .ref e.l])
  v : Dp K H (.ref e.v) (.tuple e.m.1)
  n : e.l ≠ L
  l : H e.l = some (.lst (e.ws.map V.int))
  b : e.ws.length ≤ 4
  w : ∀ w ∈ e.ws, 0 ≤ w ∧ w ≤ 3
  p : 0 < e.ws.sum
theorem EntOk.same {K : PySem.W.Frag} {H H' : Hp} {L : Addr} {e : Ent} {x : V} (h : EntOk K H L e x) (s : Same H H') : EntOk K H' L e x := by
  obtain ⟨t, a, b⟩ := h.t
  exact ⟨⟨t, a, s _ _ b⟩, dp_same s _ _ h.v, h.n, s _ _ h.l, h.b, h.w, h.p⟩
theorem EntOk.put {K : PySem.W.Frag} {H : Hp} {L : Addr} {ys zs : List V} {e : Ent} {x : V} (h : EntOk K H L e x) (hv : plainK (.tuple e.m.1) = true) (eL : H L = some (.lst ys)) : EntOk K (upd H L (.lst zs)) L e x := by
  obtain ⟨t, a, b⟩ := h.t
  exact ⟨⟨t, a, by rw [upd_ne (ne_of b eL (by intro z; cases z))]; exact b⟩, dp_off (But.off ((But.refl L H).upd)) (noT_lst eL) _ _ hv h.v, h.n, by rw [upd_ne h.n]; exact h.l, h.b, h.w, h.p⟩
structure EntAt (K : PySem.W.Frag) (H : Hp) (L : Addr) (es : List Ent) : Prop where
  ex : ∃ xs : List V, H L = some (.lst xs) ∧ xs.length = es.length ∧ ∀ (k : Nat) e x, es[k]? = some e → xs[k]? = some x → EntOk K H L e x
  ok : ∀ e ∈ es, MOk e.m
theorem EntAt.same {K : PySem.W.Frag} {H H' : Hp} {L : Addr} {es : List Ent} (h : EntAt K H L es) (s : Same H H') : EntAt K H' L es := by
  obtain ⟨xs, a, b, c⟩ := h.ex
  exact ⟨⟨xs, s _ _ a, b, fun k e x h1 h2 => (c k e x h1 h2).same s⟩, h.ok⟩
theorem EntAt.nil {K : PySem.W.Frag} {H : Hp} {L : Addr} (e : H L = some (.lst [])) : EntAt K H L [] := ⟨⟨[], e, rfl, fun k e x h => by simp at h⟩, fun e h => nomatch h⟩
theorem EntAt.snoc {K : PySem.W.Frag} {H : Hp} {L : Addr} {es : List Ent} {xs : List V} {e : Ent} {x : V} (h : EntAt K H L es) (eL : H L = some (.lst xs)) (ok : MOk e.m) (he : EntOk K H L e x) : EntAt K (upd H L (.lst (xs ++ [x]))) L (es ++ [e]) := by
  obtain ⟨xs', a, b, c⟩ := h.ex
  rw [eL] at a
  cases a
  refine ⟨⟨_, upd_same, by rw [List.length_append, List.length_append, b]; rfl, fun k e' x' h1 h2 => ?_⟩, fun e' h' => ?_⟩
  · rcases Nat.lt_or_ge k es.length with z | z
    · rw [List.getElem?_append_left (by omega)] at h1 h2
      exact (c k e' x' h1 h2).put (h.ok e' (List.mem_of_getElem? h1)).view.1 eL
    · have hk := (List.getElem?_eq_some_iff.mp h1).1
      rw [List.length_append, List.length_singleton] at hk
      obtain rfl : k = es.length := by omega
      rw [List.getElem?_append_right (Nat.le_refl _), Nat.sub_self] at h1
      rw [List.getElem?_append_right (by omega), b, Nat.sub_self] at h2
      cases h1
      cases h2
      exact he.put ok.view.1 eL
  · rcases List.mem_append.mp h' with h' | h'
    · exact h.ok e' h'
    · rw [List.mem_singleton.mp h']; exact ok
/-- no view twice -/
def Once (es : List Ent) : Prop := es.Pairwise fun a b => keyD (.tuple a.m.1) ≠ keyD (.tuple b.m.1)
def dflt (n : Int) : List (Int × Int) := (List.range n.toNat).map fun k => (if k = 0 then 1 else 0, 1)
/-- the plan that was made of entries -/
structure PlanAt (P : Program) (w : World) (K : PySem.W.Frag) (C CP : Addr) (H : Hp) (p : Addr) (es : List Ent) : Prop where
  ex : ∃ (dx D : Addr) (ps : List PRow) (ls : List Addr), H p = some (.ins CP dx [("table", .ref D)]) ∧ H D = some (ndO P w D (nrows ps ls)) ∧ ps.length = ls.length ∧ ps.length = es.length ∧
    (∀ (k : Nat) r a, ps[k]? = some r → ls[k]? = some a → ∃ e, es[k]? = some e ∧ r.d = .tuple e.m.1 ∧ r.rs = terms e.ws e.ws.sum ∧ Dp K H (.ref r.ka) r.d ∧ H a = some (.lst r.xs) ∧ RatsAt C H r.xs r.rs)
  ok : ∀ e ∈ es, MOk e.m
  n : es.length ≤ 1000
  b : ∀ e ∈ es, e.ws.length ≤ 4 ∧ (∀ w ∈ e.ws, 0 ≤ w ∧ w ≤ 3) ∧ 0 < e.ws.sum
theorem PlanAt.same {P : Program} {w : World} {K : PySem.W.Frag} {C CP : Addr} {H H' : Hp} {p : Addr} {es : List Ent} (h : PlanAt P w K C CP H p es) (s : Same H H') : PlanAt P w K C CP H' p es := by
  obtain ⟨dx, D, ps, ls, a, b, c, d, f⟩ := h.ex
  exact ⟨⟨dx, D, ps, ls, s _ _ a, s _ _ b, c, d, fun k r x h1 h2 => let ⟨e, e1, e2, e3, e4, e5, e6⟩ := f k r x h1 h2; ⟨e, e1, e2, e3, dp_same s _ _ e4, s _ _ e5, e6.same s⟩⟩, h.ok, h.n, h.b⟩
theorem nAt_nrows {key : NestedKey} : ∀ {ps : List PRow} {ls : List Addr}, ps.length = ls.length →
    (∃ (k : Nat) (r : PRow) (a : Addr), ps[k]? = some r ∧ ls[k]? = some a ∧ keyD r.d = key ∧ nAt (nrows ps ls) key = some (.ref a)) ∨ ((∀ r ∈ ps, keyD r.d ≠ key) ∧ nAt (nrows ps ls) key = none)
  | [], [], _ => .inr ⟨fun _ h => (nomatch h), rfl⟩
  | p :: ps, l :: ls, h => by
    by_cases e : keyD p.d = key
    · exact .inl ⟨0, p, l, rfl, rfl, e, by simp [nAt, nrows, e]⟩
    · have step : nAt (nrows (p :: ps) (l :: ls)) key = nAt (nrows ps ls) key := by simp [nAt, nrows, e]
      rcases nAt_nrows (key := key) (ps := ps) (ls := ls) (by simpa using h) with ⟨k, r, a, h1, h2, h3, h4⟩ | ⟨h1, h2⟩
      · exact .inl ⟨k + 1, r, a, h1, h2, h3, by rw [step]; exact h4⟩
      · refine .inr ⟨fun r hr => ?_, by rw [step]; exact h2⟩
        rcases List.mem_cons.mp hr with hr | hr
        · rw [hr]; exact e
        · exact h1 r hr
  | [], _ :: _, h => by simp at h
  | _ :: _, [], h => by simp at h
/-- the lots that the plan of these entries has at a view -/
def LotsIs (es : List Ent) (vd : List PyData) (c : Int) (rs : List (Int × Int)) : Prop :=
  (∃ (k : Nat) (e : Ent), es[k]? = some e ∧ keyD (.tuple e.m.1) = keyD (.tuple vd) ∧ (((e.ws.length : Int) = c ∧ rs = terms e.ws e.ws.sum) ∨ ((e.ws.length : Int) ≠ c ∧ rs = dflt c))) ∨ ((∀ e ∈ es, keyD (.tuple e.m.1) ≠ keyD (.tuple vd)) ∧ rs = dflt c)
structure LotOk (z : Int × Int) : Prop where
  p : 0 < z.2
  r : rD z.1 z.2 = z.2
  a : 0 ≤ z.1 ∧ z.1 ≤ 1099511627776
  b : z.2 ≤ 1099511627776
theorem sum_bd : ∀ {ws : List Int}, (∀ w ∈ ws, 0 ≤ w ∧ w ≤ 3) → 0 ≤ ws.sum ∧ ws.sum ≤ 3 * ws.length
  | [], _ => by simp
  | w :: ws, h => by
    have h1 := h w List.mem_cons_self
    have h2 := sum_bd fun x hx => h x (List.mem_cons_of_mem _ hx)
    rw [List.sum_cons, List.length_cons]
    omega
theorem rD_fix {a b : Int} (hb : 0 < b) : rD (rN a b) (rD a b) = rD a b := by
  have p := rD_pos (a := a) (b := b) (by omega)
  exact (r_congr (by omega) (by omega) (r_cross (a := a) (b := b) (by omega))).2
theorem rN_nn {a b : Int} (ha : 0 ≤ a) (hb : 0 < b) : 0 ≤ rN a b := by
  have c := r_cross (a := a) (b := b) (by omega)
  have p := rD_pos (a := a) (b := b) (by omega)
  by_cases q : 0 ≤ rN a b
  · exact q
  · have h1 : rN a b * b < 0 := Int.mul_neg_of_neg_of_pos (by omega) hb
    have h2 : 0 ≤ a * rD a b := Int.mul_nonneg ha (by omega)
    omega
theorem terms_lot {ws : List Int} (hl : ws.length ≤ 4) (hw : ∀ w ∈ ws, 0 ≤ w ∧ w ≤ 3) (hp : 0 < ws.sum) : ∀ z ∈ terms ws ws.sum, LotOk z := by
  intro z h
  obtain ⟨w, hm, rfl⟩ := List.mem_map.mp h
  have h1 := hw w hm
  have h2 := sum_bd hw
  have a1 := rN_le w ws.sum (by omega)
  have a2 := rD_le w ws.sum (by omega)
  have a3 := rN_nn h1.1 hp
  have a4 := rD_pos (a := w) (b := ws.sum) (by omega)
  exact ⟨a4, rD_fix hp, ⟨a3, by show rN w ws.sum ≤ 1099511627776; omega⟩, by show rD w ws.sum ≤ 1099511627776; omega⟩
theorem dflt_lot {c : Int} : ∀ z ∈ dflt c, LotOk z := by
  intro z h
  obtain ⟨k, hm, rfl⟩ := List.mem_map.mp h
  by_cases e : k = 0
  · rw [if_pos e]
    exact ⟨by decide, by decide +kernel, ⟨by decide, by decide⟩, by decide⟩
  · rw [if_neg e]
    exact ⟨by decide, by decide +kernel, ⟨by decide, by decide⟩, by decide⟩
theorem dflt_len {c : Int} : (dflt c).length = c.toNat := by unfold dflt; rw [List.length_map, List.length_range]
theorem terms_len {ws : List Int} {s : Int} : (terms ws s).length = ws.length := by unfold terms; rw [List.length_map]
theorem LotsIs.lot {es : List Ent} {vd : List PyData} {c : Int} {rs : List (Int × Int)} (h : LotsIs es vd c rs) (hc : 0 ≤ c) (b : ∀ e ∈ es, e.ws.length ≤ 4 ∧ (∀ w ∈ e.ws, 0 ≤ w ∧ w ≤ 3) ∧ 0 < e.ws.sum) : (∀ z ∈ rs, LotOk z) ∧ (rs.length : Int) = c := by
  rcases h with ⟨k, e, h1, _, ⟨h3, rfl⟩ | ⟨_, rfl⟩⟩ | ⟨_, rfl⟩
  · obtain ⟨b1, b2, b3⟩ := b e (List.mem_of_getElem? h1)
    exact ⟨terms_lot b1 b2 b3, by rw [terms_len]; exact h3⟩
  · exact ⟨dflt_lot, by rw [dflt_len]; omega⟩
  · exact ⟨dflt_lot, by rw [dflt_len]; omega⟩
structure DueAt (H : Hp) (l : Addr) (rs : List (Int × Int)) : Prop where
  ex : ∃ ts : List V, H l = some (.lst ts) ∧ ts.length = rs.length ∧ ∀ (k : Nat) z, rs[k]? = some z → ∃ t, ts[k]? = some (.ref t) ∧ H t = some (.tup [.int z.1, .int z.2])
theorem DueAt.same {H H' : Hp} {l : Addr} {rs : List (Int × Int)} (h : DueAt H l rs) (s : Same H H') : DueAt H' l rs := by
  obtain ⟨ts, a, b, c⟩ := h.ex
  exact ⟨ts, s _ _ a, b, fun k z hz => let ⟨t, d, e⟩ := c k z hz; ⟨t, d, s _ _ e⟩⟩
theorem sum_take_le : ∀ {l : List Met}, (∀ m ∈ l, 1 ≤ m.2) → ∀ k, ((l.take k).map (·.2)).sum ≤ (l.map (·.2)).sum
  | [], _, k => by simp
  | x :: l, h, 0 => by
    have h1 := h x List.mem_cons_self
    have h2 := sum_take_le (fun m hm => h m (List.mem_cons_of_mem _ hm)) 0 (l := l)
    rw [List.take_zero, List.map_nil, List.sum_nil] at h2 ⊢
    rw [List.map_cons, List.sum_cons]
    omega
  | x :: l, h, k + 1 => by
    have h2 := sum_take_le (fun m hm => h m (List.mem_cons_of_mem _ hm)) k (l := l)
    rw [List.take_succ_cons, List.map_cons, List.map_cons, List.sum_cons, List.sum_cons]
    omega
theorem lots_good {ws : List Int} (hw : ∀ w ∈ ws, 0 ≤ w ∧ w ≤ 3) (hp : 0 < ws.sum) : (!(terms ws ws.sum).isEmpty && lotsB (terms ws ws.sum)) = true := by
  have e := lots_due (ps := ws) (w := ws.sum) (by omega) [] (.inl rfl)
  rw [List.append_nil] at e
  unfold lotsB
  rw [e]
  unfold due0
  have n : (ws.any fun p => decide (p * ws.sum < 0)) = false := by
    rw [List.any_eq_false]
    intro w h
    have := hw w h
    have := Int.mul_nonneg this.1 (show 0 ≤ ws.sum by omega)
    simp only [decide_eq_true_eq]
    omega
  rw [n]
  cases ws with
  | nil => simp at hp
  | cons p t => simp [terms]
theorem once_eq {es : List Ent} (h : Once es) {k k' : Nat} {e e' : Ent} (h1 : es[k]? = some e) (h2 : es[k']? = some e') (he : keyD (.tuple e.m.1) = keyD (.tuple e'.m.1)) : e = e' := by
  obtain ⟨l1, g1⟩ := List.getElem?_eq_some_iff.mp h1
  obtain ⟨l2, g2⟩ := List.getElem?_eq_some_iff.mp h2
  rcases Nat.lt_trichotomy k k' with z | z | z
  · have := List.pairwise_iff_getElem.mp h k k' l1 l2 z
    rw [g1, g2] at this
    exact absurd he this
  · subst z
    rw [h1] at h2
    cases h2
    rfl
  · have := List.pairwise_iff_getElem.mp h k' k l2 l1 z
    rw [g1, g2] at this
    exact absurd he.symm this
def DueIs (gs : List Ent) (m : Met) (j : Nat) (ds : List (Int × Int)) : Prop :=
  (∃ (k : Nat) (e : Ent), k < j ∧ gs[k]? = some e ∧ e.m.1 = m.1 ∧ (e.ws.length : Int) = m.2 ∧ ds = terms e.ws e.ws.sum) ∨ ((∀ (k : Nat) (e : Ent), k < j → gs[k]? = some e → ¬ (e.m.1 = m.1 ∧ (e.ws.length : Int) = m.2)) ∧ ds = dflt m.2)
theorem key_view {a b : Met} (ha : MOk a) (hb : MOk b) : (keyD (.tuple a.1) = keyD (.tuple b.1)) ↔ a.1 = b.1 := ⟨fun h => by
  have := keyD_inj _ _ ha.view.1 hb.view.1 h
  injection this, fun h => by rw [h]⟩
theorem eqv_same {a b : Met} (hb : MOk b) (h : a.1 = b.1) : PyData.eqv (.tuple a.1) (.tuple b.1) = true := by
  rw [h]
  exact SeqAt.eqv_refl _ hb.view.2.1
theorem eqv_diff {a b : Met} (ha : MOk a) (hb : MOk b) (h : ¬ a.1 = b.1) : PyData.eqv (.tuple a.1) (.tuple b.1) = false := by
  cases z : PyData.eqv (.tuple a.1) (.tuple b.1) with
  | false => rfl
  | true =>
    have := eqv_plain _ _ ha.view.1 hb.view.1 z
    exact absurd (by injection this) h
theorem DueIs.uniq {gs : List Ent} {m : Met} {ds : List (Int × Int)} (h : DueIs gs m gs.length ds) (ho : Once gs) (hk : ∀ e ∈ gs, MOk e.m) (hm : MOk m) : ∀ rs, LotsIs gs m.1 m.2 rs → rs = ds := by
  intro rs hr
  rcases hr with ⟨k, e, h1, h2, h3⟩ | ⟨h1, rfl⟩
  · have e1 := (key_view (hk e (List.mem_of_getElem? h1)) hm).mp h2
    have kl := (List.getElem?_eq_some_iff.mp h1).1
    rcases h with ⟨k', e', _, g1, g2, g3, rfl⟩ | ⟨g1, rfl⟩
    · obtain rfl := once_eq ho h1 g1 (by rw [e1, g2])
      rcases h3 with ⟨_, rfl⟩ | ⟨n, _⟩
      · rfl
      · exact absurd g3 n
    · rcases h3 with ⟨n, _⟩ | ⟨_, rfl⟩
      · exact absurd ⟨e1, n⟩ (g1 k e kl h1)
      · rfl
  · rcases h with ⟨k', e', _, g1, g2, _, rfl⟩ | ⟨_, rfl⟩
    · exact absurd (by rw [g2]) (h1 e' (List.mem_of_getElem? g1))
    · rfl
theorem stays_due {ds : List (Int × Int)} : Stays fun H k y => ∃ z t, ds[k]? = some z ∧ y = .ref t ∧ H t = some (.tup [.int z.1, .int z.2]) :=
  ⟨fun H H' k y s ⟨z, t, a, b, c⟩ => ⟨z, t, a, b, s _ _ c⟩, fun H D zs zs' k y e ⟨z, t, a, b, c⟩ => ⟨z, t, a, b, by rw [upd_ne (ne_of c e (by intro z; cases z))]; exact c⟩⟩
theorem due_of {H : Hp} {D : Addr} {ys : List V} {ds : List (Int × Int)} (e : H D = some (.lst ys)) (hl : ys.length = ds.length) (h : ∀ (k : Nat) y, ys[k]? = some y → ∃ z t, ds[k]? = some z ∧ y = .ref t ∧ H t = some (.tup [.int z.1, .int z.2])) : DueAt H D ds :=
  ⟨ys, e, hl, fun k z hz => by
    obtain ⟨y, hy⟩ : ∃ y, ys[k]? = some y := ⟨_, List.getElem?_eq_getElem (by have := (List.getElem?_eq_some_iff.mp hz).1; omega)⟩
    obtain ⟨z', t, a, rfl, c⟩ := h k y hy
    rw [hz] at a
    cases a
    exact ⟨t, hy, c⟩⟩

inductive Tr where
  | fin (p : Int)
  | lot (ps : List Tr)
  | turn (pl : Int) (v : List PyData) (ps : List Tr)
mutual
inductive TrAt (K : PySem.W.Frag) (CE CL CT : Addr) (H : Hp) : V → Tr → Prop where
  | fin {a dx : Addr} {p : Int} : H a = some (.ins CE dx (F_End (.int p))) → TrAt K CE CL CT H (.ref a) (.fin p)
  | lot {a dx t : Addr} {xs : List V} {ps : List Tr} : H a = some (.ins CL dx (F_Lot (.ref t))) → H t = some (.tup xs) → TrsAt K CE CL CT H xs ps → TrAt K CE CL CT H (.ref a) (.lot ps)
  | turn {a dx v t : Addr} {pl : Int} {vd : List PyData} {xs : List V} {ps : List Tr} : H a = some (.ins CT dx (F_Turn (.int pl) (.ref v) (.ref t))) → Dp K H (.ref v) (.tuple vd) → Itms vd → H t = some (.tup xs) → TrsAt K CE CL CT H xs ps → TrAt K CE CL CT H (.ref a) (.turn pl vd ps)
inductive TrsAt (K : PySem.W.Frag) (CE CL CT : Addr) (H : Hp) : List V → List Tr → Prop where
  | nil : TrsAt K CE CL CT H [] []
  | cons {x : V} {xs : List V} {t : Tr} {ts : List Tr} : TrAt K CE CL CT H x t → TrsAt K CE CL CT H xs ts → TrsAt K CE CL CT H (x :: xs) (t :: ts)
end
theorem Itms.plain {ds : List PyData} (h : Itms ds) : plainK (.tuple ds) = true ∧ (keyD (.tuple ds)).depth ≤ 2 := by
  refine ⟨by simp only [plainK, h.k], ?_⟩
  have := h.n
  simp only [keyD, NestedKey.depth]
  omega
mutual
theorem trAt_off {K : PySem.W.Frag} {CE CL CT : Addr} {S : Addr → Prop} {H H' : Hp} (o : Off S H H') (n : NoT S H) (ni : ∀ c C dx fs, S c → H c ≠ some (.ins C dx fs)) : ∀ (t : Tr) (v : V), TrAt K CE CL CT H v t → TrAt K CE CL CT H' v t
  | .fin p, _, h => by
    cases h with
    | fin e => exact .fin (o _ _ (fun z => ni _ _ _ _ z e) e)
  | .lot ps, _, h => by
    cases h with
    | lot e e2 hs => exact .lot (o _ _ (fun z => ni _ _ _ _ z e) e) (o _ _ (fun z => (n _ _ z).1 e2) e2) (trsAt_off o n ni ps _ hs)
  | .turn pl vd ps, _, h => by
    cases h with
    | turn e dv iv e2 hs => exact .turn (o _ _ (fun z => ni _ _ _ _ z e) e) (dp_off o n _ _ iv.plain.1 dv) iv (o _ _ (fun z => (n _ _ z).1 e2) e2) (trsAt_off o n ni ps _ hs)
theorem trsAt_off {K : PySem.W.Frag} {CE CL CT : Addr} {S : Addr → Prop} {H H' : Hp} (o : Off S H H') (n : NoT S H) (ni : ∀ c C dx fs, S c → H c ≠ some (.ins C dx fs)) : ∀ (ts : List Tr) (vs : List V), TrsAt K CE CL CT H vs ts → TrsAt K CE CL CT H' vs ts
  | [], _, h => by cases h; exact .nil
  | t :: ts, _, h => by
    cases h with
    | cons h1 h2 => exact .cons (trAt_off o n ni t _ h1) (trsAt_off o n ni ts _ h2)
end
theorem trAt_same {K : PySem.W.Frag} {CE CL CT : Addr} {H H' : Hp} (s : Same H H') {t : Tr} {v : V} (h : TrAt K CE CL CT H v t) : TrAt K CE CL CT H' v t := trAt_off (S := fun _ => False) (fun c o _ e => s c o e) (fun c xs z => z.elim) (fun c C dx fs z => z.elim) t v h
theorem trsAt_same {K : PySem.W.Frag} {CE CL CT : Addr} {H H' : Hp} (s : Same H H') {t : List Tr} {v : List V} (h : TrsAt K CE CL CT H v t) : TrsAt K CE CL CT H' v t := trsAt_off (S := fun _ => False) (fun c o _ e => s c o e) (fun c xs z => z.elim) (fun c C dx fs z => z.elim) t v h
theorem trsAt_len {K : PySem.W.Frag} {CE CL CT : Addr} {H : Hp} : ∀ {ts : List Tr} {vs : List V}, TrsAt K CE CL CT H vs ts → vs.length = ts.length
  | [], _, h => by cases h; rfl
  | t :: ts, _, h => by
    cases h with
    | cons h1 h2 => rw [List.length_cons, List.length_cons, trsAt_len h2]
theorem trsAt_get {K : PySem.W.Frag} {CE CL CT : Addr} {H : Hp} : ∀ {ts : List Tr} {vs : List V} {i : Nat} {t : Tr}, TrsAt K CE CL CT H vs ts → ts[i]? = some t → ∃ v, vs[i]? = some v ∧ TrAt K CE CL CT H v t
  | [], _, _, _, _, h => by simp at h
  | t :: ts, _, 0, _, h, e => by
    cases e
    cases h with
    | cons h1 h2 => exact ⟨_, rfl, h1⟩
  | t :: ts, _, i + 1, u, h, e => by
    have e' : ts[i]? = some u := by simpa using e
    cases h with
    | cons h1 h2 =>
      obtain ⟨v, hv, hv2⟩ := trsAt_get h2 e'
      exact ⟨v, by simpa using hv, hv2⟩
theorem trsAt_snoc {K : PySem.W.Frag} {CE CL CT : Addr} {H : Hp} {t : Tr} {v : V} (h : TrAt K CE CL CT H v t) : ∀ {ts : List Tr} {vs : List V}, TrsAt K CE CL CT H vs ts → TrsAt K CE CL CT H (vs ++ [v]) (ts ++ [t])
  | [], _, k => by cases k; exact .cons h .nil
  | _ :: _, _, k => by
    cases k with
    | cons h1 h2 => exact .cons h1 (trsAt_snoc h h2)
/-- the place of a path among the payments -/
def idxD (st : List Stg) (path : List Int) : Nat → Int
  | 0 => 0
  | k + 1 => match st[k]?, path[k]? with
    | some s, some x => idxD st path k * s.n + x
    | _, _ => idxD st path k
def PathIn (st : List Stg) (path : List Int) : Prop := ∀ (j : Nat) x s, path[j]? = some x → st[j]? = some s → 0 ≤ x ∧ x < s.n
theorem idx_bd {st : List Stg} {path : List Int} (h : PathIn st path) : ∀ {k : Nat}, k ≤ path.length → k ≤ st.length → 0 ≤ idxD st path k ∧ idxD st path k < prodN (st.take k)
  | 0, _, _ => ⟨Int.le_refl _, by show (0 : Int) < 1; decide⟩
  | k + 1, hp, hs => by
    obtain ⟨h1, h2⟩ := idx_bd h (k := k) (by omega) (by omega)
    have es : st[k]? = some st[k] := List.getElem?_eq_getElem (by omega)
    have ep : path[k]? = some path[k] := List.getElem?_eq_getElem (by omega)
    have hb := h k _ _ ep es
    have e : idxD st path (k + 1) = idxD st path k * (st[k]).n + path[k] := by
      show (match st[k]?, path[k]? with | some s, some x => _ | _, _ => _) = _
      rw [es, ep]
    rw [e, List.take_add_one, es, Option.toList_some, prodN_snoc]
    have h3 := Int.mul_nonneg h1 (show 0 ≤ (st[k]).n by omega)
    have h4 : (idxD st path k + 1) * (st[k]).n ≤ prodN (st.take k) * (st[k]).n := Int.mul_le_mul_of_nonneg_right (by omega) (by omega)
    rw [Int.add_mul] at h4
    omega
/-- the tree below a path -/
def nodeD (st : List Stg) (paid : List Int) : Nat → List Int → Tr
  | 0, path => .fin (paid.getD (idxD st path path.length).toNat 0)
  | f + 1, path => match st[path.length]? with
    | some s => if s.w = 0 then .lot ((List.range s.n.toNat).map fun (j : Nat) => nodeD st paid f (path ++ [(j : Int)])) else .turn s.w (askD st path s) ((List.range s.n.toNat).map fun (j : Nat) => nodeD st paid f (path ++ [(j : Int)]))
    | none => .fin 0
theorem nodeD_at {st : List Stg} {paid : List Int} {f : Nat} {path : List Int} {s : Stg} (h : st[path.length]? = some s) : nodeD st paid (f + 1) path = if s.w = 0 then .lot ((List.range s.n.toNat).map fun (j : Nat) => nodeD st paid f (path ++ [(j : Int)])) else .turn s.w (askD st path s) ((List.range s.n.toNat).map fun (j : Nat) => nodeD st paid f (path ++ [(j : Int)])) := by
  show (match st[path.length]? with | some s => _ | none => _) = _
  rw [h]
theorem path_snoc {st : List Stg} {path : List Int} {x : Int} {s : Stg} (h : PathIn st path) (hs : st[path.length]? = some s) (hx : 0 ≤ x ∧ x < s.n) : PathIn st (path ++ [x]) := fun j y s' hy hs' => by
  rcases Nat.lt_or_ge j path.length with z | z
  · rw [List.getElem?_append_left z] at hy
    exact h j y s' hy hs'
  · have hj := (List.getElem?_eq_some_iff.mp hy).1
    rw [List.length_append, List.length_singleton] at hj
    obtain rfl : j = path.length := by omega
    rw [List.getElem?_append_right (Nat.le_refl _), Nat.sub_self] at hy
    cases hy
    rw [hs] at hs'
    cases hs'
    exact hx
theorem ask_itms {st : List Stg} {path : List Int} {s : Stg} : Itms (askD st path s) := itms fun d h => by
  rcases List.mem_append.mp h with h | h
  · exact vStep_itm _ _ _ _ d h
  · rw [List.mem_singleton.mp h]
    exact itm_move _ _
def kAdd (acc : List Met) (m : Met) : List Met := if (acc.any fun z => decide (keyD (.tuple z.1) = keyD (.tuple m.1))) = true then acc else acc ++ [m]
mutual
/-- the views of a tree, in the order in which they are met -/
def collD (pl : Int) : Tr → List Met → List Met
  | .fin _, acc => acc
  | .lot ps, acc => collsD pl ps acc
  | .turn p v ps, acc => collsD pl ps (if p = pl then kAdd acc (v, (ps.length : Int)) else acc)
def collsD (pl : Int) : List Tr → List Met → List Met
  | [], acc => acc
  | t :: ts, acc => collsD pl ts (collD pl t acc)
end
mutual
def hgt : Tr → Nat
  | .fin _ => 0
  | .lot ps => hgts ps + 1
  | .turn _ _ ps => hgts ps + 1
def hgts : List Tr → Nat
  | [] => 0
  | t :: ts => max (hgt t) (hgts ts)
end
mutual
def szT : Tr → Nat
  | .fin _ => 1
  | .lot ps => szTs ps + 1
  | .turn _ _ ps => szTs ps + 1
def szTs : List Tr → Nat
  | [] => 0
  | t :: ts => szT t + szTs ts
end
theorem collsD_snoc {pl : Int} {t : Tr} : ∀ {ts : List Tr} {acc : List Met}, collsD pl (ts ++ [t]) acc = collD pl t (collsD pl ts acc)
  | [], acc => rfl
  | u :: ts, acc => by
    show collsD pl (ts ++ [t]) (collD pl u acc) = collD pl t (collsD pl ts (collD pl u acc))
    exact collsD_snoc
theorem hgts_mem {t : Tr} : ∀ {ts : List Tr}, t ∈ ts → hgt t ≤ hgts ts
  | u :: ts, h => by
    show hgt t ≤ max (hgt u) (hgts ts)
    rcases List.mem_cons.mp h with h' | h'
    · rw [h']
      omega
    · have := hgts_mem h'
      omega
theorem szTs_take {t : Tr} : ∀ {ts : List Tr} {i : Nat}, ts[i]? = some t → szTs (ts.take i) + szT t ≤ szTs ts
  | u :: ts, 0, h => by
    have e : u = t := by simpa using h
    rw [e]
    show 0 + szT t ≤ szT t + szTs ts
    omega
  | u :: ts, i + 1, h => by
    have h' : ts[i]? = some t := by simpa using h
    have := szTs_take h'
    show szT u + szTs (ts.take i) + szT t ≤ szT u + szTs ts
    omega
theorem kAdd_len {acc : List Met} {m : Met} : (kAdd acc m).length ≤ acc.length + 1 := by
  unfold kAdd
  split
  · exact Nat.le_succ _
  · rw [List.length_append]; exact Nat.le_refl _
mutual
theorem coll_len {pl : Int} : ∀ (t : Tr) (acc : List Met), (collD pl t acc).length ≤ acc.length + szT t
  | .fin _, acc => Nat.le_succ _
  | .lot ps, acc => by
    have := colls_len (pl := pl) ps acc
    show (collsD pl ps acc).length ≤ acc.length + (szTs ps + 1)
    omega
  | .turn p v ps, acc => by
    have := colls_len (pl := pl) ps (if p = pl then kAdd acc (v, (ps.length : Int)) else acc)
    have h2 : (if p = pl then kAdd acc (v, (ps.length : Int)) else acc).length ≤ acc.length + 1 := by
      split
      · exact kAdd_len
      · exact Nat.le_succ _
    show (collsD pl ps _).length ≤ acc.length + (szTs ps + 1)
    omega
theorem colls_len {pl : Int} : ∀ (ts : List Tr) (acc : List Met), (collsD pl ts acc).length ≤ acc.length + szTs ts
  | [], acc => Nat.le_refl _
  | t :: ts, acc => by
    have h1 := coll_len (pl := pl) t acc
    have h2 := colls_len (pl := pl) ts (collD pl t acc)
    show (collsD pl ts (collD pl t acc)).length ≤ acc.length + (szT t + szTs ts)
    omega
end
/-- the dict of the views that were found -/
structure DAt (P : Program) (w : World) (K : PySem.W.Frag) (H : Hp) (d : Addr) (ms : List Met) : Prop where
  ex : ∃ xs : List NRow, H d = some (ndO P w d xs) ∧ xs.length = ms.length ∧ ∀ (k : Nat) m, ms[k]? = some m → ∃ v, xs[k]? = some (.tuple m.1, v, .int m.2) ∧ Dp K H (.ref v) (.tuple m.1)
  ok : ∀ m ∈ ms, Itms m.1
theorem DAt.row {P : Program} {w : World} {K : PySem.W.Frag} {H : Hp} {d : Addr} {ms : List Met} (h : DAt P w K H d ms) : ∃ xs : List NRow, H d = some (ndO P w d xs) ∧ xs.length = ms.length ∧ NKeys K H xs ∧ (∀ key, (nAt xs key).isSome = ms.any fun z => decide (keyD (.tuple z.1) = key)) ∧ ∀ (k : Nat) m, ms[k]? = some m → ∃ v, xs[k]? = some (.tuple m.1, v, .int m.2) ∧ Dp K H (.ref v) (.tuple m.1) := by
  obtain ⟨xs, e, hl, hf⟩ := h.ex
  have back : ∀ (k : Nat) y, xs[k]? = some y → ∃ m v, ms[k]? = some m ∧ y = (.tuple m.1, v, .int m.2) ∧ Dp K H (.ref v) (.tuple m.1) := fun k y hy => by
    obtain ⟨m, hm⟩ : ∃ m, ms[k]? = some m := ⟨_, List.getElem?_eq_getElem (by have := (List.getElem?_eq_some_iff.mp hy).1; omega)⟩
    obtain ⟨v, e1, e2⟩ := hf k m hm
    rw [hy] at e1
    cases e1
    exact ⟨m, v, hm, rfl, e2⟩
  refine ⟨xs, e, hl, fun y hy => ?_, fun key => ?_, hf⟩
  · obtain ⟨k, hk⟩ := List.mem_iff_getElem?.mp hy
    obtain ⟨m, v, e1, rfl, e2⟩ := back k y hk
    have it := (h.ok m (List.mem_of_getElem? e1)).plain
    exact ⟨it.1, by have := it.2; show (keyD (.tuple m.1)).depth ≤ 8; omega, e2⟩
  · rw [nAt_any, Bool.eq_iff_iff, List.any_eq_true, List.any_eq_true]
    constructor
    · rintro ⟨y, hy, hd⟩
      obtain ⟨k, hk⟩ := List.mem_iff_getElem?.mp hy
      obtain ⟨m, v, e1, rfl, _⟩ := back k y hk
      exact ⟨m, List.mem_of_getElem? e1, hd⟩
    · rintro ⟨m, hm, hd⟩
      obtain ⟨k, hk⟩ := List.mem_iff_getElem?.mp hm
      obtain ⟨v, e1, _⟩ := hf k m hk
      exact ⟨_, List.mem_of_getElem? e1, hd⟩
theorem noT_nd {P : Program} {w : World} {H : Hp} {d : Addr} {xs : List NRow} (e : H d = some (ndO P w d xs)) : NoT (fun c => c = d) H ∧ ∀ c C dx fs, c = d → H c ≠ some (.ins C dx fs) := ⟨fun c ys z => by
  rw [z, e]
  exact ⟨fun e => (by cases e), fun o e => (by cases e)⟩, fun c C dx fs z => by
  rw [z, e]
  intro e
  cases e⟩

/-! the views at which a player is asked -/
theorem prodN_pos : ∀ {st : List Stg}, (∀ s ∈ st, 1 ≤ s.n) → 1 ≤ prodN st
  | [], _ => by decide
  | s :: r, h => by
    have h1 := h s List.mem_cons_self
    have h2 : 1 ≤ prodN r := prodN_pos fun x hx => h x (List.mem_cons_of_mem _ hx)
    have := Int.mul_le_mul h1 h2 (by decide) (by omega)
    show 1 ≤ s.n * prodN r
    omega
theorem prodN_take : ∀ {st : List Stg}, (∀ s ∈ st, 1 ≤ s.n) → ∀ k, prodN (st.take k) ≤ prodN st
  | [], _, k => by simp
  | s :: r, h, 0 => prodN_pos h
  | s :: r, h, k + 1 => by
    have h1 := h s List.mem_cons_self
    have h2 : prodN (r.take k) ≤ prodN r := prodN_take (fun x hx => h x (List.mem_cons_of_mem _ hx)) k
    show s.n * prodN (r.take k) ≤ s.n * prodN r
    exact Int.mul_le_mul_of_nonneg_left h2 (by omega)
theorem flat_card {n : Nat} : ∀ l : List (List Int), (l.flatMap fun p => (List.range n).map fun (j : Nat) => p ++ [(j : Int)]).length = l.length * n
  | [] => by simp
  | p :: l => by
    rw [List.flatMap_cons, List.length_append, flat_card l, List.length_map, List.length_range, List.length_cons, Nat.add_mul]
    omega
theorem pStep_card {st : List Stg} (h : ∀ s ∈ st, 1 ≤ s.n) : ∀ {k : Nat}, k ≤ st.length → ((pStep st k).length : Int) = prodN (st.take k)
  | 0, _ => rfl
  | k + 1, hk => by
    have e : st[k]? = some st[k] := List.getElem?_eq_getElem (by omega)
    have h1 := h _ (List.mem_of_getElem? e)
    rw [pStep_at e, flat_card, List.take_add_one, e, Option.toList_some, prodN_snoc, ← pStep_card h (by omega), Int.natCast_mul]
    congr 1
    omega
theorem pStep_take {st : List Stg} : ∀ {n : Nat}, n ≤ st.length → ∀ {j : Nat}, j ≤ n → ∀ p ∈ pStep st n, p.take j ∈ pStep st j
  | 0, _, j, hj, p, h => by
    obtain rfl : j = 0 := by omega
    rw [List.take_zero]
    exact List.mem_singleton.mpr rfl
  | n + 1, hn, j, hj, p, h => by
    have pl := pStep_mem hn p h
    rcases Nat.lt_or_ge n j with z | z
    · obtain rfl : j = n + 1 := by omega
      rw [List.take_of_length_le (by omega)]
      exact h
    · have e : st[n]? = some st[n] := List.getElem?_eq_getElem (by omega)
      rw [pStep_at e] at h
      obtain ⟨q, hq, hp⟩ := List.mem_flatMap.mp h
      obtain ⟨i, _, rfl⟩ := List.mem_map.mp hp
      have ql := pStep_mem (by omega) q hq
      rw [List.take_append_of_le_length (by omega)]
      exact pStep_take (by omega) z q hq
theorem pStep_val {st : List Stg} : ∀ {n : Nat}, n ≤ st.length → ∀ p ∈ pStep st n, ∀ (j : Nat) x s, p[j]? = some x → st[j]? = some s → 0 ≤ x ∧ x < s.n
  | 0, _, p, h, j, x, s, hx, _ => by
    rw [List.mem_singleton.mp h] at hx
    simp at hx
  | n + 1, hn, p, h, j, x, s, hx, hs => by
    have e : st[n]? = some st[n] := List.getElem?_eq_getElem (by omega)
    rw [pStep_at e] at h
    obtain ⟨q, hq, hp⟩ := List.mem_flatMap.mp h
    obtain ⟨i, hi, rfl⟩ := List.mem_map.mp hp
    have ql := pStep_mem (by omega) q hq
    rcases Nat.lt_or_ge j n with z | z
    · rw [List.getElem?_append_left (by omega)] at hx
      exact pStep_val (by omega) q hq j x s hx hs
    · have hj := (List.getElem?_eq_some_iff.mp hx).1
      rw [List.length_append, List.length_singleton] at hj
      obtain rfl : j = n := by omega
      rw [List.getElem?_append_right (by omega), ql, Nat.sub_self] at hx
      cases hx
      rw [e] at hs
      cases hs
      have := List.mem_range.mp hi
      omega
def candL (st : List Stg) : Nat → List Met
  | 0 => []
  | k + 1 => candL st k ++ (match st[k]? with | some s => (pStep st k).map (fun p => (askD st p s, s.n)) | none => [])
theorem sum_const {n : Int} {f : List Int → List PyData} : ∀ l : List (List Int), ((l.map fun p => ((f p, n) : Met)).map (·.2)).sum = l.length * n
  | [] => by simp
  | p :: l => by
    have := sum_const (n := n) (f := f) l
    rw [List.map_cons, List.map_cons, List.sum_cons, this, List.length_cons]
    push_cast
    rw [Int.add_mul]
    omega
theorem cand_sum {st : List Stg} {M : Int} (h : ∀ s ∈ st, 1 ≤ s.n) (hM : prodN st ≤ M) : ∀ {k : Nat}, k ≤ st.length → ((candL st k).map (·.2)).sum ≤ k * M
  | 0, _ => by simp [candL]
  | k + 1, hk => by
    have ih := cand_sum h hM (k := k) (by omega)
    have e : st[k]? = some st[k] := List.getElem?_eq_getElem (by omega)
    have p := prodN_take h (k + 1)
    rw [List.take_add_one, e, Option.toList_some, prodN_snoc, ← pStep_card h (by omega)] at p
    unfold candL
    rw [e, List.map_append, List.sum_append, sum_const]
    push_cast
    rw [Int.add_mul]
    omega
theorem cand_mem {st : List Stg} {p : List Int} {s : Stg} {k : Nat} (hs : st[k]? = some s) (hp : p ∈ pStep st k) : ∀ {n : Nat}, k < n → (askD st p s, s.n) ∈ candL st n
  | n + 1, hk => by
    unfold candL
    rcases Nat.lt_or_ge k n with z | z
    · exact List.mem_append_left _ (cand_mem hs hp z)
    · obtain rfl : k = n := by omega
      refine List.mem_append_right _ ?_
      rw [hs]
      exact List.mem_map.mpr ⟨p, hp, rfl⟩
theorem sum_nn : ∀ {b : List Met}, (∀ x ∈ b, 0 ≤ x.2) → 0 ≤ (b.map (·.2)).sum
  | [], _ => by simp
  | y :: r, h => by
    have h1 := h y List.mem_cons_self
    have h2 : 0 ≤ (r.map (·.2)).sum := sum_nn fun x hx => h x (List.mem_cons_of_mem _ hx)
    rw [List.map_cons, List.sum_cons]
    omega
/-- a list without repeats sums to at most what holds all its items -/
theorem nodup_sum : ∀ {a b : List Met}, a.Pairwise (· ≠ ·) → (∀ x ∈ a, x ∈ b) → (∀ x ∈ b, 0 ≤ x.2) → (a.map (·.2)).sum ≤ (b.map (·.2)).sum
  | [], b, _, _, h => sum_nn h
  | x :: a, b, hp, hs, h => by
    obtain ⟨u, v, rfl⟩ := List.append_of_mem (hs x List.mem_cons_self)
    rw [List.pairwise_cons] at hp
    have ih := nodup_sum (a := a) (b := u ++ v) hp.2 (fun y hy => by
      rcases List.mem_append.mp (hs y (List.mem_cons_of_mem _ hy)) with z | z
      · exact List.mem_append_left _ z
      · rcases List.mem_cons.mp z with z | z
        · exact absurd z.symm (hp.1 y hy)
        · exact List.mem_append_right _ z) fun y hy => h y (by
      rcases List.mem_append.mp hy with z | z
      · exact List.mem_append_left _ z
      · exact List.mem_append_right _ (List.mem_cons_of_mem _ z))
    rw [List.map_append, List.sum_append] at ih
    rw [List.map_cons, List.sum_cons, List.map_append, List.sum_append, List.map_cons, List.sum_cons]
    omega
theorem mAdd_keep {acc : List Met} {o : Option Met} {x : Met} (h : x ∈ acc) : x ∈ mAdd acc o := by
  cases o with
  | none => exact h
  | some m =>
    show x ∈ (if _ then _ else _ : List Met)
    split
    · exact h
    · exact List.mem_append_left _ h
theorem mAdd_has {acc : List Met} {m : Met} (ok : ∀ x ∈ acc, MOk x) (hm : MOk m) : m ∈ mAdd acc (some m) := by
  cases z : acc.any fun z => PyData.eqv (mD z) (mD m) with
  | false =>
    rw [mAdd_new z]
    exact List.mem_append_right _ (List.mem_singleton.mpr rfl)
  | true =>
    rw [mAdd_old z]
    obtain ⟨x, hx, he⟩ := List.any_eq_true.mp z
    have := eqv_plain _ _ (ok x hx).lay.1 hm.lay.1 he
    have e : x = m := by
      simp only [mD, PyData.tuple.injEq, List.cons.injEq, PyData.int.injEq] at this
      exact Prod.ext this.1 this.2.1
    rw [← e]
    exact hx
theorem mAdd_sub {acc : List Met} {o : Option Met} {x : Met} (h : x ∈ mAdd acc o) : x ∈ acc ∨ o = some x := by
  cases o with
  | none => exact .inl h
  | some m =>
    have h : x ∈ (if _ then acc else acc ++ [m] : List Met) := h
    split at h
    · exact .inl h
    · rcases List.mem_append.mp h with h | h
      · exact .inl h
      · rw [List.mem_singleton.mp h]; exact .inr rfl
theorem mRow_keep {st : List Stg} {pl : Int} {p : List Int} {acc : List Met} {x : Met} (h : x ∈ acc) : ∀ n, x ∈ mRow st pl p acc n
  | 0 => h
  | n + 1 => by rw [mRow_succ]; exact mAdd_keep (mRow_keep h n)
theorem mRow_ok {st : List Stg} {pl : Int} {p : List Int} {acc : List Met} (hl : st.length ≤ 4) (ok : ∀ s ∈ st, 1 ≤ s.n ∧ s.n ≤ 3) (h : Mets acc) : ∀ {n : Nat}, n ≤ p.length → Mets (mRow st pl p acc n)
  | 0, _ => h
  | n + 1, hn => by rw [mRow_succ]; exact (mRow_ok hl ok h (by omega)).add fun m hm => mItem_ok hl ok (by omega) hm
theorem mRow_has {st : List Stg} {pl : Int} {p : List Int} {acc : List Met} {k : Nat} {m : Met} (hl : st.length ≤ 4) (ok : ∀ s ∈ st, 1 ≤ s.n ∧ s.n ≤ 3) (h : Mets acc) (hm : mItem st pl p k = some m) : ∀ {n : Nat}, n ≤ p.length → k < n → m ∈ mRow st pl p acc n
  | n + 1, hn, hk => by
    rw [mRow_succ]
    rcases Nat.lt_or_ge k n with z | z
    · exact mAdd_keep (mRow_has hl ok h hm (by omega) z)
    · obtain rfl : k = n := by omega
      rw [hm]
      exact mAdd_has (mRow_ok hl ok h (by omega)).ok (mItem_ok hl ok (by omega) hm)
theorem mRow_sub {st : List Stg} {pl : Int} {p : List Int} {acc : List Met} {x : Met} : ∀ {n : Nat}, x ∈ mRow st pl p acc n → x ∈ acc ∨ ∃ k, k < n ∧ mItem st pl p k = some x
  | 0, h => .inl h
  | n + 1, h => by
    rw [mRow_succ] at h
    rcases mAdd_sub h with h | h
    · rcases mRow_sub h with h | ⟨k, h1, h2⟩
      · exact .inl h
      · exact .inr ⟨k, by omega, h2⟩
    · exact .inr ⟨n, Nat.lt_succ_self n, h⟩
theorem mRows_all {st : List Stg} {pl : Int} (hl : st.length ≤ 4) (ok : ∀ s ∈ st, 1 ≤ s.n ∧ s.n ≤ 3) : ∀ (ps : List (List Int)) (acc : List Met), (∀ p ∈ ps, p.length = st.length) → Mets acc →
    (∀ x ∈ acc, x ∈ ps.foldl (fun a p => mRow st pl p a st.length) acc) ∧ (∀ p ∈ ps, ∀ k m, k < st.length → mItem st pl p k = some m → m ∈ ps.foldl (fun a p => mRow st pl p a st.length) acc) ∧
    (∀ x ∈ ps.foldl (fun a p => mRow st pl p a st.length) acc, x ∈ acc ∨ ∃ p k, p ∈ ps ∧ k < st.length ∧ mItem st pl p k = some x) ∧ Mets (ps.foldl (fun a p => mRow st pl p a st.length) acc)
  | [], acc, _, h => ⟨fun x hx => hx, fun p h => (nomatch h), fun x hx => .inl hx, h⟩
  | p :: ps, acc, hp, h => by
    have pl0 := hp p List.mem_cons_self
    have ok1 := mRow_ok (pl := pl) (p := p) hl ok h (n := st.length) (by omega)
    obtain ⟨a1, a2, a3, a4⟩ := mRows_all hl ok ps (mRow st pl p acc st.length) (fun q hq => hp q (List.mem_cons_of_mem _ hq)) ok1
    refine ⟨fun x hx => a1 x (mRow_keep hx _), fun q hq k m hk hm => ?_, fun x hx => ?_, a4⟩
    · rcases List.mem_cons.mp hq with rfl | hq
      · exact a1 m (mRow_has hl ok h hm (by omega) hk)
      · exact a2 q hq k m hk hm
    · rcases a3 x hx with hx | ⟨q, k, h1, h2, h3⟩
      · rcases mRow_sub hx with hx | ⟨k, h1, h2⟩
        · exact .inl hx
        · exact .inr ⟨p, k, List.mem_cons_self, h1, h2⟩
      · exact .inr ⟨q, k, List.mem_cons_of_mem _ h1, h2, h3⟩
theorem metD_has {st : List Stg} {pl : Int} (hl : st.length ≤ 4) (ok : ∀ s ∈ st, 1 ≤ s.n ∧ s.n ≤ 3) {p : List Int} (hp : p ∈ pathsD st) {k : Nat} {s : Stg} (hs : st[k]? = some s) (hw : s.w = pl) : (askD st (p.take k) s, s.n) ∈ metD st pl :=
  (mRows_all hl ok (pathsD st) [] (fun p h => pStep_mem (Nat.le_refl _) p h) ⟨fun _ h => (nomatch h), .nil⟩).2.1 p hp k _ (List.getElem?_eq_some_iff.mp hs).1 (by unfold mItem; rw [hs]; exact if_pos hw)
theorem metD_sub {st : List Stg} {pl : Int} (hl : st.length ≤ 4) (ok : ∀ s ∈ st, 1 ≤ s.n ∧ s.n ≤ 3) : ∀ m ∈ metD st pl, ∃ p k s, p ∈ pathsD st ∧ st[k]? = some s ∧ s.w = pl ∧ m = (askD st (p.take k) s, s.n) := by
  intro m hm
  rcases (mRows_all hl ok (pathsD st) [] (fun p h => pStep_mem (Nat.le_refl _) p h) ⟨fun _ h => (nomatch h), .nil⟩).2.2.1 m hm with h | ⟨p, k, h1, h2, h3⟩
  · exact nomatch h
  · unfold mItem at h3
    split at h3
    · rename_i s e
      split at h3
      · rename_i hw
        cases h3
        exact ⟨p, k, s, h1, e, hw, rfl⟩
      · cases h3
    · cases h3

/-! the views of the law's tree, met in the order of the ways -/
/-- the ways below a path, the first move slowest -/
def belowP (st : List Stg) : Nat → List Int → List (List Int)
  | 0, q => [q]
  | f + 1, q => match st[q.length]? with
    | some s => (List.range s.n.toNat).flatMap fun (j : Nat) => belowP st f (q ++ [(j : Int)])
    | none => [q]
theorem below_at {st : List Stg} {f : Nat} {q : List Int} {s : Stg} (h : st[q.length]? = some s) : belowP st (f + 1) q = (List.range s.n.toNat).flatMap fun (j : Nat) => belowP st f (q ++ [(j : Int)]) := by
  show (match st[q.length]? with | some s => _ | none => _) = _
  rw [h]
theorem pStep_below {st : List Stg} : ∀ {f k : Nat}, k + f = st.length → (pStep st k).flatMap (belowP st f) = pathsD st
  | 0, k, h => by
    obtain rfl : k = st.length := by omega
    show (pStep st st.length).flatMap (fun q => [q]) = pStep st st.length
    generalize pStep st st.length = l
    induction l with
    | nil => rfl
    | cons x l ih => rw [List.flatMap_cons, ih]; rfl
  | f + 1, k, h => by
    have e : st[k]? = some st[k] := List.getElem?_eq_getElem (by omega)
    rw [← pStep_below (f := f) (k := k + 1) (by omega), pStep_at e, List.flatMap_assoc]
    have mem := pStep_mem (st := st) (k := k) (by omega)
    generalize pStep st k = l at *
    induction l with
    | nil => rfl
    | cons x l ih =>
      rw [List.flatMap_cons, List.flatMap_cons, ih fun p hp => mem p (List.mem_cons_of_mem _ hp)]
      congr 1
      have xl := mem x List.mem_cons_self
      rw [below_at (by rw [xl]; exact e), List.flatMap_map]
theorem below_take {st : List Stg} : ∀ {f : Nat} {q : List Int}, ∀ p ∈ belowP st f q, p.take q.length = q ∧ q.length ≤ p.length
  | 0, q, p, h => by
    rw [List.mem_singleton.mp h]
    exact ⟨List.take_length, Nat.le_refl _⟩
  | f + 1, q, p, h => by
    cases e : st[q.length]? with
    | none =>
      have h : p ∈ (match st[q.length]? with | some s => _ | none => _ : List (List Int)) := h
      rw [e] at h
      rw [List.mem_singleton.mp h]
      exact ⟨List.take_length, Nat.le_refl _⟩
    | some s =>
      rw [below_at e] at h
      obtain ⟨j, _, hj⟩ := List.mem_flatMap.mp h
      obtain ⟨h1, h2⟩ := below_take p hj
      rw [List.length_append, List.length_singleton] at h1 h2
      refine ⟨?_, by omega⟩
      have := congrArg (List.take q.length) h1
      rw [List.take_take, Nat.min_eq_left (by omega), List.take_left' rfl] at this
      exact this
theorem below_len {st : List Stg} : ∀ {f : Nat} {q : List Int}, q.length + f = st.length → ∀ p ∈ belowP st f q, p.length = st.length
  | 0, q, hq, p, h => by
    rw [List.mem_singleton.mp h]
    exact hq
  | f + 1, q, hq, p, h => by
    have e : st[q.length]? = some st[q.length] := List.getElem?_eq_getElem (by omega)
    rw [below_at e] at h
    obtain ⟨j, _, hj⟩ := List.mem_flatMap.mp h
    exact below_len (by rw [List.length_append, List.length_singleton]; omega) p hj
theorem below_ne {st : List Stg} (ok : ∀ s ∈ st, 1 ≤ s.n ∧ s.n ≤ 3) : ∀ {f : Nat} {q : List Int}, ∃ p ps, belowP st f q = p :: ps
  | 0, q => ⟨q, [], rfl⟩
  | f + 1, q => by
    cases e : st[q.length]? with
    | none =>
      refine ⟨q, [], ?_⟩
      show (match st[q.length]? with | some s => _ | none => _ : List (List Int)) = _
      rw [e]
    | some s =>
      rw [below_at e]
      have h1 := ok s (List.mem_of_getElem? e)
      obtain ⟨n, hn⟩ : ∃ n, s.n.toNat = n + 1 := ⟨s.n.toNat - 1, by omega⟩
      rw [hn, List.range_succ_eq_map, List.flatMap_cons]
      obtain ⟨p, ps, h⟩ := below_ne ok (f := f) (q := q ++ [((0 : Nat) : Int)])
      rw [h]
      exact ⟨p, _, rfl⟩
theorem mItem_take {st : List Stg} {pl : Int} {p q : List Int} {k n : Nat} (h : p.take n = q.take n) (hk : k ≤ n) : mItem st pl p k = mItem st pl q k := by
  have e : p.take k = q.take k := by
    have := congrArg (List.take k) h
    rw [List.take_take, List.take_take, Nat.min_eq_left hk] at this
    exact this
  unfold mItem
  rw [e]
theorem mAdd_in {acc : List Met} {m : Met} (h : m ∈ acc) (hm : MOk m) : mAdd acc (some m) = acc :=
  mAdd_old (List.any_eq_true.mpr ⟨m, h, SeqAt.eqv_refl _ hm.lay.2.1⟩)
/-- the first k items of a path are there -/
def Had (st : List Stg) (pl : Int) (acc : List Met) (k : Nat) (q : List Int) : Prop := ∀ j, j < k → ∀ m, mItem st pl q j = some m → m ∈ acc
theorem had_row {st : List Stg} {pl : Int} {acc : List Met} {p : List Int} (hl : st.length ≤ 4) (ok : ∀ s ∈ st, 1 ≤ s.n ∧ s.n ≤ 3) : ∀ {k : Nat}, k ≤ p.length → Had st pl acc k p → mRow st pl p acc k = acc
  | 0, _, _ => rfl
  | k + 1, hk, h => by
    rw [mRow_succ, had_row hl ok (by omega) fun j hj => h j (by omega)]
    cases e : mItem st pl p k with
    | none => rfl
    | some m => exact mAdd_in (h k (by omega) m e) (mItem_ok hl ok (by omega) e)
theorem had_step {st : List Stg} {pl : Int} {acc : List Met} {p : List Int} (hl : st.length ≤ 4) (ok : ∀ s ∈ st, 1 ≤ s.n ∧ s.n ≤ 3) (ha : Mets acc) {k : Nat} (hk : k ≤ p.length) (h : Had st pl acc k p) : Had st pl (mAdd acc (mItem st pl p k)) (k + 1) p := fun j hj m hm => by
  rcases Nat.lt_or_ge j k with z | z
  · exact mAdd_keep (h j z m hm)
  · obtain rfl : j = k := by omega
    rw [hm]
    exact mAdd_has ha.ok (mItem_ok hl ok hk hm)
theorem row_step {st : List Stg} {pl : Int} {acc : List Met} {p : List Int} (hl : st.length ≤ 4) (ok : ∀ s ∈ st, 1 ≤ s.n ∧ s.n ≤ 3) (ha : Mets acc) {k : Nat} (h : Had st pl acc k p) : ∀ {n : Nat}, n ≤ p.length → k < n → mRow st pl p acc n = mRow st pl p (mAdd acc (mItem st pl p k)) n
  | n + 1, hn, hk => by
    rcases Nat.lt_or_ge k n with z | z
    · rw [mRow_succ, mRow_succ, row_step hl ok ha h (by omega) z]
    · obtain rfl : k = n := by omega
      rw [had_row hl ok (by omega) (had_step hl ok ha (by omega) h), mRow_succ, had_row hl ok (by omega) h]
abbrev rowsF (st : List Stg) (pl : Int) (acc : List Met) (ps : List (List Int)) : List Met := ps.foldl (fun a p => mRow st pl p a st.length) acc
theorem kAdd_mAdd {acc : List Met} {m : Met} (ok : ∀ x ∈ acc, MOk x) (hm : MOk m) : kAdd acc m = mAdd acc (some m) := by
  have key : (acc.any fun z => decide (keyD (.tuple z.1) = keyD (.tuple m.1))) = acc.any fun z => PyData.eqv (mD z) (mD m) := by
    rw [Bool.eq_iff_iff, List.any_eq_true, List.any_eq_true]
    constructor
    · rintro ⟨x, hx, he⟩
      have he := of_decide_eq_true he
      have k := keyD_inj _ _ (ok x hx).view.1 hm.view.1 he
      have e1 : x.1 = m.1 := by injection k
      obtain ⟨r, n, ea⟩ := (ok x hx).l
      obtain ⟨r', n', eb⟩ := hm.l
      have e2 : dMove n x.2 = dMove n' m.2 := by
        have : (r ++ [dMove n x.2]).getLast? = (r' ++ [dMove n' m.2]).getLast? := by rw [← ea, ← eb, e1]
        simpa using this
      have e3 : x.2 = m.2 := by
        simp only [dMove, PyData.tuple.injEq, List.cons.injEq, PyData.int.injEq] at e2
        exact e2.2.2.1
      have e4 : x = m := Prod.ext e1 e3
      rw [e4] at hx
      exact ⟨m, hx, SeqAt.eqv_refl _ hm.lay.2.1⟩
    · rintro ⟨x, hx, he⟩
      have := eqv_plain _ _ (ok x hx).lay.1 hm.lay.1 he
      have e : x = m := by
        simp only [mD, PyData.tuple.injEq, List.cons.injEq, PyData.int.injEq] at this
        exact Prod.ext this.1 this.2.1
      exact ⟨x, hx, by rw [e]; exact decide_eq_true rfl⟩
  unfold kAdd
  rw [key]
  rfl
theorem coll_fold {st : List Stg} {pl : Int} {paid : List Int} (hl : st.length ≤ 4) (ok : ∀ s ∈ st, 1 ≤ s.n ∧ s.n ≤ 3) (hpl : pl ≠ 0) : ∀ (f : Nat) (q : List Int) (acc : List Met), q.length + f = st.length → Mets acc → Had st pl acc q.length q →
    collD pl (nodeD st paid f q) acc = rowsF st pl acc (belowP st f q)
  | 0, q, acc, hq, ha, hh => by
    show acc = mRow st pl q acc st.length
    rw [had_row hl ok (by omega) (by rw [show st.length = q.length by omega]; exact hh)]
  | f + 1, q, acc, hq, ha, hh => by
    have e : st[q.length]? = some st[q.length] := List.getElem?_eq_getElem (by omega)
    have hn := ok _ (List.mem_of_getElem? e)
    have it : mItem st pl q q.length = if (st[q.length]).w = pl then some (askD st q st[q.length], (st[q.length]).n) else none := by
      unfold mItem
      rw [e, List.take_length]
    have ha1 : Mets (mAdd acc (mItem st pl q q.length)) := ha.add fun m hm => mItem_ok hl ok (Nat.le_refl _) hm
    have hh1 := had_step hl ok ha (Nat.le_refl _) hh
    have len : (((List.range (st[q.length]).n.toNat).map fun (j : Nat) => nodeD st paid f (q ++ [(j : Int)])).length : Int) = (st[q.length]).n := by
      rw [List.length_map, List.length_range]
      omega
    have main : collD pl (nodeD st paid (f + 1) q) acc = collsD pl ((List.range (st[q.length]).n.toNat).map fun (j : Nat) => nodeD st paid f (q ++ [(j : Int)])) (mAdd acc (mItem st pl q q.length)) := by
      rw [nodeD_at e, it]
      by_cases w0 : (st[q.length]).w = 0
      · rw [if_pos w0, if_neg (by omega)]
        rfl
      · rw [if_neg w0]
        show collsD pl _ (if _ then _ else _) = _
        by_cases wp : (st[q.length]).w = pl
        · rw [if_pos wp, if_pos wp, len, kAdd_mAdd ha.ok]
          exact mItem_ok hl ok (Nat.le_refl _) (k := q.length) (p := q) (pl := pl) (by rw [it, if_pos wp])
        · rw [if_neg wp, if_neg wp]
          rfl
    have kids : ∀ (js : List Nat) (b : List Met), Mets b → (∀ x ∈ mAdd acc (mItem st pl q q.length), x ∈ b) → collsD pl (js.map fun (j : Nat) => nodeD st paid f (q ++ [(j : Int)])) b = rowsF st pl b (js.flatMap fun (j : Nat) => belowP st f (q ++ [(j : Int)])) := by
      intro js
      induction js with
      | nil => exact fun b _ _ => rfl
      | cons j js ih =>
        intro b hb hs
        have hj : Had st pl b (q ++ [(j : Int)]).length (q ++ [(j : Int)]) := fun i hi m hm => by
          rw [List.length_append, List.length_singleton] at hi
          refine hs m (hh1 i hi m ?_)
          rw [← hm]
          exact mItem_take (n := q.length) (by rw [List.take_left' rfl, List.take_length]) (by omega)
        have ql : (q ++ [(j : Int)]).length + f = st.length := by rw [List.length_append, List.length_singleton]; omega
        rw [List.map_cons, List.flatMap_cons]
        show collsD pl _ (collD pl _ b) = List.foldl _ _ (_ ++ _)
        rw [coll_fold hl ok hpl f _ b ql hb hj, List.foldl_append]
        obtain ⟨a1, _, _, a4⟩ := mRows_all (pl := pl) hl ok (belowP st f (q ++ [(j : Int)])) b (below_len ql) hb
        exact ih _ a4 fun x hx => a1 x (hs x hx)
    rw [main, kids _ _ ha1 fun x h => h, ← below_at e]
    obtain ⟨p, ps, hp⟩ := below_ne ok (f := f + 1) (q := q)
    have pt := below_take (st := st) (f := f + 1) (q := q) p (by rw [hp]; exact List.mem_cons_self)
    have pl2 := below_len hq p (by rw [hp]; exact List.mem_cons_self)
    have same : ∀ k, k ≤ q.length → mItem st pl p k = mItem st pl q k := fun k hk => mItem_take (n := q.length) (by rw [pt.1, List.take_length]) hk
    rw [hp]
    show List.foldl _ (mRow st pl p _ st.length) ps = List.foldl _ (mRow st pl p acc st.length) ps
    rw [row_step hl ok ha (k := q.length) (p := p) (fun j hj m hm => hh j hj m (by rw [← same j (by omega)]; exact hm)) (by omega) (by omega), same _ (Nat.le_refl _)]
theorem coll_met {st : List Stg} {pl : Int} {paid : List Int} (hl : st.length ≤ 4) (ok : ∀ s ∈ st, 1 ≤ s.n ∧ s.n ≤ 3) (hpl : pl ≠ 0) : collD pl (nodeD st paid st.length []) [] = metD st pl := by
  rw [coll_fold hl ok hpl st.length [] [] (by simp) ⟨fun _ h => (nomatch h), .nil⟩ fun j hj => absurd hj (Nat.not_lt_zero _)]
  have := pStep_below (st := st) (f := st.length) (k := 0) (by omega)
  have e : belowP st st.length [] = pathsD st := by
    rw [← this]
    show _ = [[]].flatMap _
    simp
  rw [e]
  rfl
theorem metD_mets {st : List Stg} {pl : Int} (hl : st.length ≤ 4) (ok : ∀ s ∈ st, 1 ≤ s.n ∧ s.n ≤ 3) : Mets (metD st pl) :=
  (mRows_all hl ok (pathsD st) [] (fun p h => pStep_mem (Nat.le_refl _) p h) ⟨fun _ h => (nomatch h), .nil⟩).2.2.2
theorem hgts_le {n : Nat} : ∀ {ts : List Tr}, (∀ t ∈ ts, hgt t ≤ n) → hgts ts ≤ n
  | [], _ => Nat.zero_le _
  | t :: ts, h => by
    have h1 := h t List.mem_cons_self
    have h2 := hgts_le fun x hx => h x (List.mem_cons_of_mem _ hx)
    show max (hgt t) (hgts ts) ≤ n
    omega
theorem node_hgt {st : List Stg} {paid : List Int} : ∀ (f : Nat) (q : List Int), hgt (nodeD st paid f q) ≤ f
  | 0, q => Nat.le_refl _
  | f + 1, q => by
    have kids : ∀ s : Stg, hgts ((List.range s.n.toNat).map fun (j : Nat) => nodeD st paid f (q ++ [(j : Int)])) ≤ f := fun s => hgts_le fun t ht => by
      obtain ⟨j, _, rfl⟩ := List.mem_map.mp ht
      exact node_hgt f _
    cases e : st[q.length]? with
    | none =>
      show hgt (match st[q.length]? with | some s => _ | none => _) ≤ _
      rw [e]
      exact Nat.zero_le _
    | some s =>
      rw [nodeD_at e]
      split
      · exact Nat.succ_le_succ (kids s)
      · exact Nat.succ_le_succ (kids s)
def trSz : Nat → Nat
  | 0 => 1
  | f + 1 => 3 * trSz f + 1
theorem szTs_le {n : Nat} : ∀ {ts : List Tr}, (∀ t ∈ ts, szT t ≤ n) → szTs ts ≤ ts.length * n
  | [], _ => Nat.zero_le _
  | t :: ts, h => by
    have h1 := h t List.mem_cons_self
    have h2 := szTs_le fun x hx => h x (List.mem_cons_of_mem _ hx)
    show szT t + szTs ts ≤ (ts.length + 1) * n
    rw [Nat.add_mul]
    omega
theorem node_sz {st : List Stg} {paid : List Int} (ok : ∀ s ∈ st, 1 ≤ s.n ∧ s.n ≤ 3) : ∀ (f : Nat) (q : List Int), szT (nodeD st paid f q) ≤ trSz f
  | 0, q => Nat.le_refl _
  | f + 1, q => by
    cases e : st[q.length]? with
    | none =>
      show szT (match st[q.length]? with | some s => _ | none => _) ≤ _
      rw [e]
      show 1 ≤ 3 * trSz f + 1
      omega
    | some s =>
      have kids : szTs ((List.range s.n.toNat).map fun (j : Nat) => nodeD st paid f (q ++ [(j : Int)])) ≤ 3 * trSz f := by
        have hn := ok s (List.mem_of_getElem? e)
        have := szTs_le (n := trSz f) (ts := (List.range s.n.toNat).map fun (j : Nat) => nodeD st paid f (q ++ [(j : Int)])) fun t ht => by
          obtain ⟨j, _, rfl⟩ := List.mem_map.mp ht
          exact node_sz ok f _
        rw [List.length_map, List.length_range] at this
        exact Nat.le_trans this (Nat.mul_le_mul_right _ (by omega))
      rw [nodeD_at e]
      split
      · exact Nat.succ_le_succ kids
      · exact Nat.succ_le_succ kids
theorem node_small {st : List Stg} {paid : List Int} (hl : st.length ≤ 4) (ok : ∀ s ∈ st, 1 ≤ s.n ∧ s.n ≤ 3) : hgt (nodeD st paid st.length []) < 6 ∧ szT (nodeD st paid st.length []) ≤ 121 := by
  have h1 := node_hgt (st := st) (paid := paid) st.length []
  have h2 := node_sz (paid := paid) ok st.length []
  refine ⟨by omega, Nat.le_trans h2 ?_⟩
  rcases (by omega : st.length = 0 ∨ st.length = 1 ∨ st.length = 2 ∨ st.length = 3 ∨ st.length = 4) with e | e | e | e | e <;> rw [e] <;> decide
theorem paths_card {st : List Stg} (ok : ∀ s ∈ st, 1 ≤ s.n ∧ s.n ≤ 3) : ((pathsD st).length : Int) = prodN st := by
  have := pStep_card (st := st) (fun s h => (ok s h).1) (Nat.le_refl _)
  rw [List.take_length] at this
  exact this
/-- two ratios of the same terms -/
def RatEq (C : Addr) (x y : Addr) (H : Hp) : Prop := ∃ dx dy a b, H x = some (.ins C dx (rf a b)) ∧ H y = some (.ins C dy (rf a b))
theorem mon_rat {C : Addr} : Mon (DIns C (RatEq C)) := mon_ins fun x y H H' e h => by
  obtain ⟨dx, dy, a, b, h1, h2⟩ := h
  exact ⟨dx, dy, a, b, e _ _ h1, e _ _ h2⟩


/-- weights of the pure choice of a move -/
def ind (n m : Int) : List Int := (List.range n.toNat).map fun (k : Nat) => if (k : Int) = m then 1 else 0
theorem ind_sum : ∀ (n : Nat) (m : Int), ((List.range n).map fun (k : Nat) => if (k : Int) = m then (1 : Int) else 0).sum = if 0 ≤ m ∧ m < n then 1 else 0
  | 0, m => by
    rw [if_neg (by omega)]
    rfl
  | n + 1, m => by
    rw [List.range_succ, List.map_append, List.sum_append, ind_sum n m]
    simp only [List.map_cons, List.map_nil, List.sum_cons, List.sum_nil]
    by_cases h : (n : Int) = m
    · rw [if_pos h, if_neg (by omega), if_pos (by omega)]
      rfl
    · rw [if_neg h]
      by_cases h2 : 0 ≤ m ∧ m < (n : Int)
      · rw [if_pos h2, if_pos (by omega)]
        rfl
      · rw [if_neg h2, if_neg (by omega)]
        rfl
theorem ind_ok {n m : Int} (h : 0 ≤ m ∧ m < n) : (ind n m).sum = 1 ∧ ((ind n m).length : Int) = n ∧ ∀ w ∈ ind n m, 0 ≤ w ∧ w ≤ 3 := by
  refine ⟨?_, by unfold ind; rw [List.length_map, List.length_range]; omega, fun w hw => ?_⟩
  · unfold ind
    rw [ind_sum, if_pos (by omega)]
  · obtain ⟨k, _, rfl⟩ := List.mem_map.mp hw
    split <;> decide
def pureE (ms : List Met) (row : List Int) : List Ent := (ms.zip row).map fun x => ⟨x.1, 0, 0, ind x.1.2 x.2⟩
/-- a move at each view -/
def RowOk (ms : List Met) (row : List Int) : Prop := row.length = ms.length ∧ ∀ (k : Nat) m x, ms[k]? = some m → row[k]? = some x → 0 ≤ x ∧ x < m.2
/-- the rows of moves, the last view's fastest -/
def rowsP : List Met → List (List Int)
  | ms => ms.foldl (fun rows m => rows.flatMap fun r => (List.range m.2.toNat).map fun (k : Nat) => r ++ [(k : Int)]) [[]]
def prodM : List Met → Int
  | [] => 1
  | m :: r => m.2 * prodM r
theorem prodM_snoc {m : Met} : ∀ {ms : List Met}, prodM (ms ++ [m]) = prodM ms * m.2
  | [] => by simp [prodM]
  | x :: r => by
    show x.2 * prodM (r ++ [m]) = x.2 * prodM r * m.2
    rw [prodM_snoc, Int.mul_assoc]
theorem prodM_pos : ∀ {ms : List Met}, (∀ m ∈ ms, 1 ≤ m.2) → 1 ≤ prodM ms
  | [], _ => by decide
  | m :: r, h => by
    have h1 := h m List.mem_cons_self
    have h2 : 1 ≤ prodM r := prodM_pos fun x hx => h x (List.mem_cons_of_mem _ hx)
    have := Int.mul_le_mul h1 h2 (by decide) (by omega)
    show 1 ≤ m.2 * prodM r
    omega
theorem prodM_take : ∀ {ms : List Met}, (∀ m ∈ ms, 1 ≤ m.2) → ∀ k, prodM (ms.take k) ≤ prodM ms
  | [], _, k => by simp
  | m :: r, h, 0 => prodM_pos h
  | m :: r, h, k + 1 => by
    have h1 := h m List.mem_cons_self
    have h2 : prodM (r.take k) ≤ prodM r := prodM_take (fun x hx => h x (List.mem_cons_of_mem _ hx)) k
    show m.2 * prodM (r.take k) ≤ m.2 * prodM r
    exact Int.mul_le_mul_of_nonneg_left h2 (by omega)
theorem rowsP_snoc {ms : List Met} {m : Met} : rowsP (ms ++ [m]) = (rowsP ms).flatMap fun r => (List.range m.2.toNat).map fun (k : Nat) => r ++ [(k : Int)] := by
  unfold rowsP
  rw [List.foldl_append]
  rfl
theorem rowsP_len {ms : List Met} (h : ∀ m ∈ ms, 1 ≤ m.2) : ∀ k, k ≤ ms.length → ((rowsP (ms.take k)).length : Int) = prodM (ms.take k)
  | 0, _ => by simp [rowsP, prodM]
  | k + 1, hk => by
    have e : ms[k]? = some ms[k] := List.getElem?_eq_getElem (by omega)
    have h1 := h _ (List.mem_of_getElem? e)
    rw [List.take_add_one, e, Option.toList_some, rowsP_snoc, flat_card, prodM_snoc, ← rowsP_len h k (by omega), Int.natCast_mul]
    congr 1
    omega
theorem rowsP_ok {ms : List Met} (h : ∀ m ∈ ms, 1 ≤ m.2) : ∀ k, k ≤ ms.length → ∀ r ∈ rowsP (ms.take k), RowOk (ms.take k) r
  | 0, _, r, hr => by
    have : r = [] := by simpa [rowsP] using hr
    subst this
    exact ⟨rfl, fun k m x h => by simp at h⟩
  | k + 1, hk, r, hr => by
    have e : ms[k]? = some ms[k] := List.getElem?_eq_getElem (by omega)
    rw [List.take_add_one, e, Option.toList_some] at hr ⊢
    rw [rowsP_snoc] at hr
    obtain ⟨p, hp, hr2⟩ := List.mem_flatMap.mp hr
    obtain ⟨j, hj, rfl⟩ := List.mem_map.mp hr2
    obtain ⟨g1, g2⟩ := rowsP_ok h k (by omega) p hp
    refine ⟨by rw [List.length_append, List.length_append, g1]; rfl, fun i m x hm hx => ?_⟩
    rcases Nat.lt_or_ge i (ms.take k).length with z | z
    · rw [List.getElem?_append_left z] at hm
      rw [List.getElem?_append_left (by omega)] at hx
      exact g2 i m x hm hx
    · have hi := (List.getElem?_eq_some_iff.mp hm).1
      rw [List.length_append, List.length_singleton] at hi
      obtain rfl : i = (ms.take k).length := by omega
      rw [List.getElem?_append_right (Nat.le_refl _), Nat.sub_self] at hm
      rw [List.getElem?_append_right (by omega), g1, Nat.sub_self] at hx
      cases hm
      cases hx
      have := List.mem_range.mp hj
      omega
theorem pureE_at {ms : List Met} {row : List Int} {k : Nat} {m : Met} {x : Int} (h1 : ms[k]? = some m) (h2 : row[k]? = some x) : (pureE ms row)[k]? = some ⟨m, 0, 0, ind m.2 x⟩ := by
  unfold pureE
  rw [List.getElem?_map, (show (ms.zip row)[k]? = some (m, x) from List.getElem?_zip_eq_some.mpr ⟨h1, h2⟩)]
  rfl
theorem pureE_len {ms : List Met} {row : List Int} (h : row.length = ms.length) : (pureE ms row).length = ms.length := by
  unfold pureE
  rw [List.length_map, List.length_zip, h, Nat.min_self]
theorem pureE_mem {ms : List Met} {row : List Int} (h : RowOk ms row) {e : Ent} (he : e ∈ pureE ms row) : ∃ (k : Nat) (m : Met) (x : Int), ms[k]? = some m ∧ row[k]? = some x ∧ e = ⟨m, 0, 0, ind m.2 x⟩ ∧ 0 ≤ x ∧ x < m.2 := by
  unfold pureE at he
  obtain ⟨⟨m, x⟩, hm, rfl⟩ := List.mem_map.mp he
  obtain ⟨k, hk⟩ := List.mem_iff_getElem?.mp hm
  obtain ⟨h1, h2⟩ := List.getElem?_zip_eq_some.mp hk
  exact ⟨k, m, x, h1, h2, rfl, h.2 k m x h1 h2⟩
/-! the k-th row of moves, read off the number k -/
def digs : List Met → Int → List Int
  | [], _ => []
  | m :: ms, r => r / prodM ms :: digs ms (r % prodM ms)
def restD : List Met → Nat → Int → Int
  | _, 0, r => r
  | [], _ + 1, r => r
  | _ :: ms, i + 1, r => restD ms i (r % prodM ms)
def rowsG : List Met → List (List Int)
  | [] => [[]]
  | m :: ms => (List.range m.2.toNat).flatMap fun (j : Nat) => (rowsG ms).map fun r => (j : Int) :: r
theorem rowsP_front : ∀ (ms : List Met) (rows : List (List Int)), ms.foldl (fun rows m => rows.flatMap fun r => (List.range m.2.toNat).map fun (k : Nat) => r ++ [(k : Int)]) rows = rows.flatMap fun r => (rowsG ms).map fun t => r ++ t
  | [], rows => by
    show rows = rows.flatMap fun r => [r ++ []]
    induction rows with
    | nil => rfl
    | cons x l ih =>
      rw [List.flatMap_cons, ← ih, List.append_nil]
      rfl
  | m :: ms, rows => by
    rw [List.foldl_cons, rowsP_front ms, List.flatMap_assoc]
    congr 1
    funext r
    show _ = ((List.range m.2.toNat).flatMap fun (j : Nat) => (rowsG ms).map fun r => (j : Int) :: r).map fun t => r ++ t
    rw [List.flatMap_map, List.map_flatMap]
    congr 1
    funext j
    rw [List.map_map]
    refine List.map_congr_left fun t _ => ?_
    show r ++ [(j : Int)] ++ t = r ++ ((j : Int) :: t)
    rw [List.append_assoc]
    rfl
theorem rowsP_G (ms : List Met) : rowsP ms = rowsG ms := by
  unfold rowsP
  rw [rowsP_front]
  show [[]].flatMap _ = _
  simp
theorem flat_at {L : Nat} {f : Nat → List (List Int)} : ∀ {n : Nat}, (∀ j, j < n → (f j).length = L) → ((List.range n).flatMap f).length = n * L ∧ ∀ k, k < n * L → ((List.range n).flatMap f)[k]? = (f (k / L))[k % L]?
  | 0, _ => ⟨by simp, fun k h => by omega⟩
  | n + 1, h => by
    obtain ⟨h1, h2⟩ := flat_at (n := n) fun j hj => h j (by omega)
    have hn := h n (by omega)
    rw [List.range_succ, List.flatMap_append]
    have e : [n].flatMap f = f n := by simp
    rw [e]
    refine ⟨by rw [List.length_append, h1, hn, Nat.add_mul, Nat.one_mul], fun k hk => ?_⟩
    rcases Nat.lt_or_ge k (n * L) with z | z
    · rw [List.getElem?_append_left (by omega)]
      exact h2 k z
    · rw [List.getElem?_append_right (by omega), h1]
      rw [Nat.add_mul, Nat.one_mul] at hk
      have L0 : 0 < L := by omega
      have d : k / L = n := Nat.div_eq_of_lt_le z (by rw [Nat.add_mul, Nat.one_mul]; exact hk)
      have m : k % L = k - n * L := by
        have := Nat.div_add_mod k L
        rw [d, Nat.mul_comm] at this
        omega
      rw [d, m]
theorem rowsG_len {ms : List Met} (ok : ∀ m ∈ ms, 1 ≤ m.2) : ((rowsG ms).length : Int) = prodM ms := by
  have := rowsP_len ok ms.length (Nat.le_refl _)
  rw [List.take_length, rowsP_G] at this
  exact this
theorem rowsG_at : ∀ {ms : List Met}, (∀ m ∈ ms, 1 ≤ m.2) → ∀ k : Nat, k < (rowsG ms).length → (rowsG ms)[k]? = some (digs ms (k : Int))
  | [], _, k, h => by
    have : k < 1 := h
    obtain rfl : k = 0 := by omega
    rfl
  | m :: ms, ok, k, h => by
    have ok2 : ∀ x ∈ ms, 1 ≤ x.2 := fun x hx => ok x (List.mem_cons_of_mem _ hx)
    have hL := rowsG_len ok2
    have L0 := prodM_pos ok2
    obtain ⟨h1, h2⟩ := flat_at (L := (rowsG ms).length) (f := fun (j : Nat) => (rowsG ms).map fun r => (j : Int) :: r) (n := m.2.toNat) fun j _ => by rw [List.length_map]
    have h : k < ((List.range m.2.toNat).flatMap fun (j : Nat) => (rowsG ms).map fun r => (j : Int) :: r).length := h
    rw [h1] at h
    show ((List.range m.2.toNat).flatMap fun (j : Nat) => (rowsG ms).map fun r => (j : Int) :: r)[k]? = _
    rw [h2 k h, List.getElem?_map, rowsG_at ok2 _ (Nat.mod_lt _ (by omega))]
    show some (((k / (rowsG ms).length : Nat) : Int) :: digs ms ((k % (rowsG ms).length : Nat) : Int)) = some ((k : Int) / prodM ms :: digs ms ((k : Int) % prodM ms))
    rw [← hL]
    rfl
theorem prodM_drop {ms : List Met} {i : Nat} {m : Met} (h : ms[i]? = some m) : prodM (ms.drop i) = m.2 * prodM (ms.drop (i + 1)) := by
  have hi := (List.getElem?_eq_some_iff.mp h).1
  have e : ms[i] = m := (List.getElem?_eq_some_iff.mp h).2
  rw [List.drop_eq_getElem_cons hi, e]
  rfl
theorem rest_next : ∀ {ms : List Met} {i : Nat} {m : Met} {r : Int}, ms[i]? = some m → restD ms (i + 1) r = restD ms i r % prodM (ms.drop (i + 1)) ∧ (digs ms r)[i]? = some (restD ms i r / prodM (ms.drop (i + 1)))
  | x :: ms, 0, m, r, h => ⟨by show restD ms 0 (r % prodM ms) = r % prodM ms; cases ms <;> rfl, rfl⟩
  | x :: ms, i + 1, m, r, h => by
    have h : ms[i]? = some m := by simpa using h
    obtain ⟨a, b⟩ := rest_next (r := r % prodM ms) h
    exact ⟨a, by show (digs ms (r % prodM ms))[i]? = _; exact b⟩
theorem rest_bd : ∀ {ms : List Met} {i : Nat} {r : Int}, (∀ m ∈ ms, 1 ≤ m.2) → i ≤ ms.length → 0 ≤ r → r < prodM ms → 0 ≤ restD ms i r ∧ restD ms i r < prodM (ms.drop i)
  | ms, 0, r, _, _, h0, h1 => ⟨by cases ms <;> exact h0, by cases ms <;> exact h1⟩
  | [], i + 1, r, _, h, _, _ => absurd h (by simp)
  | x :: ms, i + 1, r, ok, h, h0, h1 => by
    have ok2 : ∀ y ∈ ms, 1 ≤ y.2 := fun y hy => ok y (List.mem_cons_of_mem _ hy)
    have p := prodM_pos ok2
    exact rest_bd (ms := ms) (i := i) (r := r % prodM ms) ok2 (by simpa using h) (Int.emod_nonneg _ (by omega)) (Int.emod_lt_of_pos _ (by omega))
theorem prodM_dropLe : ∀ {ms : List Met}, (∀ m ∈ ms, 1 ≤ m.2) → ∀ k, prodM (ms.drop k) ≤ prodM ms
  | [], _, k => by simp
  | m :: r, h, 0 => Int.le_refl _
  | m :: r, h, k + 1 => by
    have h1 := h m List.mem_cons_self
    have ok2 : ∀ x ∈ r, 1 ≤ x.2 := fun x hx => h x (List.mem_cons_of_mem _ hx)
    have h2 := prodM_dropLe ok2 k
    have h3 := prodM_pos ok2
    have h4 := Int.mul_le_mul_of_nonneg_right h1 (show 0 ≤ prodM r by omega)
    show prodM (r.drop k) ≤ m.2 * prodM r
    omega
theorem prodM_big : ∀ {ms : List Met}, (∀ m ∈ ms, 1 ≤ m.2 ∧ m.2 ≤ 3) → prodM ms ≤ 3 ^ ms.length
  | [], _ => by decide
  | m :: r, h => by
    have h1 := h m List.mem_cons_self
    have h2 : prodM r ≤ 3 ^ r.length := prodM_big fun x hx => h x (List.mem_cons_of_mem _ hx)
    have h3 : 1 ≤ prodM r := prodM_pos fun x hx => (h x (List.mem_cons_of_mem _ hx)).1
    have := Int.mul_le_mul h2 h1.2 (by omega) (Int.le_trans (by omega) h2)
    show m.2 * prodM r ≤ 3 ^ (r.length + 1)
    rw [Int.pow_succ, Int.mul_comm m.2]
    exact this
/-- the lots of a pure plan -/
theorem pure_lots {ms : List Met} {row : List Int} {k : Nat} {m : Met} {x : Int} {rs : List (Int × Int)} (hm : Mets ms) (hr : RowOk ms row) (h1 : ms[k]? = some m) (h2 : row[k]? = some x) (h : LotsIs (pureE ms row) m.1 m.2 rs) : rs = terms (ind m.2 x) 1 := by
  have hx := hr.2 k m x h1 h2
  have io := ind_ok hx
  rcases h with ⟨j, e, g1, g2, g3⟩ | ⟨g, _⟩
  · obtain ⟨j', m', x', a1, a2, rfl, _⟩ := pureE_mem hr (List.mem_of_getElem? g1)
    have ks := mets_keys hm
    have jk : ∀ {a b : Nat} {u v : Met}, ms[a]? = some u → ms[b]? = some v → keyD (.tuple u.1) = keyD (.tuple v.1) → a = b := fun {a b u v} ha hb hk => by
      obtain ⟨la, ea⟩ := List.getElem?_eq_some_iff.mp ha
      obtain ⟨lb, eb⟩ := List.getElem?_eq_some_iff.mp hb
      rcases Nat.lt_trichotomy a b with z | z | z
      · have := List.pairwise_iff_getElem.mp ks a b la lb z
        rw [ea, eb] at this
        exact absurd hk this
      · exact z
      · have := List.pairwise_iff_getElem.mp ks b a lb la z
        rw [ea, eb] at this
        exact absurd hk.symm this
    obtain rfl := jk a1 h1 g2
    rw [h1] at a1
    rw [h2] at a2
    cases a1
    cases a2
    rcases g3 with ⟨_, rfl⟩ | ⟨n, _⟩
    · show terms (ind m.2 x) (ind m.2 x).sum = _
      rw [io.1]
    · exact absurd io.2.1 n
  · exact absurd rfl (g _ (List.mem_of_getElem? (pureE_at h1 h2)))
/-- a plan whose lists are newer than B -/
structure PlanB (B : Hp) (P : Program) (w : World) (K : PySem.W.Frag) (C CP : Addr) (H : Hp) (p : Addr) (es : List Ent) : Prop where
  ex : ∃ (dx D : Addr) (ps : List PRow) (ls : List Addr), H p = some (.ins CP dx [("table", .ref D)]) ∧ H D = some (ndO P w D (nrows ps ls)) ∧ ps.length = ls.length ∧ ps.length = es.length ∧
    (∀ (k : Nat) r a, ps[k]? = some r → ls[k]? = some a → ∃ e, es[k]? = some e ∧ r.d = .tuple e.m.1 ∧ r.rs = terms e.ws e.ws.sum ∧ Dp K H (.ref r.ka) r.d ∧ B a = none ∧ H a = some (.lst r.xs) ∧ RatsAt C H r.xs r.rs)
  ok : ∀ e ∈ es, MOk e.m
  n : es.length ≤ 1000
  b : ∀ e ∈ es, e.ws.length ≤ 4 ∧ (∀ w ∈ e.ws, 0 ≤ w ∧ w ≤ 3) ∧ 0 < e.ws.sum
theorem PlanB.plan {B : Hp} {P : Program} {w : World} {K : PySem.W.Frag} {C CP : Addr} {H : Hp} {p : Addr} {es : List Ent} (h : PlanB B P w K C CP H p es) : PlanAt P w K C CP H p es := by
  obtain ⟨dx, D, ps, ls, a, b, c, d, f⟩ := h.ex
  exact ⟨⟨dx, D, ps, ls, a, b, c, d, fun k r x h1 h2 => let ⟨e, e1, e2, e3, e4, _, e5, e6⟩ := f k r x h1 h2; ⟨e, e1, e2, e3, e4, e5, e6⟩⟩, h.ok, h.n, h.b⟩
theorem PlanB.same {B : Hp} {P : Program} {w : World} {K : PySem.W.Frag} {C CP : Addr} {H H' : Hp} {p : Addr} {es : List Ent} (h : PlanB B P w K C CP H p es) (s : Same H H') : PlanB B P w K C CP H' p es := by
  obtain ⟨dx, D, ps, ls, a, b, c, d, f⟩ := h.ex
  exact ⟨⟨dx, D, ps, ls, s _ _ a, s _ _ b, c, d, fun k r x h1 h2 => let ⟨e, e1, e2, e3, e4, e7, e5, e6⟩ := f k r x h1 h2; ⟨e, e1, e2, e3, dp_same s _ _ e4, e7, s _ _ e5, e6.same s⟩⟩, h.ok, h.n, h.b⟩
theorem PlanB.put {B : Hp} {P : Program} {w : World} {K : PySem.W.Frag} {C CP : Addr} {H : Hp} {p L : Addr} {o : HO} {ys zs : List V} {es : List Ent} (h : PlanB B P w K C CP H p es) (hB : B L = some o) (eL : H L = some (.lst ys)) : PlanB B P w K C CP (upd H L (.lst zs)) p es := by
  obtain ⟨dx, D, ps, ls, a, b, c, d, f⟩ := h.ex
  have o1 : Off (fun c => c = L) H (upd H L (.lst zs)) := But.off ((But.refl L H).upd)
  have n1 := noT_lst eL
  refine ⟨⟨dx, D, ps, ls, by rw [upd_ne (ne_of a eL (by intro z; cases z))]; exact a, by rw [upd_ne (ne_of b eL (by intro z; cases z))]; exact b, c, d, fun k r x h1 h2 => ?_⟩, h.ok, h.n, h.b⟩
  obtain ⟨e, e1, e2, e3, e4, e7, e5, e6⟩ := f k r x h1 h2
  have mok := h.ok e (List.mem_of_getElem? e1)
  have xL : x ≠ L := fun z => by rw [z, hB] at e7; cases e7
  exact ⟨e, e1, e2, e3, dp_off o1 n1 _ _ (by rw [e2]; exact mok.view.1) e4, e7, by rw [upd_ne xL]; exact e5, ratsAt_off o1 (fun c C dx fs z => by rw [z, eL]; intro z; cases z) e6⟩
theorem PlanB.older {B B' : Hp} {P : Program} {w : World} {K : PySem.W.Frag} {C CP : Addr} {H : Hp} {p : Addr} {es : List Ent} (h : PlanB B P w K C CP H p es) (s : ∀ a, B a = none → B' a = none) : PlanB B' P w K C CP H p es := by
  obtain ⟨dx, D, ps, ls, a, b, c, d, f⟩ := h.ex
  exact ⟨⟨dx, D, ps, ls, a, b, c, d, fun k r x h1 h2 => let ⟨e, e1, e2, e3, e4, e7, e5, e6⟩ := f k r x h1 h2; ⟨e, e1, e2, e3, e4, s _ e7, e5, e6⟩⟩, h.ok, h.n, h.b⟩
/-- what entries() tells at a place -/
def PEnt (D : Addr) (H H' : Hp) (xs : List NRow) (k : Nat) (y : V) : Prop := ∃ x t l2 la ls, xs[k]? = some x ∧ x.2.2 = .ref la ∧ H la = some (.lst ls) ∧ y = .ref t ∧ H' t = some (.tup [.ref x.2.1, .ref l2]) ∧ H' l2 = some (.lst ls) ∧ H l2 = none ∧ l2 ≠ D
/-- a list of entries as Plan takes it: views and lists of ratios -/
structure ELAt (K : PySem.W.Frag) (C : Addr) (H : Hp) (L : Addr) (es : List Ent) : Prop where
  ex : ∃ (ys : List V) (ps : List PRow), H L = some (.lst ys) ∧ ys.length = es.length ∧ ps.length = es.length ∧ ∀ (k : Nat) r, ps[k]? = some r → ∃ e t, es[k]? = some e ∧ r.d = .tuple e.m.1 ∧ Dp K H (.ref r.ka) r.d ∧ r.rs = terms e.ws e.ws.sum ∧ r.la ≠ L ∧ H r.la = some (.lst r.xs) ∧ RatsAt C H r.xs r.rs ∧ ys[k]? = some (.ref t) ∧ H t = some (.tup [.ref r.ka, .ref r.la])
structure EsOk (es : List Ent) : Prop where
  ok : ∀ e ∈ es, MOk e.m
  n : es.length ≤ 1000
  b : ∀ e ∈ es, e.ws.length ≤ 4 ∧ (∀ w ∈ e.ws, 0 ≤ w ∧ w ≤ 3) ∧ 0 < e.ws.sum
  o : Once es
theorem ELAt.same {K : PySem.W.Frag} {C : Addr} {H H' : Hp} {L : Addr} {es : List Ent} (h : ELAt K C H L es) (s : Same H H') : ELAt K C H' L es := by
  obtain ⟨ys, ps, a, b, c, f⟩ := h.ex
  exact ⟨ys, ps, s _ _ a, b, c, fun k r hr => let ⟨e, t, a1, a2, a3, a4, a5, a6, a7, a8, a9⟩ := f k r hr; ⟨e, t, a1, a2, dp_same s _ _ a3, a4, a5, s _ _ a6, a7.same s, a8, s _ _ a9⟩⟩
theorem ELAt.nil {K : PySem.W.Frag} {C : Addr} {H : Hp} {L : Addr} (e : H L = some (.lst [])) : ELAt K C H L [] := ⟨[], [], e, rfl, rfl, fun k r h => by simp at h⟩
theorem ELAt.snoc {K : PySem.W.Frag} {C : Addr} {H : Hp} {L : Addr} {es : List Ent} {ys : List V} {e : Ent} {r : PRow} {t : Addr} (h : ELAt K C H L es) (eL : H L = some (.lst ys)) (okm : ∀ z ∈ es, MOk z.m) (ok : MOk e.m) (a2 : r.d = .tuple e.m.1) (a3 : Dp K H (.ref r.ka) r.d) (a4 : r.rs = terms e.ws e.ws.sum) (a5 : r.la ≠ L) (a6 : H r.la = some (.lst r.xs)) (a7 : RatsAt C H r.xs r.rs) (a9 : H t = some (.tup [.ref r.ka, .ref r.la])) : ELAt K C (upd H L (.lst (ys ++ [.ref t]))) L (es ++ [e]) := by
  obtain ⟨ys', ps, a, b, c, f⟩ := h.ex
  rw [eL] at a
  cases a
  have ni : ∀ c C dx fs, c = L → H c ≠ some (.ins C dx fs) := fun c C dx fs z => by rw [z, eL]; intro z; cases z
  have o5 : Off (fun c => c = L) H (upd H L (.lst (ys ++ [.ref t]))) := But.off ((But.refl L H).upd)
  have nT := noT_lst eL
  refine ⟨_, ps ++ [r], upd_same, by rw [List.length_append, List.length_append, b]; rfl, by rw [List.length_append, List.length_append, c]; rfl, fun k r' hr => ?_⟩
  rcases Nat.lt_or_ge k es.length with z | z
  · rw [List.getElem?_append_left (by omega)] at hr
    obtain ⟨e', t', b1, b2, b3, b4, b5, b6, b7, b8, b9⟩ := f k r' hr
    have mok := okm e' (List.mem_of_getElem? b1)
    exact ⟨e', t', by rw [List.getElem?_append_left z]; exact b1, b2, dp_off o5 nT _ _ (by rw [b2]; exact mok.view.1) b3, b4, b5, by rw [upd_ne b5]; exact b6, ratsAt_off o5 ni b7, by rw [List.getElem?_append_left (by omega)]; exact b8, by rw [upd_ne (ne_of b9 eL (by intro z; cases z))]; exact b9⟩
  · have hk := (List.getElem?_eq_some_iff.mp hr).1
    rw [List.length_append, List.length_singleton] at hk
    obtain rfl : k = es.length := by omega
    rw [List.getElem?_append_right (by omega), c, Nat.sub_self] at hr
    cases hr
    exact ⟨e, t, by rw [List.getElem?_append_right (Nat.le_refl _), Nat.sub_self]; rfl, a2, dp_off o5 nT _ _ (by rw [a2]; exact ok.view.1) a3, a4, a5, by rw [upd_ne a5]; exact a6, ratsAt_off o5 ni a7, by rw [List.getElem?_append_right (by omega), b, Nat.sub_self]; rfl, by rw [upd_ne (ne_of a9 eL (by intro z; cases z))]; exact a9⟩
theorem el_good {es : List Ent} {ps : List PRow} (ho : EsOk es) (pl : ps.length = es.length) (f : ∀ (k : Nat) r, ps[k]? = some r → ∃ e, es[k]? = some e ∧ r.d = .tuple e.m.1 ∧ r.rs = terms e.ws e.ws.sum) : ∀ (k : Nat) r, ps[k]? = some r → goodP ps k r = true := fun k r hr => by
  obtain ⟨e, a1, a2, a3⟩ := f k r hr
  have mem := List.mem_of_getElem? a1
  obtain ⟨b1, b2, b3⟩ := ho.b e mem
  have lg := lots_good b2 b3
  unfold goodP
  rw [a3, lg, Bool.and_true, Bool.not_eq_true', List.any_eq_false]
  intro q hq
  simp only [decide_eq_true_eq]
  obtain ⟨j, hj⟩ := List.mem_iff_getElem?.mp hq
  have jk : j < k := by
    have := (List.getElem?_eq_some_iff.mp hj).1
    rw [List.length_take] at this
    omega
  rw [List.getElem?_take_of_lt jk] at hj
  obtain ⟨e', c1, c2, _⟩ := f j q hj
  rw [a2, c2]
  have hk := (List.getElem?_eq_some_iff.mp a1).1
  have h2 := List.pairwise_iff_getElem.mp ho.o j k (by omega) hk jk
  rw [(List.getElem?_eq_some_iff.mp c1).2, (List.getElem?_eq_some_iff.mp a1).2] at h2
  exact h2
def evenE (ms : List Met) : List Ent := ms.map fun m => ⟨m, 0, 0, List.replicate m.2.toNat 1⟩
theorem rep_sum : ∀ n : Nat, (List.replicate n (1 : Int)).sum = n
  | 0 => rfl
  | n + 1 => by
    rw [List.replicate_succ, List.sum_cons, rep_sum n]
    omega
theorem even_take {ms : List Met} {i : Nat} {m : Met} (h : ms[i]? = some m) : evenE (ms.take (i + 1)) = evenE (ms.take i) ++ [⟨m, 0, 0, List.replicate m.2.toNat 1⟩] := by
  unfold evenE
  rw [List.take_add_one, h, List.map_append]
  rfl
theorem even_map {ms : List Met} : (evenE ms).map (·.m) = ms := by
  unfold evenE
  rw [List.map_map]
  show ms.map (fun m => m) = ms
  exact List.map_id' ms
theorem once_map {es : List Ent} (hm : Mets (es.map (·.m))) : Once es := by
  have := mets_keys hm
  exact (List.pairwise_map (f := fun e : Ent => e.m)).mp this
theorem even_ok {ms : List Met} (hm : Mets ms) (hl : ms.length ≤ 1000) : EsOk (evenE ms) := by
  have el : (evenE ms).length = ms.length := by unfold evenE; rw [List.length_map]
  refine ⟨fun e he => ?_, by omega, fun e he => ?_, once_map (by rw [even_map]; exact hm)⟩
  · obtain ⟨m, h, rfl⟩ := List.mem_map.mp he
    exact hm.ok m h
  · obtain ⟨m, h, rfl⟩ := List.mem_map.mp he
    have mn := (hm.ok m h).n
    refine ⟨by rw [List.length_replicate]; omega, fun w hw => ?_, ?_⟩
    · rw [List.eq_of_mem_replicate hw]
      decide
    · show 0 < (List.replicate m.2.toNat (1 : Int)).sum
      rw [rep_sum]
      omega
/-- a view's count among the views that were met, or zero -/
def cntD (ms : List Met) (v : List PyData) : Int := ((ms.find? fun m => decide (keyD (.tuple m.1) = keyD (.tuple v))).map (·.2)).getD 0
def fitsB (ms : List Met) (es : List Ent) : Bool := es.all fun e => decide (cntD ms e.m.1 = (e.ws.length : Int))

theorem rows_exist {K : PySem.W.Frag} {H : Hp} : ∀ {ms : List Met} {xs : List V}, DpAll K H xs (ms.map mD) → ∃ rows : List NRow, xs.length = rows.length ∧ rows.length = ms.length ∧ rows.map (fun x => keyD x.1) = ms.map (fun m => keyD (.tuple m.1)) ∧
    (∀ key, nAt rows key = (ms.find? fun m => decide (keyD (.tuple m.1) = key)).map fun m => V.int m.2) ∧ (∀ x ∈ rows, ∃ m ∈ ms, x.1 = .tuple m.1 ∧ Dp K H (.ref x.2.1) x.1) ∧ ∀ (i : Nat) z x, xs[i]? = some z → rows[i]? = some x → ∃ t, z = .ref t ∧ SqT K H t [.ref x.2.1, x.2.2]
  | [], xs, h => by
    cases h
    exact ⟨[], rfl, rfl, rfl, fun _ => rfl, fun x h => (nomatch h), fun i z x h => by simp at h⟩
  | m :: ms, xs, h => by
    cases h with
    | @cons v vs _ _ h1 h2 =>
      obtain ⟨rows, a1, a2, a3, a4, a5, a6⟩ := rows_exist h2
      obtain ⟨ta, txs, rfl, hta, dta⟩ := dp_tup h1
      cases dta with
      | cons g1 g2 =>
      cases g2 with
      | cons g3 g4 =>
      cases g3
      cases g4
      obtain ⟨b, bs, rfl, hb, db⟩ := dp_tup g1
      refine ⟨(.tuple m.1, b, .int m.2) :: rows, by rw [List.length_cons, List.length_cons, a1], by rw [List.length_cons, List.length_cons, a2], by rw [List.map_cons, List.map_cons, a3], fun key => ?_, fun x hx => ?_, fun i z x hz hx => ?_⟩
      · have ih := a4 key
        unfold nAt at ih ⊢
        rw [List.find?_cons, List.find?_cons]
        by_cases c : keyD (.tuple m.1) = key
        · rw [decide_eq_true c]
          rfl
        · rw [decide_eq_false c]
          exact ih
      · rcases List.mem_cons.mp hx with rfl | hx
        · exact ⟨m, List.mem_cons_self, rfl, g1⟩
        · obtain ⟨m', h', e1, e2⟩ := a5 x hx
          exact ⟨m', List.mem_cons_of_mem _ h', e1, e2⟩
      · cases i with
        | zero =>
          cases hz
          cases hx
          exact ⟨ta, rfl, hta⟩
        | succ i => exact a6 i z x (by simpa using hz) (by simpa using hx)

/-- what entries() of a plan gives -/
structure GotAt (K : PySem.W.Frag) (C : Addr) (H : Hp) (D : Addr) (es : List Ent) : Prop where
  ex : ∃ ys : List V, H D = some (.lst ys) ∧ ys.length = es.length ∧ ∀ (k : Nat) e, es[k]? = some e → ∃ t ka l2 xs, ys[k]? = some (.ref t) ∧ H t = some (.tup [.ref ka, .ref l2]) ∧ Dp K H (.ref ka) (.tuple e.m.1) ∧ H l2 = some (.lst xs) ∧ RatsAt C H xs (terms e.ws e.ws.sum)
theorem GotAt.same {K : PySem.W.Frag} {C : Addr} {H H' : Hp} {D : Addr} {es : List Ent} (h : GotAt K C H D es) (s : Same H H') : GotAt K C H' D es := by
  obtain ⟨ys, a, b, f⟩ := h.ex
  exact ⟨ys, s _ _ a, b, fun k e he => let ⟨t, ka, l2, xs, a1, a2, a3, a4, a5⟩ := f k e he; ⟨t, ka, l2, xs, a1, s _ _ a2, dp_same s _ _ a3, s _ _ a4, a5.same s⟩⟩
theorem plan_got {K : PySem.W.Frag} {C : Addr} {H : Hp} {psr : List PRow} {lsr : List Addr} {es : List Ent} (pl1 : psr.length = lsr.length) (pl2 : psr.length = es.length)
    (pf : ∀ (k : Nat) r a, psr[k]? = some r → lsr[k]? = some a → ∃ e, es[k]? = some e ∧ r.d = .tuple e.m.1 ∧ r.rs = terms e.ws e.ws.sum ∧ Dp K H (.ref r.ka) r.d ∧ H a = some (.lst r.xs) ∧ RatsAt C H r.xs r.rs) :
    (nrows psr lsr).length = es.length ∧ (∀ x ∈ nrows psr lsr, ∃ la ls, x.2.2 = .ref la ∧ H la = some (.lst ls)) ∧
    ∀ {D : Addr} {ys : List V} {H' : Hp}, Same H H' → H' D = some (.lst ys) → ys.length = (nrows psr lsr).length → (∀ (k : Nat) y, ys[k]? = some y → PEnt D H H' (nrows psr lsr) k y) → GotAt K C H' D es := by
  have nrat : ∀ (k : Nat) x, (nrows psr lsr)[k]? = some x → ∃ r a e, psr[k]? = some r ∧ lsr[k]? = some a ∧ x = (r.d, r.ka, .ref a) ∧ es[k]? = some e ∧ r.d = .tuple e.m.1 ∧ r.rs = terms e.ws e.ws.sum ∧ Dp K H (.ref r.ka) r.d ∧ H a = some (.lst r.xs) ∧ RatsAt C H r.xs r.rs := fun k x hx => by
    unfold nrows at hx
    rw [List.getElem?_map] at hx
    cases hz : (psr.zip lsr)[k]? with
    | none => rw [hz] at hx; cases hx
    | some y =>
      rw [hz] at hx
      cases hx
      obtain ⟨h1, h2⟩ := List.getElem?_zip_eq_some.mp hz
      obtain ⟨e, b1, b2, b3, b4, b5, b6⟩ := pf k y.1 y.2 h1 h2
      exact ⟨y.1, y.2, e, h1, h2, rfl, b1, b2, b3, b4, b5, b6⟩
  have nrl : (nrows psr lsr).length = es.length := by
    unfold nrows
    rw [List.length_map, List.length_zip]
    omega
  refine ⟨nrl, fun x hx => ?_, fun {D ys H'} s eD yl hent => ⟨ys, eD, by omega, fun k e he => ?_⟩⟩
  · obtain ⟨k, hk⟩ := List.mem_iff_getElem?.mp hx
    obtain ⟨r, a, e, _, _, rfl, _, _, _, _, b5, _⟩ := nrat k x hk
    exact ⟨a, r.xs, rfl, b5⟩
  · obtain ⟨y, hy⟩ : ∃ y, ys[k]? = some y := ⟨_, List.getElem?_eq_getElem (by have := (List.getElem?_eq_some_iff.mp he).1; omega)⟩
    obtain ⟨x, t, l2, la, lss, hx, hxl, hla, rfl, ht4, hl2, _, _⟩ := hent k y hy
    obtain ⟨r, a', e', hr, ha, rfl, he', b2, b3, b4, b5, b6⟩ := nrat k x hx
    rw [he] at he'
    cases he'
    cases hxl
    rw [b5] at hla
    cases hla
    exact ⟨t, r.ka, l2, r.xs, hy, ht4, by rw [← b2]; exact dp_same s _ _ b4, hl2, by rw [← b3]; exact b6.same s⟩
theorem MetAt.copy {K : PySem.W.Frag} {H : Hp} {l l2 : Addr} {ms : List Met} {xs : List V} (h : MetAt K H l ms) (e : H l = some (.lst xs)) (n : H l2 = none) : MetAt K (upd H l2 (.lst xs)) l2 ms := by
  obtain ⟨ys, a, b⟩ := h.ex
  rw [e] at a
  cases a
  exact ⟨⟨xs, upd_same, dpAll_same (same_new n) _ _ b⟩, h.ok⟩
theorem noint_lay : ∀ a : List Int, PyData.canLayAll0 (a.map PyData.int) = true ∧ PyData.depthAll (a.map PyData.int) ≤ 1
  | [] => ⟨rfl, by simp [PyData.depthAll]⟩
  | x :: a => by
    obtain ⟨h1, h2⟩ := noint_lay a
    rw [List.map_cons]
    simp only [PyData.canLayAll0, PyData.canLay0, PyData.depthAll, PyData.depth, h1, Bool.true_and]
    exact ⟨trivial, by omega⟩
theorem ints_dp {K : PySem.W.Frag} {H : Hp} : ∀ a : List Int, DpAll K H (a.map V.int) (a.map PyData.int)
  | [] => .nil
  | x :: a => .cons (.int x) (ints_dp a)
theorem passed_shaped {ms : List Met} {row : List Int} (h : ∀ m ∈ ms, MOk m) : SeqAt.shaped (.list [.list (ms.map mD), .list (row.map PyData.int)]) = true := by
  obtain ⟨_, a2, a3⟩ := mets_lay h
  obtain ⟨b1, b2⟩ := noint_lay row
  unfold SeqAt.shaped
  simp only [PyData.canLay0, PyData.canLayAll0, PyData.depth, PyData.depthAll, a2, b1, Bool.true_and, Bool.and_true]
  exact decide_eq_true (by omega)

theorem cnt_hit {ms : List Met} (hm : Mets ms) {m : Met} (h : m ∈ ms) : cntD ms m.1 = m.2 := by
  unfold cntD
  cases f : ms.find? fun x => decide (keyD (.tuple x.1) = keyD (.tuple m.1)) with
  | none =>
    have := List.find?_eq_none.mp f m h
    rw [decide_eq_true rfl] at this
    exact absurd rfl this
  | some x =>
    have hk : keyD (.tuple x.1) = keyD (.tuple m.1) := by
      have := List.find?_some f
      exact of_decide_eq_true this
    obtain ⟨i, hi⟩ := List.mem_iff_getElem?.mp (List.mem_of_find?_eq_some f)
    obtain ⟨j, hj⟩ := List.mem_iff_getElem?.mp h
    obtain ⟨li, gi⟩ := List.getElem?_eq_some_iff.mp hi
    obtain ⟨lj, gj⟩ := List.getElem?_eq_some_iff.mp hj
    have pw := List.pairwise_iff_getElem.mp (mets_keys hm)
    rcases Nat.lt_trichotomy i j with z | z | z
    · have := pw i j li lj z
      rw [gi, gj] at this
      exact absurd hk this
    · subst z
      rw [hi] at hj
      cases hj
      rfl
    · have := pw j i lj li z
      rw [gi, gj] at this
      exact absurd hk.symm this
theorem cnt_miss {ms : List Met} {v : List PyData} (h : ∀ m ∈ ms, keyD (.tuple m.1) ≠ keyD (.tuple v)) : cntD ms v = 0 := by
  unfold cntD
  have f : ms.find? (fun x => decide (keyD (.tuple x.1) = keyD (.tuple v))) = none := List.find?_eq_none.mpr fun m hm => by
    rw [decide_eq_false (h m hm)]
    decide
  rw [f]
  rfl
theorem fits_all {ms : List Met} (hm : Mets ms) {es : List Ent} (h : ∀ e ∈ es, e.m ∈ ms ∧ (e.ws.length : Int) = e.m.2) : fitsB ms es = true := by
  unfold fitsB
  rw [List.all_eq_true]
  intro e he
  obtain ⟨h1, h2⟩ := h e he
  rw [cnt_hit hm h1, h2]
  exact decide_eq_true rfl
theorem fits_no {ms : List Met} {es : List Ent} {e : Ent} (he : e ∈ es) (h : cntD ms e.m.1 ≠ (e.ws.length : Int)) : fitsB ms es = false := by
  unfold fitsB
  rw [List.all_eq_false]
  exact ⟨e, he, by rw [decide_eq_false h]; decide⟩
theorem nstep_step {st : List Stg} (k : Nat) : nStep st k ≤ nStep st (k + 1) := by
  have e : nStep st (k + 1) = (match st[k]? with | some s => if s.w = 0 then nStep st k else nStep st k + 1 | none => nStep st k) := rfl
  rw [e]
  generalize nStep st k = n
  cases st[k]? with
  | none => exact Int.le_refl n
  | some s =>
    show n ≤ if s.w = 0 then n else n + 1
    split
    · exact Int.le_refl n
    · exact Int.le_of_lt (Int.lt_succ n)
theorem nstep_le {st : List Stg} (k : Nat) : ∀ d : Nat, nStep st k ≤ nStep st (k + d)
  | 0 => Int.le_refl _
  | d + 1 => Int.le_trans (nstep_le k d) (nstep_step (k + d))
theorem nstep_lt {st : List Stg} {k1 k2 : Nat} {s : Stg} (h : k1 < k2) (e : st[k1]? = some s) (w : s.w ≠ 0) : nStep st k1 < nStep st k2 := by
  have h1 : nStep st (k1 + 1) = nStep st k1 + 1 := by
    show (match st[k1]? with | some s => if s.w = 0 then nStep st k1 else nStep st k1 + 1 | none => nStep st k1) = _
    rw [e]
    exact if_neg w
  have h2 := nstep_le (st := st) (k1 + 1) (k2 - (k1 + 1))
  rw [show k1 + 1 + (k2 - (k1 + 1)) = k2 by omega] at h2
  omega
theorem other_view {st : List Stg} (hl : st.length ≤ 4) (ok : ∀ s ∈ st, 1 ≤ s.n ∧ s.n ≤ 3) {p1 p2 : Int} (n1 : p1 ≠ 0) (n2 : p2 ≠ 0) (ne : p1 ≠ p2) {a b : Met} (ha : a ∈ metD st p1) (hb : b ∈ metD st p2) : a.1 ≠ b.1 := by
  obtain ⟨q1, k1, s1, h1, e1, w1, rfl⟩ := metD_sub hl ok a ha
  obtain ⟨q2, k2, s2, h2, e2, w2, rfl⟩ := metD_sub hl ok b hb
  have l1 := pStep_mem (st := st) (k := st.length) (Nat.le_refl _) q1 h1
  have l2 := pStep_mem (st := st) (k := st.length) (Nat.le_refl _) q2 h2
  have t1 := (List.getElem?_eq_some_iff.mp e1).1
  have t2 := (List.getElem?_eq_some_iff.mp e2).1
  have c1 : (q1.take k1).length = k1 := by rw [List.length_take]; omega
  have c2 : (q2.take k2).length = k2 := by rw [List.length_take]; omega
  intro q
  have q : askD st (q1.take k1) s1 = askD st (q2.take k2) s2 := q
  have g := congrArg List.getLast? q
  unfold askD at g
  rw [List.getLast?_concat, List.getLast?_concat, c1, c2] at g
  have g := Option.some.inj g
  simp only [dMove, PyData.tuple.injEq, List.cons.injEq, PyData.int.injEq] at g
  have g1 := g.2.1
  rcases Nat.lt_trichotomy k1 k2 with z | z | z
  · have := nstep_lt z e1 (by omega)
    omega
  · subst z
    rw [e1] at e2
    cases e2
    omega
  · have := nstep_lt z e2 (by omega)
    omega

theorem got_el {K : PySem.W.Frag} {C : Addr} {H : Hp} {D p : Addr} {es : List Ent} {ys : List V} (h : GotAt K C H D es) (eD : H D = some (.lst ys)) (n : H p = none) : ELAt K C (upd H p (.lst ys)) p es := by
  obtain ⟨ys', a, b, f⟩ := h.ex
  rw [eD] at a
  cases a
  have pick : ∀ k : Nat, ∃ r : PRow, ∀ e, es[k]? = some e → r.d = .tuple e.m.1 ∧ Dp K H (.ref r.ka) r.d ∧ r.rs = terms e.ws e.ws.sum ∧ H r.la = some (.lst r.xs) ∧ RatsAt C H r.xs r.rs ∧ ∃ t, ys[k]? = some (.ref t) ∧ H t = some (.tup [.ref r.ka, .ref r.la]) := fun k => by
    cases he : es[k]? with
    | none => exact ⟨⟨.none, 0, 0, [], []⟩, fun e h => by cases h⟩
    | some e =>
      obtain ⟨t, ka, l2, xs, a1, a2, a3, a4, a5⟩ := f k e he
      exact ⟨⟨.tuple e.m.1, ka, l2, xs, terms e.ws e.ws.sum⟩, fun e' h => by cases h; exact ⟨rfl, a3, rfl, a4, a5, t, a1, a2⟩⟩
  obtain ⟨g, hg⟩ := Classical.axiomOfChoice pick
  have s := same_new (o := .lst ys) n
  refine ⟨ys, (List.range es.length).map g, upd_same, b, by rw [List.length_map, List.length_range], fun k r hr => ?_⟩
  have hk := (List.getElem?_eq_some_iff.mp hr).1
  rw [List.length_map, List.length_range] at hk
  rw [List.getElem?_map, List.getElem?_range hk] at hr
  cases hr
  obtain ⟨b1, b2, b3, b4, b5, t, b6, b7⟩ := hg k es[k] (List.getElem?_eq_getElem hk)
  exact ⟨es[k], t, List.getElem?_eq_getElem hk, b1, dp_same s _ _ b2, b3, fun z => (by rw [z, n] at b4; cases b4), s _ _ b4, b5.same s, b6, s _ _ b7⟩

end K42
local macro_rules | `(tactic| walk_at "go1") => `(tactic| first
  | with_reducible refine K42.go_F_End_paid (by assumption) (by assumption) (by assumption) ?_
  | with_reducible refine K42.go_F_Lot_parts (by assumption) (by assumption) (by assumption) ?_
  | with_reducible refine K42.go_F_Turn_player (by assumption) (by assumption) (by assumption) ?_
  | with_reducible refine K42.go_F_Turn_view (by assumption) (by assumption) (by assumption) ?_
  | with_reducible refine K42.go_F_Turn_parts (by assumption) (by assumption) (by assumption) ?_)
namespace K42
open PySem PySem.Spec PyProof.Rows L2 Gx
section
variable {P : Program} {w : World} {K : PySem.W.Frag} {mg : Str → Option Value} {base : Heap} {A : Ad}
def sp_common (K : PySem.W.Frag) (C : Addr) : Sp := fun vs H Q _ => ∃ (a : Addr) (xs : List V) (rs : List (Int × Int)), vs = [.ref a] ∧ SqL K H a xs ∧ RatsAt C H xs rs ∧ rs.length ≤ 60 ∧ (∀ r ∈ rs, 0 < r.2 ∧ r.2.natAbs < 2 ^ 100 ∧ r.1.natAbs < 2 ^ 100) ∧ ∀ H' t l, Same H H' → H t = none → H' t = some (.tup [.ref l, .int (cden rs : Int)]) → H' l = some (.lst ((cnum rs).map V.int)) → Q (.ref t) H'
theorem G_common (T : Txt P K mg A) : FnOk P w K mg base CX0 1 A.f_common A.d_common ["ratios"] (sp_common K A.c_Ratio) := by
  refine (T.F_common.ok (k := 0) sc_common (fun vs H Q E h => ?_) (fun cdv Ar outer s H vs Q E hr h => ?_))
  · obtain ⟨a, xs, rs, rfl, _⟩ := h
    rfl
  · obtain ⟨a, xs, rs, rfl, hs, hr, hl, hb, q⟩ := h
    have cl := T.cl_Ratio
    have n1 := T.na_Ratio_num
    have n2 := T.na_Ratio_den
    refine ⟨_, (pss_cons (ps_set (i := 1) sc_common.nd rfl (Or.inr rfl) pe_int)
      (pss_cons (ps_for PassesOwn.never rfl (pi_list (pv 0)) (pg_name (i := 2) sc_common.nd rfl (Or.inl rfl))
        (pss_one (ps_set (i := 1) sc_common.nd rfl (Or.inr rfl) (pe_callBfun cr_lcm rfl T.g_lcm (pa_cons (pv 1) (pa_cons (pe_fld (pv 2) rfl) pa_nil))))))
      (pss_one (ps_ret (pe_tup (pa_cons (pe_lc (own := [("ratio", 2)]) (g := gName 2) (tt := tYes) rfl sc_common.nd (pi_list (pv 0)) (blkOk_by (N := ["ratios", "den", "ratio"]) (sc := defScope s_common) (by decide +kernel)) (fun _ _ _ _ _ => (pg_name (i := 2) sc_common.nd rfl (Or.inl rfl))) (fun _ _ _ _ _ => by exact pts_nil) (fun _ _ _ _ _ => by exact (pe_op op_mulW (pe_fldK (K := K) rfl (pv 2) rfl) (pe_op op_fdivW (pv 1) (pe_fldK (K := K) rfl (pv 2) rfl))))) (pa_cons (pv 1) pa_nil))))))), ?_⟩
    try dsimp only [cxOf, Cx.nox, Cx.wish]
    have hlen := hr.1
    have hpos : ∀ r ∈ rs, 0 < r.2 := fun r h => (hb r h).1
    have hL := cden_pos hpos
    have hLz := cden_lt (fun r h => (hb r h).2.1) hl
    walk_at "go"
    refine foL xs (fun i σ' H' => ∃ v, σ' = [some (.ref a), some (.int (cden (rs.take i) : Int)), v] ∧ H' = H) ⟨none, rfl, rfl⟩ ?_ ?_ ?_
    · rintro i σ' H' _ ⟨v, rfl, rfl⟩
      exact hs
    · rintro i x σ' H' hx ⟨v, rfl, rfl⟩
      obtain ⟨r, p, dx, er, rfl, ep⟩ := hr.get hx
      have hm : r ∈ rs := List.mem_of_getElem? er
      walk_at "go"
      refine go_lcm ?_ ?_ ?_
      · rw [Int.natAbs_natCast]
        exact cden_lt (fun z hz => (hb z (List.mem_of_mem_take hz)).2.1) (Nat.le_trans (by rw [List.length_take]; omega) hl)
      · exact p_mono (hb r hm).2.1 (by decide)
      walk_at "go"
      refine ⟨some (.ref p), ?_, rfl⟩
      rw [cden_take er]
      rfl
    rintro σ' H' ⟨v, rfl, rfl⟩
    rw [hlen, List.take_length]
    walk_at "go"
    refine lcL xs (fun k y => ∃ r : Int × Int, rs[k]? = some r ∧ y = .int (r.1 * ((cden rs : Int) / r.2))) hs (by omega) (fun _ => rfl) ?_ ?_
    · intro i x H2 hx s2 R hR
      obtain ⟨r, p, dx, er, rfl, ep⟩ := hr.get hx
      have hm : r ∈ rs := List.mem_of_getElem? er
      have ep2 := s2 _ _ ep
      walk_at "go"
      refine go_rI (wide_div (hb r hm).1 (hb r hm).2.1 (by decide) (by decide)) ?_
      walk_at "go"
      refine go_rI (wide_mul (a := 100) (b := 9000) (hb r hm).2.2 ?_ (by decide) (by decide) (by decide)) ?_
      · have h1 : ((cden rs : Int) / r.2) ≤ (cden rs : Int) := Int.ediv_le_self _ (by omega)
        have h2 : 0 ≤ ((cden rs : Int) / r.2) := Int.ediv_nonneg (by omega) (Int.le_of_lt (hb r hm).1)
        have : ((cden rs : Int) / r.2).natAbs ≤ cden rs := by omega
        exact Nat.lt_of_le_of_lt this hLz
      exact hR _ _ (Same.refl _) ⟨r, er, rfl⟩
    intro D ys H2 hD s2 eD hyl hP
    have ey : ys = (cnum rs).map V.int := by
      refine List.ext_getElem? fun k => ?_
      cases e : ys[k]? with
      | none =>
        have := List.getElem?_eq_none_iff.mp e
        rw [List.getElem?_eq_none]
        rw [List.length_map]
        unfold cnum
        rw [List.length_map]
        omega
      | some y =>
        obtain ⟨r, er, rfl⟩ := hP k y e
        unfold cnum
        rw [List.getElem?_map, List.getElem?_map, er]
        rfl
    subst ey
    walk_at "go"
    refine ⟨by show 2 ≤ sizeLine; decide, fun t ht => ?_⟩
    have nt : D ≠ t := ne_of_none eD ht
    refine q _ t D (s2.trans (same_new ht)) (s2.free ht) upd_same ?_
    rw [upd_ne nt]
    exact eD
end
end K42

namespace K42
open PySem PySem.Spec PyProof.Rows L2 Gx
section
variable {P : Program} {w : World} {K : PySem.W.Frag} {mg : Str → Option Value} {base : Heap} {A : Ad}
def sp_Ratio___eq__ (C : Addr) : Sp := fun vs H Q _ => ∃ (x y dx dy : Addr) (a b : Int), vs = [.ref x, .ref y] ∧ H x = some (.ins C dx (rf a b)) ∧ H y = some (.ins C dy (rf a b)) ∧ Q (.bl true) H
theorem G_Ratio___eq__ (T : Txt P K mg A) : FnOk P w K mg base CX0 1 A.f_Ratio___eq__ A.d_Ratio___eq__ ["self", "other"] (sp_Ratio___eq__ A.c_Ratio) := by
  refine (T.F_Ratio___eq__.ok (k := 0) sc_Ratio___eq__ (fun vs H Q E h => ?_) (fun cdv Ar outer s H vs Q E hr h => ?_))
  · obtain ⟨x, y, dx, dy, a, b, rfl, _⟩ := h
    rfl
  · obtain ⟨x, y, dx, dy, a, b, rfl, hx, hy, q⟩ := h
    have cl := T.cl_Ratio
    have n1 := T.na_Ratio_num
    have n2 := T.na_Ratio_den
    refine ⟨_, (pss_one (ps_ret (pe_and (pe_callB (C8.call_isC T.ic_Ratio) (by rfl) T.n_isinstance (by decide +kernel) (pa_cons (pv 1) (pa_cons (pe_glob (v := .ref A.c_Ratio) rfl T.m_Ratio rfl) pa_nil))) (pe_and (pe_cmpR op_eq (pe_fld (pv 0) rfl) (pe_fld (pv 1) rfl) (nomark _)) (pe_one (pe_cmpR op_eq (pe_fld (pv 0) rfl) (pe_fld (pv 1) rfl) (nomark _))))))), ?_⟩
    try dsimp only [cxOf, Cx.nox, Cx.wish]
    walk_at "go"
    refine ⟨y, dy, _, rfl, hy, ?_⟩
    walk_at "go"
    rw [decide_eq_true (rfl : b = b)]
    exact q
end
end K42

namespace K42
open PySem PySem.Spec PyProof.Rows L2 Gx
section
variable {P : Program} {w : World} {K : PySem.W.Frag} {mg : Str → Option Value} {base : Heap} {A : Ad}
def sp_End___init__ (P : Program) (w : World) (K : PySem.W.Frag) (CE CL CT : Addr) : Sp := fun vs H Q _ => ∃ (p dx : Addr) (x : V), vs = [.ref p, x] ∧ H p = some (.ins CE dx []) ∧ ∀ H', But p H H' → H' p = some (.ins CE dx (F_End x)) → Q .non H'
theorem G_End___init__ (T : Txt P K mg A) : FnOk P w K mg base CX0 1 A.f_End___init__ A.d_End___init__ ["self", "paid"] (sp_End___init__ P w K A.c_End A.c_Lot A.c_Turn) := by
  refine (T.F_End___init__.ok (k := 0) sc_End___init__ (fun vs H Q E h => ?_) (fun cdv Ar outer s H vs Q E hr h => ?_))
  · obtain ⟨p, dx, x, rfl, _⟩ := h
    rfl
  · obtain ⟨p, dx, x, rfl, hp, q⟩ := h
    have cl := T.cl_End
    have n1 := T.na_End_paid
    refine ⟨_, (pss_one (ps_fld (pv 0) (pv 1) rfl)), ?_⟩
    try dsimp only [cxOf, Cx.nox, Cx.wish]
    walk_at "go"
    refine go_sfldV hp cl n1 (by show 0 < 1000; decide) ?_
    rw [F_End_made]
    exact q _ (fun c o n e => by rw [upd_ne n]; exact e) upd_same
end
end K42

namespace K42
open PySem PySem.Spec PyProof.Rows L2 Gx
section
variable {P : Program} {w : World} {K : PySem.W.Frag} {mg : Str → Option Value} {base : Heap} {A : Ad}
def sp_Lot___init__ (P : Program) (w : World) (K : PySem.W.Frag) (CE CL CT : Addr) : Sp := fun vs H Q _ => ∃ (p dx : Addr) (x : V), vs = [.ref p, x] ∧ H p = some (.ins CL dx []) ∧ ∀ H', But p H H' → H' p = some (.ins CL dx (F_Lot x)) → Q .non H'
theorem G_Lot___init__ (T : Txt P K mg A) : FnOk P w K mg base CX0 1 A.f_Lot___init__ A.d_Lot___init__ ["self", "parts"] (sp_Lot___init__ P w K A.c_End A.c_Lot A.c_Turn) := by
  refine (T.F_Lot___init__.ok (k := 0) sc_Lot___init__ (fun vs H Q E h => ?_) (fun cdv Ar outer s H vs Q E hr h => ?_))
  · obtain ⟨p, dx, x, rfl, _⟩ := h
    rfl
  · obtain ⟨p, dx, x, rfl, hp, q⟩ := h
    have cl := T.cl_Lot
    have n1 := T.na_Lot_parts
    refine ⟨_, (pss_one (ps_fld (pv 0) (pv 1) rfl)), ?_⟩
    try dsimp only [cxOf, Cx.nox, Cx.wish]
    walk_at "go"
    refine go_sfldV hp cl n1 (by show 0 < 1000; decide) ?_
    rw [F_Lot_made]
    exact q _ (fun c o n e => by rw [upd_ne n]; exact e) upd_same
end
end K42

namespace K42
open PySem PySem.Spec PyProof.Rows L2 Gx
section
variable {P : Program} {w : World} {K : PySem.W.Frag} {mg : Str → Option Value} {base : Heap} {A : Ad}
def sp_Turn___init__ (P : Program) (w : World) (K : PySem.W.Frag) (CE CL CT : Addr) : Sp := fun vs H Q _ => ∃ (p dx : Addr) (x y u : V), vs = [.ref p, x, y, u] ∧ H p = some (.ins CT dx []) ∧ ∀ H', But p H H' → H' p = some (.ins CT dx (F_Turn x y u)) → Q .non H'
theorem G_Turn___init__ (T : Txt P K mg A) : FnOk P w K mg base CX0 1 A.f_Turn___init__ A.d_Turn___init__ ["self", "player", "view", "parts"] (sp_Turn___init__ P w K A.c_End A.c_Lot A.c_Turn) := by
  refine (T.F_Turn___init__.ok (k := 0) sc_Turn___init__ (fun vs H Q E h => ?_) (fun cdv Ar outer s H vs Q E hr h => ?_))
  · obtain ⟨p, dx, x, y, u, rfl, _⟩ := h
    rfl
  · obtain ⟨p, dx, x, y, u, rfl, hp, q⟩ := h
    have cl := T.cl_Turn
    have n1 := T.na_Turn_player
    have n2 := T.na_Turn_view
    have n3 := T.na_Turn_parts
    refine ⟨_, (pss_cons (ps_fld (pv 0) (pv 1) rfl)
      (pss_cons (ps_fld (pv 0) (pv 2) rfl)
      (pss_one (ps_fld (pv 0) (pv 3) rfl)))), ?_⟩
    try dsimp only [cxOf, Cx.nox, Cx.wish]
    walk_at "go"
    refine go_sfldV hp cl n1 (by show 0 < 1000; decide) ?_
    walk_at "go"
    refine go_sfldV (by exact upd_same) cl n2 (by show 1 < 1000; decide) ?_
    walk_at "go"
    refine go_sfldV (by exact upd_same) cl n3 (by show 2 < 1000; decide) ?_
    rw [upd_upd]
    rw [upd_upd]
    rw [F_Turn_made]
    exact q _ (fun c o n e => by rw [upd_ne n]; exact e) upd_same
end
end K42

namespace K42
open PySem PySem.Spec PyProof.Rows L2 Gx
section
variable {P : Program} {w : World} {K : PySem.W.Frag} {mg : Str → Option Value} {base : Heap} {A : Ad}
def sp_Plan_entries (P : Program) (w : World) (K : PySem.W.Frag) (C CP B : Addr) : Sp := fun vs H Q E => ∃ (p dx d : Addr) (xs : List NRow), vs = [.ref p] ∧ H p = some (.ins CP dx [("table", .ref d)]) ∧ H d = some (ndO P w d xs) ∧ xs.length ≤ 1000 ∧ (∀ x ∈ xs, ∃ la ls, x.2.2 = .ref la ∧ H la = some (.lst ls)) ∧ ∀ D ys H', Same H H' → H D = none → H' D = some (.lst ys) → ys.length = xs.length → (∀ (k : Nat) y, ys[k]? = some y → PEnt D H H' xs k y) → Q (.ref D) H'
theorem G_Plan_entries (T : Txt P K mg A) : FnOk P w K mg base CX0 1 A.f_Plan_entries A.d_Plan_entries ["self"] (sp_Plan_entries P w K A.c_Ratio A.c_Plan A.c_BadPlan) := by
  refine (T.F_Plan_entries.ok (k := 0) sc_Plan_entries (fun vs H Q E h => ?_) (fun cdv Ar outer s H vs Q E hr h => ?_))
  · obtain ⟨p, dx, d, xs, rfl, _⟩ := h
    rfl
  · obtain ⟨p, dx, d, xs, rfl, hp, hd, hz, hv, q⟩ := h
    have cl := T.cl_Plan
    have n1 := T.na_Plan_table
    have pd : p ≠ d := ne_of hp hd (by intro z; cases z)
    refine ⟨_, (pss_one (ps_ret (pe_lock (pe_lc (own := [("view", 1), ("lots", 2)]) (g := _) (tt := tYes) rfl sc_Plan_entries.nd (pi_itemsN (pe_fld (pv 0) rfl)) (blkOk_by (N := ["self", "view", "lots"]) (sc := defScope s_Plan_entries) (by decide +kernel)) (fun _ _ _ _ _ => (pg_tupK (K := K) (n := 2) rfl rfl (pgs_cons (pg_name (i := 1) sc_Plan_entries.nd rfl (Or.inl rfl)) (pgs_cons (pg_name (i := 2) sc_Plan_entries.nd rfl (Or.inl rfl)) pgs_nil)))) (fun _ _ _ _ _ => by exact pts_nil) (fun _ _ _ _ _ => by exact (pe_tup (pa_cons (pv 1) (pa_cons (pe_callTy (k_list_ofK (K := K) rfl) (by rfl) T.n_list (by decide +kernel) (pa_cons (pv 2) pa_nil)) pa_nil)))))))), ?_⟩
    try dsimp only [cxOf, Cx.nox, Cx.wish]
    walk_at "go"
    refine ⟨d, ndO P w d xs, hd, trivial, fun od => ?_⟩
    have hp2 : upd H d (.frz od (ndO P w d xs)) p = some (.ins A.c_Plan dx [("table", .ref d)]) := by rw [upd_ne pd]; exact hp
    have hd2 : upd H d (.frz od (ndO P w d xs)) d = some (.frz od (ndO P w d xs)) := upd_same
    have B2 : But d H (upd H d (.frz od (ndO P w d xs))) := (But.refl d H).upd
    generalize upd H d (.frz od (ndO P w d xs)) = H2 at *
    walk_at "go"
    unfold iItemsN
    walk_at "go"
    refine go_fldV hp2 cl n1 (by rw [List.lookup_cons, beq_self_eq_true]) ?_
    refine ⟨d, od, xs, rfl, hd2, fun D hD => ?_⟩
    have nDd : D ≠ d := fun z => by rw [z, hd2] at hD; cases hD
    have hD0 : H D = none := by
      cases z : H D with
      | none => rfl
      | some o =>
        rw [B2 _ _ nDd z] at hD
        cases hD
    refine lc_itemsN (fun i H' => But d H H' ∧ H' d = some (.frz od (ndO P w d xs)) ∧ ∃ ys : List V, H' D = some (.lst ys) ∧ ys.length = i ∧ ∀ (k : Nat) y, ys[k]? = some y → PEnt D H H' xs k y) ?_ ?_ ?_ ?_
    · exact ⟨B2.new hD, by rw [upd_ne (Ne.symm nDd)]; exact hd2, [], upd_same, rfl, fun k y h => by simp at h⟩
    · rintro i H' _ ⟨_, h, _⟩
      exact h
    · rintro i ⟨rd, ka, v⟩ T H' hr ⟨B, hl, ys, eD, hyl, hP⟩ hT
      have hi := (List.getElem?_eq_some_iff.mp hr).1
      obtain ⟨la, ls, e, hla⟩ := hv _ (List.mem_of_getElem? hr)
      obtain rfl : v = .ref la := e
      have lad : la ≠ d := ne_of hla hd (by intro z; cases z)
      have s1 := same_new (H := H') (o := .tup [.ref ka, .ref la]) hT
      have eT : SqT K (upd H' T (.tup [.ref ka, .ref la])) T [.ref ka, .ref la] := .of upd_same
      have hla1 : upd H' T (.tup [.ref ka, .ref la]) la = some (.lst ls) := s1 _ _ (B _ _ lad hla)
      have eD1 := s1 _ _ eD
      have hl1 := s1 _ _ hl
      have B1 := B.new (o := .tup [.ref ka, .ref la]) hT
      have hP1 : ∀ (k : Nat) y, ys[k]? = some y → PEnt D H (upd H' T (.tup [.ref ka, .ref la])) xs k y := fun k y h => by
        obtain ⟨x, t, l2, a, b, c1, c2, c3, c4, c5, c6, c7, c8⟩ := hP k y h
        exact ⟨x, t, l2, a, b, c1, c2, c3, c4, s1 _ _ c5, s1 _ _ c6, c7, c8⟩
      generalize upd H' T (.tup [.ref ka, .ref la]) = H3 at *
      refine ⟨T, _, rfl, eT, rfl, ?_⟩
      refine ⟨_, _, rfl, ?_⟩
      refine ⟨_, _, rfl, ?_⟩
      refine ⟨rfl, ?_⟩
      refine ⟨rfl, ?_⟩
      refine go_yes ?_
      refine iteT ?_
      walk_at "go"
      refine go_listOfL (.of hla1) fun l2 n2 => ?_
      walk_at "go"
      refine ⟨by show 2 ≤ sizeLine; decide, fun t nt => ?_⟩
      have s2 := same_new (o := .lst ls) n2
      have s3 := s2.trans (same_new (o := .tup [.ref ka, .ref l2]) nt)
      have l20 : H l2 = none := by
        cases z : H l2 with
        | none => rfl
        | some o =>
          have nd : l2 ≠ d := fun k => by rw [k, hl1] at n2; cases n2
          rw [B1 _ _ nd z] at n2
          cases n2
      have et : upd (upd H3 l2 (.lst ls)) t (.tup [.ref ka, .ref l2]) t = some (.tup [.ref ka, .ref l2]) := upd_same
      have el : upd (upd H3 l2 (.lst ls)) t (.tup [.ref ka, .ref l2]) l2 = some (.lst ls) := by rw [upd_ne (ne_of_none upd_same nt)]; exact upd_same
      have l2D : l2 ≠ D := fun k => by rw [k, eD1] at n2; cases n2
      refine ⟨ys, s3 _ _ eD1, szlt (by omega), fun c o n e => ?_, by rw [upd_ne (Ne.symm nDd)]; exact s3 _ _ hl1, ys ++ [.ref t], upd_same, by simp [hyl], fun k y h => ?_⟩
      · rw [upd_ne (ne_of_none e hD0)]
        exact s3 _ _ (B1 _ _ n e)
      · have keep : PEnt D H (upd (upd H3 l2 (.lst ls)) t (.tup [.ref ka, .ref l2])) xs k y := by
          rcases Nat.lt_or_ge k ys.length with z | z
          · rw [List.getElem?_append_left z] at h
            obtain ⟨x, t', l2', a, b, c1, c2, c3, c4, c5, c6, c7, c8⟩ := hP1 k y h
            exact ⟨x, t', l2', a, b, c1, c2, c3, c4, s3 _ _ c5, s3 _ _ c6, c7, c8⟩
          · have hk : k = i := by
              have := (List.getElem?_eq_some_iff.mp h).1
              rw [List.length_append, List.length_singleton] at this
              omega
            subst hk
            rw [List.getElem?_append_right z, hyl, Nat.sub_self] at h
            cases h
            exact ⟨_, t, l2, la, ls, hr, rfl, hla, rfl, et, el, l20, l2D⟩
        obtain ⟨x, t', l2', a, b, c1, c2, c3, c4, c5, c6, c7, c8⟩ := keep
        refine ⟨x, t', l2', a, b, c1, c2, c3, c4, by rw [upd_ne (ne_of c5 (s3 _ _ eD1) (by intro z; cases z))]; exact c5, ?_, c7, c8⟩
        rw [upd_ne c8]
        exact c6
    · rintro H' ⟨B, hl, ys, eD, hyl, hP⟩
      refine ⟨hl, q D ys _ (fun c o e => ?_) hD0 (by rw [upd_ne nDd]; exact eD) hyl fun k y h => ?_⟩
      · by_cases z : c = d
        · subst z
          rw [hd] at e
          cases e
          exact upd_same
        · rw [upd_ne z]
          exact B _ _ z e
      · obtain ⟨x, t, l2, a, b, c1, c2, c3, c4, c5, c6, c7, c8⟩ := hP k y h
        exact ⟨x, t, l2, a, b, c1, c2, c3, c4, by rw [upd_ne (ne_of c5 hl (by intro z; cases z))]; exact c5, by rw [upd_ne (ne_of c6 hl (by intro z; cases z))]; exact c6, c7, c8⟩
end
end K42

namespace K42
open PySem PySem.Spec PyProof.Rows L2 Gx
section
variable {P : Program} {w : World} {K : PySem.W.Frag} {mg : Str → Option Value} {base : Heap} {A : Ad}
def sp__law_cell (K : PySem.W.Frag) : Sp := fun vs H Q _ => ∃ (a : Addr) (ns : List Int) (k : Int), vs = [.ref a, .int k] ∧ SqL K H a (ns.map V.int) ∧ 0 ≤ k ∧ Q (.int (ns.getD k.toNat 0)) H
theorem G__law_cell (T : Txt P K mg A) : FnOk P w K mg base CX0 1 A.f__law_cell A.d__law_cell ["_law_script", "_law_k"] (sp__law_cell K) := by
  refine (T.F__law_cell.ok (k := 0) sc__law_cell (fun vs H Q E h => ?_) (fun cdv Ar outer s H vs Q E hr h => ?_))
  · obtain ⟨a, ns, k, rfl, _⟩ := h
    rfl
  · obtain ⟨a, ns, k, rfl, hs, h0, q⟩ := h
    refine ⟨_, (pss_cons (ps_if (pt_cmpR op_lt (pv 1) (pe_callB k_len (by rfl) T.n_len (by decide +kernel) (pa_cons (pv 0) pa_nil)) (nomark _))
        (pss_one (ps_ret (pe_ix ix_list (pv 0) (pv 1) (fun _ _ => rfl))))
        pss_nil)
      (pss_one (ps_ret pe_int))), ?_⟩
    try dsimp only [cxOf, Cx.nox, Cx.wish]
    walk_at "go"
    refine go_lenL hs ?_
    rw [List.length_map]
    walk_at "go"
    walk_at "br"
    · intro h
      walk_at "go"
      refine go_ixL hs (at_int h0 h) ?_
      walk_at "go"
      exact q
    · intro h
      walk_at "go"
      rw [List.getD_eq_getElem?_getD, List.getElem?_eq_none (by omega)] at q
      exact q
end
end K42

namespace K42
open PySem PySem.Spec PyProof.Rows L2 Gx
section
variable {P : Program} {w : World} {K : PySem.W.Frag} {mg : Str → Option Value} {base : Heap} {A : Ad}
def sp__law_row (K : PySem.W.Frag) : Sp := fun vs H Q _ => ∃ (c n m : Int), vs = [.int c, .int n, .int m] ∧ 0 ≤ n ∧ n ≤ 1000 ∧ 0 < m ∧ m ≤ 1000 ∧ ∀ (l : Addr) (ds : List Int) H', Same H H' → H l = none → H' l = some (.lst (ds.map V.int)) → ds.length = n.toNat → (∀ d ∈ ds, 0 ≤ d ∧ d < m) → Q (.ref l) H'
theorem G__law_row (T : Txt P K mg A) : FnOk P w K mg base CX0 1 A.f__law_row A.d__law_row ["_law_cell_here", "_law_count", "_law_size"] (sp__law_row K) := by
  refine (T.F__law_row.ok (k := 0) sc__law_row (fun vs H Q E h => ?_) (fun cdv Ar outer s H vs Q E hr h => ?_))
  · obtain ⟨c, n, m, rfl, _⟩ := h
    rfl
  · obtain ⟨c, n, m, rfl, n0, n1, m0, m1, q⟩ := h
    refine ⟨_, (pss_cons (ps_set (i := 3) sc__law_row.nd rfl (Or.inl rfl) (pv 0))
      (pss_cons (ps_set (i := 4) sc__law_row.nd rfl (Or.inl rfl) (pe_lst pa_nil))
      (pss_cons (ps_for PassesOwn.never rfl (pi_range1 rfl T.n_range (pa_cons (pv 1) pa_nil)) (pg_name (i := 5) sc__law_row.nd rfl (Or.inl rfl))
        (pss_one (ps_if (pt_cmpR op_ge (pv 0) (pe_op op_pow pe_int pe_int) (nomark _))
        (pss_cons (ps_expr (pe_bm PySem.F.plainAttrs_list PySem.F.slot_list_append PySem.F.type_list_append mt_append (pv 4) (pa_cons (pe_op op_mod (pe_callTy k_int1 (by rfl) T.n_int (by decide +kernel) (pa_cons (pv 3) pa_nil)) (pv 2)) pa_nil)))
      (pss_one (ps_set (i := 3) sc__law_row.nd rfl (Or.inl rfl) (pe_op op_fdiv (pv 3) (pv 2)))))
        (pss_cons (ps_set (i := 3) sc__law_row.nd rfl (Or.inl rfl) (pe_op op_mod (pe_callTy k_int1 (by rfl) T.n_int (by decide +kernel) (pa_cons (pe_op op_add (pe_op op_mul (pv 3) pe_int) pe_int) pa_nil)) pe_int))
      (pss_one (ps_expr (pe_bm PySem.F.plainAttrs_list PySem.F.slot_list_append PySem.F.type_list_append mt_append (pv 4) (pa_cons (pe_op op_mod (pe_op op_mod (pe_callTy k_int1 (by rfl) T.n_int (by decide +kernel) (pa_cons (pe_op op_add (pe_op op_mul (pv 3) pe_int) (pe_op op_mul (pv 5) pe_int)) pa_nil)) pe_int) (pv 2)) pa_nil))))))))
      (pss_one (ps_ret (pv 4)))))), ?_⟩
    try dsimp only [cxOf, Cx.nox, Cx.wish]
    walk_at "go"
    refine ⟨by show 0 ≤ sizeLine; decide, fun l nl => ?_⟩
    walk_at "go"
    refine foR1 (fun i σ' H' => ∃ (v3 : Int) (v5 : Option V) (ds : List Int), σ' = [some (.int c), some (.int n), some (.int m), some (.int v3), some (.ref l), v5] ∧ Same H H' ∧ H' l = some (.lst (ds.map V.int)) ∧ ds.length = i ∧ ∀ d ∈ ds, 0 ≤ d ∧ d < m) (by omega) ⟨_, _, [], rfl, same_new nl, upd_same, rfl, fun _ h => nomatch h⟩ ?_ ?_
    · rintro i σ' H' hi ⟨v3, v5, ds, rfl, s, el, hl, hd⟩
      have add : ∀ x : Int, ∀ d ∈ ds ++ [x % m], 0 ≤ d ∧ d < m := fun x d h => by
        rcases List.mem_append.mp h with h | h
        · exact hd d h
        · rw [List.mem_singleton.mp h]
          exact ⟨Int.emod_nonneg _ (by omega), Int.emod_lt_of_pos _ m0⟩
      walk_at "go"
      walk_at "br"
      · intro _
        walk_at "go"
        refine ⟨.inl ⟨rfl, _, .inl (.inl el)⟩, ?_⟩
        walk_at "go"
        refine go_append el (szlt (by rw [List.length_map]; omega)) ?_
        walk_at "go"
        exact ⟨_, _, ds ++ [_], rfl, same_mut s nl, by rw [upd_same, List.map_append]; rfl, by rw [List.length_append, List.length_singleton, hl], add _⟩
      · intro _
        walk_at "go"
        refine ⟨.inl ⟨rfl, _, .inl (.inl el)⟩, ?_⟩
        walk_at "go"
        refine go_append el (szlt (by rw [List.length_map]; omega)) ?_
        walk_at "go"
        exact ⟨_, _, ds ++ [_], rfl, same_mut s nl, by rw [upd_same, List.map_append]; rfl, by rw [List.length_append, List.length_singleton, hl], add _⟩
    · rintro σ' H' ⟨v3, v5, ds, rfl, s, el, hl, hd⟩
      walk_at "go"
      exact q l ds _ s nl el hl hd
end
end K42

namespace K42
open PySem PySem.Spec PyProof.Rows L2 Gx
section
variable {P : Program} {w : World} {K : PySem.W.Frag} {mg : Str → Option Value} {base : Heap} {A : Ad}
def sp__law_paths (K : PySem.W.Frag) : Sp := fun vs H Q _ => ∃ (l : Addr) (st : List Stg), vs = [.ref l] ∧ StAt H l st ∧ ∀ (r : Addr) H', Same H H' → PsAt H H' r (pathsD st) → Q (.ref r) H'
theorem G__law_paths (T : Txt P K mg A) : FnOk P w K mg base CX0 1 A.f__law_paths A.d__law_paths ["_law_stages_here"] (sp__law_paths K) := by
  refine (T.F__law_paths.ok (k := 0) sc__law_paths (fun vs H Q E h => ?_) (fun cdv Ar outer s H vs Q E hr h => ?_))
  · obtain ⟨l, st, rfl, _⟩ := h
    rfl
  · obtain ⟨l, st, rfl, hst, q⟩ := h
    obtain ⟨sx, esx, hsl, hsf⟩ := hst.ex
    have h4 := hst.le
    refine ⟨_, (pss_cons (ps_set (i := 1) sc__law_paths.nd rfl (Or.inl rfl) (pe_lst (pa_cons (pe_lst pa_nil) pa_nil)))
      (pss_cons (ps_for PassesOwn.never rfl (pi_list (pv 0)) (pg_name (i := 2) sc__law_paths.nd rfl (Or.inl rfl))
        (pss_cons (ps_set (i := 3) sc__law_paths.nd rfl (Or.inl rfl) (pe_lst pa_nil))
      (pss_cons (ps_for PassesOwn.never rfl (pi_list (pv 1)) (pg_name (i := 4) sc__law_paths.nd rfl (Or.inl rfl))
        (pss_one (ps_for PassesOwn.never rfl (pi_range1 rfl T.n_range (pa_cons (pe_ix ix_tup (pv 2) pe_int (fun _ _ => rfl)) pa_nil)) (pg_name (i := 5) sc__law_paths.nd rfl (Or.inl rfl))
        (pss_one (ps_expr (pe_bm PySem.F.plainAttrs_list PySem.F.slot_list_append PySem.F.type_list_append mt_append (pv 3) (pa_cons (pe_op op_cat (pv 4) (pe_lst (pa_cons (pv 5) pa_nil))) pa_nil)))))))
      (pss_one (ps_set (i := 1) sc__law_paths.nd rfl (Or.inl rfl) (pv 3))))))
      (pss_one (ps_ret (pv 1))))), ?_⟩
    try dsimp only [cxOf, Cx.nox, Cx.wish]
    walk_at "go"
    refine ⟨by show 0 ≤ sizeLine; decide, fun t1 n1 => ?_⟩
    walk_at "go"
    refine ⟨by show 1 ≤ sizeLine; decide, fun t2 n2 => ?_⟩
    have s0 := (same_new (o := .lst []) n1).trans (same_new (o := .lst [.ref t1]) n2)
    have d0 : PsAt H (upd (upd H t1 (.lst [])) t2 (.lst [.ref t1])) t2 (pStep st 0) := ⟨(same_new (o := .lst []) n1).free n2, [.ref t1], upd_same, rfl, fun k p hk => by
      have h0 := (List.getElem?_eq_some_iff.mp hk).1
      obtain rfl : k = 0 := by simpa [pStep] using h0
      cases hk
      exact ⟨t1, rfl, n1, by rw [upd_ne (ne_of_none upd_same n2)]; exact upd_same⟩⟩
    generalize upd (upd H t1 (.lst [])) t2 (.lst [.ref t1]) = H0 at *
    walk_at "go"
    refine foL sx (fun i σ' H' => ∃ (r : Addr) (v2 v3 v4 v5 : Option V), σ' = [some (.ref l), some (.ref r), v2, v3, v4, v5] ∧ Same H H' ∧ PsAt H H' r (pStep st i)) ⟨_, _, _, _, _, rfl, s0, d0⟩ ?_ ?_ ?_
    · rintro i σ' H' _ ⟨r, v2, v3, v4, v5, rfl, s, _⟩
      exact .of (s _ _ esx)
    · rintro i x σ' H1 hx ⟨r, v2, v3, v4, v5, rfl, s1, hps⟩
      have hi := (List.getElem?_eq_some_iff.mp hx).1
      obtain ⟨s, es⟩ : ∃ s, st[i]? = some s := ⟨_, List.getElem?_eq_getElem (by omega)⟩
      obtain ⟨t, et1, et⟩ := hsf i s es
      rw [hx] at et1
      cases et1
      have hsn := hst.ok s (List.mem_of_getElem? es)
      obtain ⟨px, epx, hpl, hpf⟩ := hps.ex
      have plen : ((pStep st i).length : Int) ≤ 81 := Int.le_trans (pStep_len (fun s hs => (hst.ok s hs).2.2.2.1) i) (p3_le (by omega))
      walk_at "go"
      refine ⟨by show 0 ≤ sizeLine; decide, fun L nL => ?_⟩
      walk_at "go"
      refine foL px (fun j σ' H' => ∃ (v4 v5 : Option V) (ys : List V), σ' = [some (.ref l), some (.ref r), some (.ref t), some (.ref L), v4, v5] ∧ Same H1 H' ∧ H' L = some (.lst ys) ∧ LsAt H H' L ys (((pStep st i).take j).flatMap fun p => (List.range s.n.toNat).map fun (j : Nat) => p ++ [(j : Int)])) ⟨_, _, [], rfl, same_new nL, upd_same, .nil⟩ ?_ ?_ ?_
      · rintro j σ' H' _ ⟨v4, v5, ys, rfl, s2, _⟩
        exact .of (s2 _ _ epx)
      · rintro j x σ' H2 hx2 ⟨v4, v5, ys, rfl, s2, eL, hL⟩
        have hj := (List.getElem?_eq_some_iff.mp hx2).1
        obtain ⟨p, ep⟩ : ∃ p, (pStep st i)[j]? = some p := ⟨_, List.getElem?_eq_getElem (by omega)⟩
        obtain ⟨qa, eq1, _, eq2⟩ := hpf j p ep
        rw [hx2] at eq1
        cases eq1
        have et2 : H2 t = some (.tup [.int s.w, .int s.n, .int s.s]) := s2 _ _ (s1 _ _ et)
        have tk : (((pStep st i).take (j + 1)).flatMap fun p => (List.range s.n.toNat).map fun (j : Nat) => p ++ [(j : Int)]) = (((pStep st i).take j).flatMap fun p => (List.range s.n.toNat).map fun (j : Nat) => p ++ [(j : Int)]) ++ (List.range s.n.toNat).map fun (j : Nat) => p ++ [(j : Int)] := by
          rw [List.take_add_one, ep, List.flatMap_append]
          simp
        have bl := flat_len hsn.2.2.2.1 ((pStep st i).take j)
        rw [List.length_take] at bl
        generalize (((pStep st i).take j).flatMap fun p => (List.range s.n.toNat).map fun (j : Nat) => p ++ [(j : Int)]) = base at *
        walk_at "go"
        refine foR1 (fun k σ' H' => ∃ (v5 : Option V) (ys : List V), σ' = [some (.ref l), some (.ref r), some (.ref t), some (.ref L), some (.ref qa), v5] ∧ Same H1 H' ∧ H' L = some (.lst ys) ∧ LsAt H H' L ys (base ++ (List.range k).map fun (j : Nat) => p ++ [(j : Int)])) (by omega) ⟨_, ys, rfl, s2, eL, by rw [List.range_zero, List.map_nil, List.append_nil]; exact hL⟩ ?_ ?_
        · rintro k σ' H3 hk ⟨v5, ys, rfl, s3, eL3, hL3⟩
          walk_at "go"
          refine ⟨.inl ⟨rfl, _, .inl (.inl eL3)⟩, ?_⟩
          walk_at "go"
          refine ⟨by show 1 ≤ sizeLine; decide, fun o no => ?_⟩
          have x1 := same_new (o := .lst [.int (k : Nat)]) no
          have y1 : upd H3 o (.lst [.int (k : Nat)]) o = some (.lst [.int (k : Nat)]) := upd_same
          generalize upd H3 o (.lst [.int (k : Nat)]) = G1 at *
          have plen2 := pStep_mem (by omega) p (List.mem_of_getElem? ep)
          refine go_cat (x1 _ _ (s3 _ _ eq2)) y1 (sz (by simp; omega)) fun nw nn => ?_
          have x2 := same_new (o := .lst (p.map V.int ++ [.int (k : Nat)])) nn
          have y2 : upd G1 nw (.lst (p.map V.int ++ [.int (k : Nat)])) nw = some (.lst (p.map V.int ++ [.int (k : Nat)])) := upd_same
          generalize upd G1 nw (.lst (p.map V.int ++ [.int (k : Nat)])) = G2 at *
          have eL4 := x2 _ _ (x1 _ _ eL3)
          have nwL : nw ≠ L := fun z => by rw [z, x1 _ _ eL3] at nn; cases nn
          walk_at "go"
          refine go_append eL4 (szlt (by rw [hL3.n, List.length_append, List.length_map, List.length_range]; omega)) ?_
          walk_at "go"
          refine ⟨_, ys ++ [.ref nw], rfl, same_mut (s3.trans (x1.trans x2)) nL, upd_same, ?_⟩
          rw [List.range_succ, List.map_append, ← List.append_assoc]
          exact ((hL3.same (x1.trans x2)).snoc nwL ((s1.trans (s3.trans x1)).free nn) (by rw [y2, List.map_append]; rfl)).put
        · rintro σ' H3 ⟨v5, ys, rfl, s3, eL3, hL3⟩
          refine ⟨_, _, ys, rfl, s3, eL3, ?_⟩
          rw [tk]
          exact hL3
      · rintro σ' H2 ⟨v4, v5, ys, rfl, s2, eL, hL⟩
        rw [hpl, List.take_length, ← pStep_at es] at hL
        walk_at "go"
        exact ⟨_, _, _, _, _, rfl, s1.trans s2, ⟨s1.free nL, ys, eL, hL.n, fun k p hp => let ⟨q, a, _, d, c⟩ := hL.f k p hp; ⟨q, a, d, c⟩⟩⟩
    · rintro σ' H1 ⟨r, v2, v3, v4, v5, rfl, s1, hps⟩
      rw [hsl] at hps
      walk_at "go"
      exact q r _ s1 hps
end
end K42

namespace K42
open PySem PySem.Spec PyProof.Rows L2 Gx
section
variable {P : Program} {w : World} {K : PySem.W.Frag} {mg : Str → Option Value} {base : Heap} {A : Ad}
def sp__law_view (K : PySem.W.Frag) : Sp := fun vs H Q _ => ∃ (l p : Addr) (st : List Stg) (path : List Int) (pl : Int), vs = [.ref l, .ref p, .int pl] ∧ StAt H l st ∧ H p = some (.lst (path.map V.int)) ∧ path.length ≤ st.length ∧ ∀ (v : Addr) H', Same H H' → Dp K H' (.ref v) (.tuple (viewD st path pl)) → Q (.ref v) H'
theorem G__law_view (T : Txt P K mg A) : FnOk P w K mg base CX0 1 A.f__law_view A.d__law_view ["_law_stages_here", "_law_path", "_law_player"] (sp__law_view K) := by
  refine (T.F__law_view.ok (k := 0) sc__law_view (fun vs H Q E h => ?_) (fun cdv Ar outer s H vs Q E hr h => ?_))
  · obtain ⟨l, p, st, path, pl, rfl, _⟩ := h
    rfl
  · obtain ⟨l, p, st, path, pl, rfl, hst, hp, hle, q⟩ := h
    refine ⟨_, (pss_cons (ps_set (i := 3) sc__law_view.nd rfl (Or.inl rfl) (pe_tup (pa_cons (pe_tup (pa_cons pe_str (pa_cons pe_int pa_nil))) pa_nil)))
      (pss_cons (ps_set (i := 4) sc__law_view.nd rfl (Or.inl rfl) pe_int)
      (pss_cons (ps_for PassesOwn.never rfl (pi_range1 rfl T.n_range (pa_cons (pe_callB k_len (by rfl) T.n_len (by decide +kernel) (pa_cons (pv 1) pa_nil)) pa_nil)) (pg_name (i := 5) sc__law_view.nd rfl (Or.inl rfl))
        (pss_cons (ps_set (i := 6) sc__law_view.nd rfl (Or.inl rfl) (pe_ix ix_list (pv 0) (pv 5) (fun _ _ => rfl)))
      (Evl.pss_cut (ps_if (pt_cmpR op_eq (pe_ix ix_tup (pv 6) pe_int (fun _ _ => rfl)) (pv 2) (nomark _))
        (pss_one (ps_set (i := 3) sc__law_view.nd rfl (Or.inl rfl) (pe_op op_catA (pv 3) (pe_tup (pa_cons (pe_tup (pa_cons pe_str (pa_cons (pv 4) (pa_cons (pe_ix ix_tup (pv 6) pe_int (fun _ _ => rfl)) pa_nil)))) (pa_cons (pe_tup (pa_cons pe_str (pa_cons (pe_ix ix_list (pv 1) (pv 5) (fun _ _ => rfl)) pa_nil))) pa_nil))))))
        pss_nil)
      (Evl.pss_cut (ps_if (pt_cmpR op_ne (pe_ix ix_tup (pv 6) pe_int (fun _ _ => rfl)) pe_int (nomark _))
        (pss_one (ps_set (i := 4) sc__law_view.nd rfl (Or.inl rfl) (pe_op op_add (pv 4) pe_int)))
        pss_nil)
      (pss_one (ps_if (PW.pt (pw_or (pt_cmpR op_eq (pe_ix ix_tup (pv 6) pe_int (fun _ _ => rfl)) (pv 2) (nomark _)) (pw_or1 (pt_cmpR op_eq (pe_ix ix_tup (pv 6) pe_int (fun _ _ => rfl)) pe_int (nomark _)))))
        (pss_one (ps_set (i := 3) sc__law_view.nd rfl (Or.inl rfl) (pe_op op_catA (pv 3) (pe_tup (pa_cons (pe_tup (pa_cons pe_str (pa_cons (pe_ix ix_list (pv 1) (pv 5) (fun _ _ => rfl)) pa_nil))) pa_nil)))))
        pss_nil))))))
      (pss_one (ps_ret (pv 3)))))), ?_⟩
    try dsimp only [cxOf, Cx.nox, Cx.wish]
    walk_at "go"
    refine ⟨by show 2 ≤ sizeLine; decide, fun t1 n1 => ?_⟩
    walk_at "go"
    refine ⟨by show 1 ≤ sizeLine; decide, fun t2 n2 => ?_⟩
    have s0 := (same_new (o := .tup [.str "round", .int 0]) n1).trans (same_new (o := .tup [.ref t1]) n2)
    have d0 : Dp K (upd (upd H t1 (.tup [.str "round", .int 0])) t2 (.tup [.ref t1])) (.ref t2) (.tuple (vStep st path pl 0)) := .tup (.of upd_same) (.cons (.tup (.of (by rw [upd_ne (ne_of_none upd_same n2)]; exact upd_same)) (.cons (.str _) (.cons (.int _) .nil))) .nil)
    generalize upd (upd H t1 (.tup [.str "round", .int 0])) t2 (.tup [.ref t1]) = H0 at *
    walk_at "go"
    refine go_lenL (.of (s0 _ _ hp)) ?_
    rw [List.length_map]
    walk_at "go"
    have h4 := hst.le
    refine foR1 (fun i σ' H' => ∃ (v : Addr) (v5 v6 : Option V), σ' = [some (.ref l), some (.ref p), some (.int pl), some (.ref v), some (.int (nStep st i)), v5, v6] ∧ Same H H' ∧ Dp K H' (.ref v) (.tuple (vStep st path pl i))) (by omega) ⟨_, _, _, rfl, s0, d0⟩ ?_ ?_
    · rintro i σ' H1 hi ⟨v, v5, v6, rfl, s1, dv⟩
      have hi2 : i < path.length := by omega
      obtain ⟨s, es⟩ : ∃ s, st[i]? = some s := ⟨_, List.getElem?_eq_getElem (by omega)⟩
      obtain ⟨x, ex⟩ : ∃ x, path[i]? = some x := ⟨_, List.getElem?_eq_getElem hi2⟩
      obtain ⟨xs, t, el, hxl, it, et⟩ := (hst.same s1).get es
      have ip : atI (path.map V.int) (i : Int) = some (.int x) := atI_nat (by rw [List.getElem?_map, ex]; rfl)
      have hvl := vStep_len st path pl i
      have eN : nStep st (i + 1) = if s.w = 0 then nStep st i else nStep st i + 1 := by
        show (match st[i]? with | some s => _ | none => _) = _
        rw [es]
      have eV : vStep st path pl (i + 1) = (vStep st path pl i ++ (if s.w = pl then [dMove (nStep st i) s.n, dDid x] else [])) ++ (if s.s = pl ∨ s.s = 3 then [dTold x] else []) := by
        show (match st[i]?, path[i]? with | some s, some x => _ | _, _ => _) = _
        rw [es, ex]
      generalize nStep st i = num at *
      generalize vStep st path pl i = vd at *
      walk_at "go"
      refine go_ixL (.of el) it ?_
      walk_at "go"
      refine go_cut (fun σ' H' => ∃ v : Addr, σ' = [some (.ref l), some (.ref p), some (.int pl), some (.ref v), some (.int num), some (.int (i : Nat)), some (.ref t)] ∧ Same H1 H' ∧ Dp K H' (.ref v) (.tuple (vd ++ if s.w = pl then [dMove num s.n, dDid x] else []))) ?_ ?_
      · walk_at "go"
        walk_at "br"
        · intro hw
          walk_at "go"
          refine ⟨by show 3 ≤ sizeLine; decide, fun a1 m1 => ?_⟩
          have x1 := same_new (o := .tup [.str "move", .int num, .int s.n]) m1
          have y1 : upd H1 a1 (.tup [.str "move", .int num, .int s.n]) a1 = some (.tup [.str "move", .int num, .int s.n]) := upd_same
          generalize upd H1 a1 (.tup [.str "move", .int num, .int s.n]) = G1 at *
          walk_at "go"
          refine go_ixL (.of (x1 _ _ (s1 _ _ hp))) ip ?_
          walk_at "go"
          refine ⟨by show 2 ≤ sizeLine; decide, fun a2 m2 => ?_⟩
          have x2 := same_new (o := .tup [.str "did", .int x]) m2
          have y2 : upd G1 a2 (.tup [.str "did", .int x]) a2 = some (.tup [.str "did", .int x]) := upd_same
          generalize upd G1 a2 (.tup [.str "did", .int x]) = G2 at *
          walk_at "go"
          refine ⟨by show 2 ≤ sizeLine; decide, fun a3 m3 => ?_⟩
          have x3 := same_new (o := .tup [.ref a1, .ref a2]) m3
          have y3 : upd G2 a3 (.tup [.ref a1, .ref a2]) a3 = some (.tup [.ref a1, .ref a2]) := upd_same
          generalize upd G2 a3 (.tup [.ref a1, .ref a2]) = G3 at *
          obtain ⟨b, ys, e, h1, h2⟩ := dp_tup (dp_same (x1.trans (x2.trans x3)) _ _ dv)
          cases e
          have hlen := dpAll_len h2
          refine go_catA h1 (.of y3) (by simp; omega) (by simp) fun p3 G4 s4 e4 => ?_
          walk_at "go"
          rw [if_pos hw]
          refine ⟨_, rfl, x1.trans (x2.trans (x3.trans s4)), .tup e4 (dpAll_append (dpAll_same s4 _ _ h2) (.cons (.tup (.of (s4 _ _ (x3 _ _ (x2 _ _ y1)))) (.cons (.str _) (.cons (.int _) (.cons (.int _) .nil)))) (.cons (.tup (.of (s4 _ _ (x3 _ _ y2))) (.cons (.str _) (.cons (.int _) .nil))) .nil)))⟩
        · intro hw
          walk_at "go"
          rw [if_neg hw, List.append_nil]
          exact ⟨_, rfl, Same.refl _, dv⟩
      rintro σ' H2 ⟨v', rfl, s2, dv2⟩
      generalize hvd : (vd ++ if s.w = pl then [dMove num s.n, dDid x] else []) = vd2 at *
      have hvl2 : vd2.length ≤ 1 + 3 * i + 2 := by rw [← hvd, List.length_append]; split <;> simp <;> omega
      have et2 := s2 _ _ et
      refine go_cut (fun σ' H' => σ' = [some (.ref l), some (.ref p), some (.int pl), some (.ref v'), some (.int (if s.w = 0 then num else num + 1)), some (.int (i : Nat)), some (.ref t)] ∧ H' = H2) ?_ ?_
      · walk_at "go"
        by_cases hw : s.w = 0
        · rw [decide_eq_true hw]
          walk_at "go"
          rw [if_pos hw]
          exact ⟨rfl, rfl⟩
        · rw [decide_eq_false hw]
          walk_at "go"
          rw [if_neg hw]
          exact ⟨rfl, rfl⟩
      rintro σ' H' ⟨rfl, rfl⟩
      rw [eN, eV]
      by_cases c1 : s.s = pl
      · rw [if_pos (Or.inl c1)]
        walk_at "go"
        rw [decide_eq_true c1]
        walk_at "go"
        refine go_ixL (.of (s2 _ _ (s1 _ _ hp))) ip ?_
        walk_at "go"
        refine ⟨by show 2 ≤ sizeLine; decide, fun a1 m1 => ?_⟩
        walk_at "go"
        refine ⟨by show 1 ≤ sizeLine; decide, fun a2 m2 => ?_⟩
        refine add_dp dv2 m1 m2 (fun _ => .cons (.str _) (.cons (.int _) .nil)) (by omega) fun p3 H3 s3 d3 => ?_
        walk_at "go"
        exact ⟨_, _, _, rfl, s1.trans (s2.trans s3), d3⟩
      · walk_at "go"
        rw [decide_eq_false c1]
        walk_at "go"
        by_cases c2 : s.s = 3
        · rw [if_pos (Or.inr c2), decide_eq_true c2]
          walk_at "go"
          refine go_ixL (.of (s2 _ _ (s1 _ _ hp))) ip ?_
          walk_at "go"
          refine ⟨by show 2 ≤ sizeLine; decide, fun a1 m1 => ?_⟩
          walk_at "go"
          refine ⟨by show 1 ≤ sizeLine; decide, fun a2 m2 => ?_⟩
          refine add_dp dv2 m1 m2 (fun _ => .cons (.str _) (.cons (.int _) .nil)) (by omega) fun p3 H3 s3 d3 => ?_
          walk_at "go"
          exact ⟨_, _, _, rfl, s1.trans (s2.trans s3), d3⟩
        · rw [if_neg (show ¬ (s.s = pl ∨ s.s = 3) from fun h => h.elim c1 c2), List.append_nil, decide_eq_false c2]
          walk_at "go"
          exact ⟨_, _, _, rfl, s1.trans s2, dv2⟩
    · rintro σ' H1 ⟨v, v5, v6, rfl, s1, dv⟩
      walk_at "go"
      exact q v _ s1 dv
end
end K42

namespace K42
open PySem PySem.Spec PyProof.Rows L2 Gx
section
variable {P : Program} {w : World} {K : PySem.W.Frag} {mg : Str → Option Value} {base : Heap} {A : Ad}
def sp_are_lots (K : PySem.W.Frag) (C : Addr) : Sp := fun vs H Q _ => ∃ (a : Addr) (xs : List V) (rs : List (Int × Int)), vs = [.ref a] ∧ SqL K H a xs ∧ RatsAt C H xs rs ∧ rs.length ≤ 60 ∧ (∀ r ∈ rs, 0 < r.2 ∧ r.2.natAbs < 2 ^ 100 ∧ r.1.natAbs < 2 ^ 100) ∧ ∀ H', Same H H' → Q (.bl (decide ((cnum rs).sum = (cden rs : Int)) && (cnum rs).all (fun n => decide (0 ≤ n)))) H'
theorem G_are_lots (T : Txt P K mg A) : FnOk P w K mg base CX0 2 A.f_are_lots A.d_are_lots ["ratios"] (sp_are_lots K A.c_Ratio) := by
  refine (T.F_are_lots.ok (k := 1) sc_are_lots (fun vs H Q E h => ?_) (fun cdv Ar outer s H vs Q E hr h => ?_))
  · obtain ⟨a, xs, rs, rfl, _⟩ := h
    rfl
  · obtain ⟨a, xs, rs, rfl, hs, hra, hl, hb, q⟩ := h
    refine ⟨_, (pss_cons (ps_asg (pe_call (G_common T) (hr.mono (by decide)) rfl T.m_common T.F_common.kp T.b_common .nil pass0 (pa_cons (pv 0) pa_nil)) (pg_tup rfl (pgs_cons (pg_name (i := 1) sc_are_lots.nd rfl (Or.inl rfl)) (pgs_cons (pg_name (i := 2) sc_are_lots.nd rfl (Or.inl rfl)) pgs_nil))))
      (pss_one (ps_ret (pe_and (pe_cmpR op_eq (pe_callB (cr_sum rfl) (by rfl) T.n_sum (by decide +kernel) (pa_cons (pv 1) pa_nil)) (pv 2) (nomark _)) (pe_one (pe_callB (cr_all rfl) (by rfl) T.n_all (by decide +kernel) (pa_cons (pe_lc (own := [("weight", 3)]) (g := gName 3) (tt := tYes) rfl sc_are_lots.nd (pi_list (pv 1)) (blkOk_by (N := ["ratios", "weights", "den", "weight"]) (sc := defScope s_are_lots) (by decide +kernel)) (fun _ _ _ _ _ => (pg_name (i := 3) sc_are_lots.nd rfl (Or.inl rfl))) (fun _ _ _ _ _ => by exact pts_nil) (fun _ _ _ _ _ => by exact (pe_cmpR op_ge (pv 3) pe_int (nomark _)))) pa_nil))))))), ?_⟩
    try dsimp only [cxOf, Cx.nox, Cx.wish]
    walk_at "go"
    refine ⟨a, xs, rs, rfl, hs, hra, hl, hb, fun H1 t l s1 n1 e1 e2 => ?_⟩
    refine go_gtup (.of e1) rfl ?_
    walk_at "go"
    refine go_sum (.of e2) ?_
    walk_at "go"
    walk_at "br"
    · intro h
      walk_at "go"
      refine lcL ((cnum rs).map V.int) (fun k y => ∃ n : Int, (cnum rs)[k]? = some n ∧ y = .bl (decide (0 ≤ n))) (.of e2) (by rw [List.length_map]; unfold cnum; rw [List.length_map]; omega) (fun _ => rfl) ?_ ?_
      · intro i x H' hx s2 R hR
        rw [List.getElem?_map] at hx
        cases e : (cnum rs)[i]? with
        | none => rw [e] at hx; cases hx
        | some n =>
          rw [e] at hx
          cases hx
          walk_at "go"
          exact hR _ _ (Same.refl _) ⟨n, e, rfl⟩
      intro D ys H2 hD s2 eD hyl hP
      have ey : ys = ((cnum rs).map fun n => decide (0 ≤ n)).map V.bl := by
        refine List.ext_getElem? fun k => ?_
        cases e : ys[k]? with
        | none =>
          have := List.getElem?_eq_none_iff.mp e
          rw [List.getElem?_eq_none]
          rw [List.length_map, List.length_map]
          rw [List.length_map] at hyl
          omega
        | some y =>
          obtain ⟨n, er, rfl⟩ := hP k y e
          rw [List.getElem?_map, List.getElem?_map, er]
          rfl
      subst ey
      walk_at "go"
      refine go_all (.of eD) ?_
      have := q H2 (s1.trans s2)
      rw [decide_eq_true h, Bool.true_and] at this
      rw [List.all_map]
      exact this
    · intro h
      have := q H1 s1
      rw [decide_eq_false h, Bool.false_and] at this
      exact this
end
end K42

namespace K42
open PySem PySem.Spec PyProof.Rows L2 Gx
section
variable {P : Program} {w : World} {K : PySem.W.Frag} {mg : Str → Option Value} {base : Heap} {A : Ad}
def sp_Ratio___init__ (C : Addr) : Sp := fun vs H Q _ => ∃ (p dx : Addr) (a b : Int), vs = [.ref p, .int a, .int b] ∧ H p = some (.ins C dx []) ∧ b ≠ 0 ∧ b.natAbs < 2 ^ 9000 ∧ ∀ H', (∀ c o, c ≠ p → H c = some o → H' c = some o) → H' p = some (.ins C dx (rf (rN a b) (rD a b))) → Q .non H'
theorem G_Ratio___init__ (T : Txt P K mg A) : FnOk P w K mg base CX0 2 A.f_Ratio___init__ A.d_Ratio___init__ ["self", "num", "den"] (sp_Ratio___init__ A.c_Ratio) := by
  refine (T.F_Ratio___init__.ok (k := 1) sc_Ratio___init__ (fun vs H Q E h => ?_) (fun cdv Ar outer s H vs Q E hr h => ?_))
  · obtain ⟨p, dx, a, b, rfl, _⟩ := h
    rfl
  · obtain ⟨p, dx, a, b, rfl, hp, hb, hz, q⟩ := h
    have cl := T.cl_Ratio
    have n1 := T.na_Ratio_num
    have n2 := T.na_Ratio_den
    refine ⟨_, (pss_cons (ps_if (pt_cmpR op_eq (pv 2) pe_int (nomark _))
        (pss_one ps_never)
        pss_nil)
      (pss_cons (ps_set (i := 3) sc_Ratio___init__.nd rfl (Or.inl rfl) (pe_callBfun cr_gcd rfl T.g_gcd (pa_cons (pv 1) (pa_cons (pv 2) pa_nil))))
      (Evl.pss_cut (ps_if (pt_cmpR op_lt (pv 2) pe_int (nomark _))
        (pss_one (ps_set (i := 3) sc_Ratio___init__.nd rfl (Or.inl rfl) (pe_un un_neg (pv 3))))
        pss_nil)
      (pss_cons (ps_fld (pv 0) (pe_op op_fdivX (pv 1) (pv 3)) rfl)
      (pss_one (ps_fld (pv 0) (pe_op op_fdivX (pv 2) (pv 3)) rfl)))))), ?_⟩
    try dsimp only [cxOf, Cx.nox, Cx.wish]
    walk_at "go"
    rw [decide_eq_false hb]
    walk_at "go"
    refine go_gcd ?_
    walk_at "go"
    have hg : ((Nat.gcd a.natAbs b.natAbs : Nat) : Int) = (Int.gcd a b : Int) := rfl
    rw [hg]
    have hgp := gcd_pos (a := a) hb
    have hgl : (Int.gcd a b : Int).natAbs ≤ b.natAbs := by
      rw [Int.natAbs_natCast]
      exact Nat.le_of_dvd (by omega) (Nat.gcd_dvd_right a.natAbs b.natAbs)
    refine go_cut (fun σ' H' => ∃ g : Int, σ' = [some (.ref p), some (.int a), some (.int b), some (.int g)] ∧ H' = H ∧ g = if b < 0 then -(Int.gcd a b : Int) else (Int.gcd a b : Int)) ?_ ?_
    · walk_at "go"
      walk_at "br"
      · intro h
        walk_at "go"
        exact ⟨_, rfl, rfl, by rw [if_pos h]⟩
      · intro h
        walk_at "go"
        exact ⟨_, rfl, rfl, by rw [if_neg h]⟩
    rintro σ' H' ⟨g, rfl, rfl, eg⟩
    obtain ⟨f1, f2, f3⟩ := rN_fdiv (a := a) hb eg
    have hgz : g.natAbs < 2 ^ 9000 := by
      have : g.natAbs = (Int.gcd a b : Int).natAbs := by rw [eg]; split <;> simp
      rw [this]
      exact Nat.lt_of_le_of_lt hgl hz
    walk_at "go"
    refine go_rI (divX f3 hgz (by decide) (by decide)) ?_
    walk_at "go"
    refine go_sfldV hp cl n1 (by show 0 < 1000; decide) ?_
    walk_at "go"
    refine go_rI (divX f3 hgz (by decide) (by decide)) ?_
    walk_at "go"
    refine go_sfldV (by exact upd_same) cl n2 (by show 1 < 1000; decide) ?_
    rw [f1, f2, rf_put, upd_upd]
    exact q _ (fun c o n e => by rw [upd_ne n]; exact e) upd_same
end
end K42

namespace K42
open PySem PySem.Spec PyProof.Rows L2 Gx
section
variable {P : Program} {w : World} {K : PySem.W.Frag} {mg : Str → Option Value} {base : Heap} {A : Ad}
def sp__law_stages (K : PySem.W.Frag) : Sp := fun vs H Q _ => ∃ (a : Addr) (ns : List Int) (m : Int), vs = [.ref a, .int m] ∧ SqL K H a (ns.map V.int) ∧ ∀ (l : Addr) (st : List Stg) H', Same H H' → H l = none → StAt H' l st → (1 ≤ m → prodN st ≤ m) → Q (.ref l) H'
theorem G__law_stages (T : Txt P K mg A) : FnOk P w K mg base CX0 2 A.f__law_stages A.d__law_stages ["_law_script", "_law_most"] (sp__law_stages K) := by
  refine (T.F__law_stages.ok (k := 1) sc__law_stages (fun vs H Q E h => ?_) (fun cdv Ar outer s H vs Q E hr h => ?_))
  · obtain ⟨a, ns, m, rfl, _⟩ := h
    rfl
  · obtain ⟨a, ns, m, rfl, hs, q⟩ := h
    refine ⟨_, (pss_cons (ps_set (i := 2) sc__law_stages.nd rfl (Or.inl rfl) (pe_lst pa_nil))
      (pss_cons (ps_set (i := 3) sc__law_stages.nd rfl (Or.inl rfl) pe_int)
      (pss_cons (ps_set (i := 4) sc__law_stages.nd rfl (Or.inl rfl) (pe_call (G__law_row T) (hr.mono (by decide)) rfl T.m__law_row T.F__law_row.kp T.b__law_row .nil pass0 (pa_cons (pe_call (G__law_cell T) (hr.mono (by decide)) rfl T.m__law_cell T.F__law_cell.kp T.b__law_cell .nil pass0 (pa_cons (pv 0) (pa_cons pe_int pa_nil))) (pa_cons pe_int (pa_cons pe_int pa_nil)))))
      (pss_cons (ps_for PassesOwn.never rfl (pi_range1 rfl T.n_range (pa_cons (pe_op op_mod (pe_callTy k_int1 (by rfl) T.n_int (by decide +kernel) (pa_cons (pe_ix ix_list (pv 4) pe_int (fun _ _ => rfl)) pa_nil)) pe_int) pa_nil)) (pg_name (i := 5) sc__law_stages.nd rfl (Or.inl rfl))
        (pss_cons (ps_set (i := 6) sc__law_stages.nd rfl (Or.inl rfl) (pe_op op_add pe_int (pe_op op_mod (pe_callTy k_int1 (by rfl) T.n_int (by decide +kernel) (pa_cons (pe_ix ix_list (pv 4) (pe_op op_add (pe_op op_mul pe_int (pv 5)) pe_int) (fun _ _ => rfl)) pa_nil)) pe_int)))
      (Evl.pss_cut (ps_if (pt_cmpR op_gt (pe_op op_mul (pv 3) (pv 6)) (pv 1) (nomark _))
        (pss_one (ps_set (i := 6) sc__law_stages.nd rfl (Or.inl rfl) pe_int))
        pss_nil)
      (pss_cons (ps_set (i := 3) sc__law_stages.nd rfl (Or.inl rfl) (pe_op op_mul (pv 3) (pv 6)))
      (pss_cons (ps_set (i := 7) sc__law_stages.nd rfl (Or.inl rfl) (pe_ix ix_tup (pe_tup (pa_cons pe_int (pa_cons pe_int (pa_cons pe_int (pa_cons pe_int (pa_cons pe_int pa_nil)))))) (pe_op op_mod (pe_callTy k_int1 (by rfl) T.n_int (by decide +kernel) (pa_cons (pe_ix ix_list (pv 4) (pe_op op_add (pe_op op_mul pe_int (pv 5)) pe_int) (fun _ _ => rfl)) pa_nil)) pe_int) (fun _ _ => rfl)))
      (pss_one (ps_expr (pe_bm PySem.F.plainAttrs_list PySem.F.slot_list_append PySem.F.type_list_append mt_append (pv 2) (pa_cons (pe_tup (pa_cons (pe_op op_mod (pe_callTy k_int1 (by rfl) T.n_int (by decide +kernel) (pa_cons (pe_ix ix_list (pv 4) (pe_op op_add (pe_op op_mul pe_int (pv 5)) pe_int) (fun _ _ => rfl)) pa_nil)) pe_int) (pa_cons (pv 6) (pa_cons (pv 7) pa_nil)))) pa_nil)))))))))
      (pss_one (ps_ret (pv 2))))))), ?_⟩
    try dsimp only [cxOf, Cx.nox, Cx.wish]
    walk_at "go"
    refine ⟨by show 0 ≤ sizeLine; decide, fun l nl => ?_⟩
    have s1 := same_new (o := .lst []) nl
    have el : upd H l (.lst []) l = some (.lst []) := upd_same
    generalize upd H l (.lst []) = H1 at *
    walk_at "go"
    refine ⟨a, ns, 0, rfl, s1.seq hs, by decide, ?_⟩
    walk_at "go"
    refine ⟨_, 20, 60, rfl, by decide, by decide, by decide, by decide, fun ld ds H2 s2 nd ed hdl hdr => ?_⟩
    have hdl : ds.length = 20 := hdl
    walk_at "go"
    refine go_ixL (.of ed) (at_int (by decide) (by omega)) ?_
    walk_at "go"
    have g0 := Int.emod_nonneg (ds.getD (0 : Int).toNat 0) (b := 5) (by decide)
    have g1 := Int.emod_lt_of_pos (ds.getD (0 : Int).toNat 0) (b := 5) (by decide)
    generalize ds.getD (0 : Int).toNat 0 % 5 = num at *
    have ldl : ld ≠ l := fun z => by rw [z, el] at nd; cases nd
    refine foR1 (fun i σ' H' => ∃ (cnt : Int) (v5 v6 v7 : Option V) (xs : List V) (st : List Stg), σ' = [some (.ref a), some (.int m), some (.ref l), some (.int cnt), some (.ref ld), v5, v6, v7] ∧ Same H H' ∧ H' ld = some (.lst (ds.map V.int)) ∧ H' l = some (.lst xs) ∧ xs.length = st.length ∧ st.length = i ∧ 1 ≤ cnt ∧ cnt ≤ p3 i ∧ cnt = prodN st ∧ (1 ≤ m → cnt ≤ m) ∧ (∀ (k : Nat) (s : Stg), st[k]? = some s → ∃ t, xs[k]? = some (.ref t) ∧ H' t = some (.tup [.int s.w, .int s.n, .int s.s])) ∧ ∀ s ∈ st, 0 ≤ s.w ∧ s.w ≤ 2 ∧ 1 ≤ s.n ∧ s.n ≤ 3 ∧ 0 ≤ s.s ∧ s.s ≤ 3) (by omega) ⟨_, _, _, _, [], [], rfl, s1.trans s2, ed, s2 _ _ el, rfl, rfl, by decide, by decide, rfl, fun h => h, fun k s h => by simp at h, fun s h => nomatch h⟩ ?_ ?_
    · rintro i σ' H3 hi ⟨cnt, v5, v6, v7, xs, st, rfl, s3, ed3, el3, hxl, hst, c0, c1, cp, cm, hat, hok⟩
      have hi4 : i ≤ 4 := by omega
      have c81 := p3_le hi4
      walk_at "go"
      refine go_ixL (.of ed3) (at_int (by omega) (by omega)) ?_
      walk_at "go"
      have z0 := Int.emod_nonneg (ds.getD (4 * (i : Int) + 1).toNat 0) (b := 3) (by decide)
      have z1 := Int.emod_lt_of_pos (ds.getD (4 * (i : Int) + 1).toNat 0) (b := 3) (by decide)
      generalize ds.getD (4 * (i : Int) + 1).toNat 0 % 3 = z at *
      refine go_cut (fun σ' H' => ∃ sz : Int, σ' = [some (.ref a), some (.int m), some (.ref l), some (.int cnt), some (.ref ld), some (.int (i : Nat)), some (.int sz), v7] ∧ H' = H3 ∧ 1 ≤ sz ∧ sz ≤ 3 ∧ (cnt * sz ≤ m ∨ sz = 1)) ?_ ?_
      · walk_at "go"
        walk_at "br"
        · intro _
          walk_at "go"
          exact ⟨_, rfl, rfl, by decide, by decide, .inr rfl⟩
        · intro hle
          walk_at "go"
          exact ⟨_, rfl, rfl, by omega, by omega, .inl (Int.not_lt.mp hle)⟩
      rintro σ' H' ⟨sz, rfl, rfl, y0, y1, y2⟩
      walk_at "go"
      refine ⟨by show 5 ≤ sizeLine; decide, fun t5 n5 => ?_⟩
      have s5 := same_new (o := .tup [.int 0, .int 0, .int 1, .int 2, .int 3]) n5
      have e5 : upd H' t5 (.tup [.int 0, .int 0, .int 1, .int 2, .int 3]) t5 = some (.tup [.int 0, .int 0, .int 1, .int 2, .int 3]) := upd_same
      generalize upd H' t5 (.tup [.int 0, .int 0, .int 1, .int 2, .int 3]) = H4 at *
      walk_at "go"
      refine go_ixL (.of (s5 _ _ ed3)) (at_int (by omega) (by omega)) ?_
      walk_at "go"
      have w0 := Int.emod_nonneg (ds.getD (4 * (i : Int) + 2).toNat 0) (b := 5) (by decide)
      have w1 := Int.emod_lt_of_pos (ds.getD (4 * (i : Int) + 2).toNat 0) (b := 5) (by decide)
      obtain ⟨sh, esh, sh0, sh1⟩ := show_at w0 w1
      refine go_ixT (.of e5) esh ?_
      walk_at "go"
      refine ⟨.inl ⟨rfl, _, .inl (.inl (s5 _ _ el3))⟩, ?_⟩
      walk_at "go"
      refine go_ixL (.of (s5 _ _ ed3)) (at_int (by omega) (by omega)) ?_
      walk_at "go"
      have x0 := Int.emod_nonneg (ds.getD (4 * (i : Int) + 3).toNat 0) (b := 3) (by decide)
      have x1 := Int.emod_lt_of_pos (ds.getD (4 * (i : Int) + 3).toNat 0) (b := 3) (by decide)
      generalize ds.getD (4 * (i : Int) + 3).toNat 0 % 3 = wh at *
      refine ⟨by show 3 ≤ sizeLine; decide, fun t nt => ?_⟩
      have s6 := same_new (o := .tup [.int wh, .int sz, .int sh]) nt
      have et : upd H4 t (.tup [.int wh, .int sz, .int sh]) t = some (.tup [.int wh, .int sz, .int sh]) := upd_same
      generalize upd H4 t (.tup [.int wh, .int sz, .int sh]) = H5 at *
      have s56 := s5.trans s6
      walk_at "go"
      have el5 := s56 _ _ el3
      refine go_append el5 (szlt (by omega)) ?_
      walk_at "go"
      refine ⟨_, _, _, _, xs ++ [.ref t], st ++ [⟨wh, sz, sh⟩], rfl, same_mut (s3.trans s56) nl, by rw [upd_ne ldl]; exact s56 _ _ ed3, upd_same, by rw [List.length_append, List.length_append, hxl]; rfl, by rw [List.length_append, List.length_singleton, hst], ?_, ?_, by rw [prodN_snoc, ← cp], fun hm => (y2.elim (fun h => h) fun h => by rw [h, Int.mul_one]; exact cm hm), fun k s hk => ?_, fun s hs => ?_⟩
      · have := Int.mul_le_mul c0 y0 (by decide) (by omega)
        omega
      · show _ ≤ 3 * p3 i
        rcases (by omega : sz = 1 ∨ sz = 2 ∨ sz = 3) with h | h | h <;> rw [h] <;> omega
      · rcases Nat.lt_or_ge k st.length with z | z
        · rw [List.getElem?_append_left z] at hk
          obtain ⟨t', a1, a2⟩ := hat k s hk
          have a3 := s56 _ _ a2
          exact ⟨t', by rw [List.getElem?_append_left (by omega)]; exact a1, by rw [upd_ne (ne_of a3 el5 (by intro z; cases z))]; exact a3⟩
        · have h2 := (List.getElem?_eq_some_iff.mp hk).1
          rw [List.length_append, List.length_singleton] at h2
          obtain rfl : k = st.length := by omega
          rw [List.getElem?_append_right (Nat.le_refl _), Nat.sub_self] at hk
          cases hk
          exact ⟨t, by rw [List.getElem?_append_right (by omega), hxl, Nat.sub_self]; rfl, by rw [upd_ne (ne_of et el5 (by intro z; cases z))]; exact et⟩
      · rcases List.mem_append.mp hs with hs | hs
        · exact hok s hs
        · rw [List.mem_singleton.mp hs]
          exact ⟨x0, by show wh ≤ 2; omega, y0, y1, sh0, sh1⟩
    · rintro σ' H3 ⟨cnt, v5, v6, v7, xs, st, rfl, s3, ed3, el3, hxl, hst, c0, c1, cp, cm, hat, hok⟩
      walk_at "go"
      exact q l st _ s3 nl ⟨⟨xs, el3, hxl, hat⟩, by omega, hok⟩ fun h => by rw [← cp]; exact cm h
end
end K42

namespace K42
open PySem PySem.Spec PyProof.Rows L2 Gx
section
variable {P : Program} {w : World} {K : PySem.W.Frag} {mg : Str → Option Value} {base : Heap} {A : Ad}
def sp__law_asked (K : PySem.W.Frag) : Sp := fun vs H Q _ => ∃ (l p : Addr) (st : List Stg) (path : List Int) (s : Stg), vs = [.ref l, .ref p] ∧ StAt H l st ∧ H p = some (.lst (path.map V.int)) ∧ st[path.length]? = some s ∧ ∀ (v : Addr) H', Same H H' → Dp K H' (.ref v) (.tuple (askD st path s)) → Q (.ref v) H'
theorem G__law_asked (T : Txt P K mg A) : FnOk P w K mg base CX0 2 A.f__law_asked A.d__law_asked ["_law_stages_here", "_law_path"] (sp__law_asked K) := by
  refine (T.F__law_asked.ok (k := 1) sc__law_asked (fun vs H Q E h => ?_) (fun cdv Ar outer s H vs Q E hr h => ?_))
  · obtain ⟨l, p, st, path, s, rfl, _⟩ := h
    rfl
  · obtain ⟨l, p, st, path, s, rfl, hst, hp, hs, q⟩ := h
    have h4 := hst.le
    have hpl := (List.getElem?_eq_some_iff.mp hs).1
    refine ⟨_, (pss_cons (ps_set (i := 2) sc__law_asked.nd rfl (Or.inl rfl) pe_int)
      (pss_cons (ps_for PassesOwn.never rfl (pi_range1 rfl T.n_range (pa_cons (pe_callB k_len (by rfl) T.n_len (by decide +kernel) (pa_cons (pv 1) pa_nil)) pa_nil)) (pg_name (i := 3) sc__law_asked.nd rfl (Or.inl rfl))
        (pss_one (ps_set (i := 2) sc__law_asked.nd rfl (Or.inl rfl) (pe_op op_add (pv 2) (pe_callTy k_int1 (by rfl) T.n_int (by decide +kernel) (pa_cons (pe_cmpR op_ne (pe_ix ix_tup (pe_ix ix_list (pv 0) (pv 3) (fun _ _ => rfl)) pe_int (fun _ _ => rfl)) pe_int (nomark _)) pa_nil))))))
      (pss_cons (ps_set (i := 4) sc__law_asked.nd rfl (Or.inl rfl) (pe_ix ix_list (pv 0) (pe_callB k_len (by rfl) T.n_len (by decide +kernel) (pa_cons (pv 1) pa_nil)) (fun _ _ => rfl)))
      (pss_one (ps_ret (pe_op op_catA (pe_call (G__law_view T) (hr.mono (by decide)) rfl T.m__law_view T.F__law_view.kp T.b__law_view .nil pass0 (pa_cons (pv 0) (pa_cons (pv 1) (pa_cons (pe_ix ix_tup (pv 4) pe_int (fun _ _ => rfl)) pa_nil)))) (pe_tup (pa_cons (pe_tup (pa_cons pe_str (pa_cons (pv 2) (pa_cons (pe_ix ix_tup (pv 4) pe_int (fun _ _ => rfl)) pa_nil)))) pa_nil)))))))), ?_⟩
    try dsimp only [cxOf, Cx.nox, Cx.wish]
    walk_at "go"
    refine go_lenL (.of hp) ?_
    rw [List.length_map]
    walk_at "go"
    refine foR1 (fun i σ' H' => ∃ (v3 v4 : Option V), σ' = [some (.ref l), some (.ref p), some (.int (nStep st i)), v3, v4] ∧ H' = H) (by omega) ⟨_, _, rfl, rfl⟩ ?_ ?_
    · rintro i σ' H1 hi ⟨v3, v4, rfl, rfl⟩
      obtain ⟨s', es⟩ : ∃ s, st[i]? = some s := ⟨_, List.getElem?_eq_getElem (by omega)⟩
      obtain ⟨xs, t, el, hxl, it, et⟩ := hst.get es
      have eN : nStep st (i + 1) = if s'.w = 0 then nStep st i else nStep st i + 1 := by
        show (match st[i]? with | some s => _ | none => _) = _
        rw [es]
      walk_at "go"
      refine go_ixL (.of el) it ?_
      walk_at "go"
      have e1 : (nStep st i + if (!decide (s'.w = 0)) = true then 1 else 0) = nStep st (i + 1) := by
        rw [eN]
        by_cases hw : s'.w = 0 <;> simp [hw]
      rw [e1]
      exact ⟨_, _, rfl, rfl⟩
    · rintro σ' H1 ⟨v3, v4, rfl, rfl⟩
      obtain ⟨xs, t, el, hxl, it, et⟩ := hst.get hs
      walk_at "go"
      refine go_lenL (.of hp) ?_
      rw [List.length_map]
      walk_at "go"
      refine go_ixL (.of el) it ?_
      walk_at "go"
      refine ⟨l, p, st, path, s.w, rfl, hst, hp, by omega, fun v H2 s2 dv => ?_⟩
      have et2 := s2 _ _ et
      walk_at "go"
      refine ⟨by show 3 ≤ sizeLine; decide, fun a1 m1 => ?_⟩
      walk_at "go"
      refine ⟨by show 1 ≤ sizeLine; decide, fun a2 m2 => ?_⟩
      refine add_dp dv m1 m2 (fun _ => .cons (.str _) (.cons (.int _) (.cons (.int _) .nil))) (by have := vStep_len st path s.w path.length; show (vStep st path s.w path.length).length ≤ 1000; omega) fun p3 H3 s3 d3 => ?_
      exact q p3 H3 (s2.trans s3) d3
end
end K42

namespace K42
open PySem PySem.Spec PyProof.Rows L2 Gx
section
variable {P : Program} {w : World} {K : PySem.W.Frag} {mg : Str → Option Value} {base : Heap} {A : Ad}
def sp_Plan___init__ (P : Program) (w : World) (K : PySem.W.Frag) (C CP B : Addr) : Sp := fun vs H Q E => ∃ (p dx l : Addr) (es : List V) (ps : List PRow), vs = [.ref p, .ref l] ∧ H p = some (.ins CP dx []) ∧ H l = some (.lst es) ∧ es.length = ps.length ∧ ps.length ≤ 1000 ∧ (∀ (k : Nat) r x, ps[k]? = some r → es[k]? = some x → PIn K C H r x) ∧ ((∀ (k : Nat) r, ps[k]? = some r → goodP ps k r = true) → ∀ (D : Addr) (ls : List Addr) H', But p H H' → H D = none → ls.length = ps.length → H' p = some (.ins CP dx [("table", .ref D)]) → H' D = some (ndO P w D (nrows ps ls)) → (∀ (k : Nat) r a, ps[k]? = some r → ls[k]? = some a → H a = none ∧ H' a = some (.lst r.xs)) → Q .non H') ∧ (∀ (k : Nat) r, ps[k]? = some r → goodP ps k r = false → (∀ (j : Nat) r', j < k → ps[j]? = some r' → goodP ps j r' = true) → ∀ e H', But p H H' → H' e = some (.xd [("place", .int (k : Nat))]) → E (.ref B) (some e) H')
theorem G_Plan___init__ (T : Txt P K mg A) : FnOk P w K mg base (L2.CX P w) 3 A.f_Plan___init__ A.d_Plan___init__ ["self", "entries"] (sp_Plan___init__ P w K A.c_Ratio A.c_Plan A.c_BadPlan) := by
  refine (T.F_Plan___init__.okX (k := 2) sc_Plan___init__ (fun vs H Q E h => ?_) (fun cdv Ar outer s H vs Q E hr h => ?_))
  · obtain ⟨p, dx, l, es, ps, rfl, _⟩ := h
    rfl
  · obtain ⟨p, dx, l, es, ps, rfl, hp, hs, hlen, hz, hin, q0, q1⟩ := h
    have cl := T.cl_Plan
    have n1 := T.na_Plan_table
    refine ⟨_, (pss_cons (ps_fld (pv 0) pe_dnewN rfl)
      (pss_one (ps_for (passes_of rfl) rfl (pi_enum rfl T.n_enumerate (pa_cons (pv 1) pa_nil)) (pg_tup rfl (pgs_cons (pg_name (i := 2) sc_Plan___init__.nd rfl (Or.inl rfl)) (pgs_cons (pg_name (i := 3) sc_Plan___init__.nd rfl (Or.inl rfl)) pgs_nil)))
        (pss_cons (ps_asg (pv 3) (pg_tup rfl (pgs_cons (pg_name (i := 4) sc_Plan___init__.nd rfl (Or.inl rfl)) (pgs_cons (pg_name (i := 5) sc_Plan___init__.nd rfl (Or.inl rfl)) pgs_nil))))
      (pss_cons (ps_if (PW.pt (pw_or (pt_cmpR (op_inN (Nat.lt_of_le_of_lt (Nat.add_le_add_left (show 9 ≤ 64 by decide) _) hr.units)) (pv 4) (pe_fld (pv 0) rfl) (by rfl)) (pw_or (pt_not (pt_truth (pv 5) (by intro _; rfl))) (pw_or1 (pt_not (pt_val (pe_call (G_are_lots T) (hr.mono (by decide)) rfl T.m_are_lots T.F_are_lots.kp T.b_are_lots .nil pass0 (pa_cons (pv 5) pa_nil))))))))
        (pss_one (ps_raiseErr rfl T.er_BadPlan hr T.m_BadPlan (takes_of rfl rfl rfl rfl) (pa_cons (pv 2) pa_nil)))
        pss_nil)
      (pss_one (ps_asg (pe_callTy k_list_of (by rfl) T.n_list (by decide +kernel) (pa_cons (pv 5) pa_nil)) (pg_sub (pe_fld (pv 0) rfl) (pv 4) (set_nd (Nat.lt_of_le_of_lt (Nat.add_le_add_left (show 9 ≤ 64 by decide) _) hr.units)))))))))), ?_⟩
    try dsimp only [cxOf, Cx.nox, Cx.wish]
    walk_at "go"
    intro D hD
    have pD : p ≠ D := ne_of_none hp hD
    have hp2 : upd H D (ndO P w D []) p = some (.ins A.c_Plan dx []) := by rw [upd_ne pD]; exact hp
    walk_at "go"
    refine go_sfldV hp2 cl n1 (by show 0 < 1000; decide) ?_
    walk_at "go"
    unfold iEnum
    walk_at "go"
    have B1 : But p H (upd (upd H D (ndO P w D [])) p (.ins A.c_Plan dx [("table", .ref D)])) := fun c o n e => by rw [upd_ne n, upd_ne (ne_of_none e hD)]; exact e
    have lp : l ≠ p := ne_of hs hp (by intro z; cases z)
    refine ⟨l, es, rfl, .of (B1 _ _ lp hs), ?_⟩
    refine foEn es (fun i σ' H' => ∃ (v2 v3 v4 v5 : Option V) (ls : List Addr), σ' = [some (.ref p), some (.ref l), v2, v3, v4, v5] ∧ But p H H' ∧ H' p = some (.ins A.c_Plan dx [("table", .ref D)]) ∧ ls.length = i ∧ H' D = some (ndO P w D (nrows (ps.take i) ls)) ∧ (∀ (k : Nat) r a, ps[k]? = some r → ls[k]? = some a → H a = none ∧ H' a = some (.lst r.xs)) ∧ ∀ (j : Nat) r', j < i → ps[j]? = some r' → goodP ps j r' = true) ?_ ?_ ?_ ?_
    · exact ⟨_, _, _, _, [], rfl, B1, upd_same, rfl, by rw [upd_ne (Ne.symm pD)]; exact upd_same, fun k r a _ h => (by simp at h), fun j r h => absurd h (Nat.not_lt_zero _)⟩
    · rintro i σ' H' _ ⟨v2, v3, v4, v5, ls, rfl, B, _⟩
      exact .of (B _ _ lp hs)
    · rintro i x T σ' H' hx ⟨v2, v3, v4, v5, ls, rfl, B, hp', hll, eD, hls, hg⟩ hT
      have hi := (List.getElem?_eq_some_iff.mp hx).1
      obtain ⟨r, er⟩ : ∃ r, ps[i]? = some r := ⟨_, List.getElem?_eq_getElem (by omega)⟩
      have P1 := hin i r x er hx
      obtain ⟨t, rfl, ht⟩ := P1.t
      have sT := same_new (o := .tup [.int (i : Nat), .ref t]) hT
      have eT : SqT K (upd H' T (.tup [.int (i : Nat), .ref t])) T [.int (i : Nat), .ref t] := .of upd_same
      have B2 : But p H (upd H' T (.tup [.int (i : Nat), .ref t])) := B.new hT
      have hp2 := sT _ _ hp'
      have eD2 := sT _ _ eD
      have hls2 : ∀ (k : Nat) r a, ps[k]? = some r → ls[k]? = some a → H a = none ∧ upd H' T (.tup [.int (i : Nat), .ref t]) a = some (.lst r.xs) := fun k r a h1 h2 => ⟨(hls k r a h1 h2).1, sT _ _ (hls k r a h1 h2).2⟩
      generalize upd H' T (.tup [.int (i : Nat), .ref t]) = H2 at *
      refine ⟨T, _, rfl, eT, rfl, ?_⟩
      walk_at "go"
      have nt := noT_ins hp
      have key : ∀ q ∈ ps, Dp K H2 (.ref q.ka) q.d ∧ plainK q.d = true ∧ (keyD q.d).depth ≤ 8 := fun q hq => by
        obtain ⟨k, hk⟩ := List.mem_iff_getElem?.mp hq
        have hk2 := (List.getElem?_eq_some_iff.mp hk).1
        have P2 := hin k q _ hk (List.getElem?_eq_getElem (by omega))
        exact ⟨dp_off B2.off nt _ _ P2.kp P2.kk, P2.kp, P2.kd⟩
      have hk : NKeys K H2 (nrows (ps.take i) ls) := fun y hy => by
        obtain ⟨q, hq, e1, e2⟩ := nrows_mem hy
        obtain ⟨k1, k2, k3⟩ := key q (List.mem_of_mem_take hq)
        rw [e1, e2]
        exact ⟨k2, k3, k1⟩
      have ht2 : SqT K H2 t [.ref r.ka, .ref r.la] := sqT_off B2.off nt ht
      refine ⟨t, _, rfl, ht2, rfl, ?_⟩
      walk_at "go"
      refine go_fldV hp2 cl n1 (by rw [List.lookup_cons, beq_self_eq_true]) ?_
      refine go_inN (.inl eD2) hk P1.kp P1.kd (dp_off B2.off nt _ _ P1.kp P1.kk) ?_
      refine ⟨_, rfl, ?_⟩
      rw [nAt_any, nrows_any (by rw [List.length_take]; omega)]
      have lap : r.la ≠ p := ne_of P1.li hp (by intro z; cases z)
      have la2 := B2 _ _ lap P1.li
      have fin : goodP ps i r = false → ∀ d, H2 d = none → E (.ref A.c_BadPlan) (some d) (upd H2 d (.xd [("place", .int (i : Nat))])) := fun h d hd => q1 i r er h hg d _ (B2.new hd) upd_same
      cases hb : (ps.take i).any fun q => decide (keyD q.d = keyD r.d) with
      | true =>
        walk_at "go"
        exact ⟨_, rfl, fin (by unfold goodP; rw [hb]; rfl)⟩
      | false =>
        walk_at "go"
        have exs : r.xs.isEmpty = r.rs.isEmpty := by
          have := P1.ra.1
          cases hx : r.xs <;> cases hr : r.rs <;> rw [hx, hr] at this <;> first | rfl | (simp at this)
        refine ⟨!r.rs.isEmpty, .inl ⟨r.xs, .of la2, by rw [exs]⟩, ?_⟩
        cases he : r.rs.isEmpty with
        | true =>
          refine iteT ?_
          walk_at "go"
          exact ⟨_, rfl, fin (by unfold goodP; rw [he]; simp)⟩
        | false =>
          refine iteF ?_
          walk_at "go"
          refine ⟨r.la, r.xs, r.rs, rfl, .of la2, ratsAt_but hp B2 P1.ra, P1.le, P1.bd, fun H3 s3 => ?_⟩
          have eg : goodP ps i r = lotsB r.rs := by unfold goodP; rw [hb, he]; rfl
          have B3 : But p H H3 := B2.trans (Same.but s3)
          show _
          cases hc : lotsB r.rs with
          | false =>
            unfold lotsB at hc
            rw [hc]
            walk_at "go"
            exact ⟨_, rfl, fun d hd => q1 i r er (by rw [eg]; exact hc) hg d _ (B3.new hd) upd_same⟩
          | true =>
            have hc2 := hc
            unfold lotsB at hc2
            rw [hc2]
            walk_at "go"
            refine go_listOfL (.of (s3 _ _ la2)) fun l2 n2 => ?_
            have s4 := s3.trans (same_new (o := .lst r.xs) n2)
            have e2 : upd H3 l2 (.lst r.xs) l2 = some (.lst r.xs) := upd_same
            have B4 : But p H (upd H3 l2 (.lst r.xs)) := B2.trans (Same.but s4)
            have l20 : H l2 = none := by
              cases z : H l2 with
              | none => rfl
              | some o =>
                have nd : l2 ≠ p := fun k => by rw [k, s3 _ _ hp2] at n2; cases n2
                rw [B3 _ _ nd z] at n2
                cases n2
            have hp4 := s4 _ _ hp2
            have eD4 := s4 _ _ eD2
            generalize upd H3 l2 (.lst r.xs) = H4 at *
            walk_at "go"
            refine go_fldV hp4 cl n1 (by rw [List.lookup_cons, beq_self_eq_true]) ?_
            walk_at "go"
            have nn : nAt (nrows (ps.take i) ls) (keyD r.d) = none := by
              have := nAt_any (xs := nrows (ps.take i) ls) (k := keyD r.d)
              rw [nrows_any (by rw [List.length_take]; omega), hb] at this
              cases z : nAt (nrows (ps.take i) ls) (keyD r.d) with
              | none => rfl
              | some v => rw [z] at this; cases this
            refine go_setN (.inl eD4) (hk.imp fun d v _ h => dp_same s4 d v h) ?_ P1.kp P1.kd (dp_off B4.off nt _ _ P1.kp P1.kk) nn ?_
            · unfold nrows
              rw [List.length_map, List.length_zip, List.length_take]
              omega
            have l2D : l2 ≠ D := ne_of e2 eD4 (by intro z; cases z)
            refine ⟨_, _, _, _, ls ++ [l2], rfl, fun c o n e => ?_, by rw [upd_ne pD]; exact hp4, by rw [List.length_append, List.length_singleton, hll], by rw [nrows_snoc er hll]; exact upd_same, fun k r' a h1 h2 => ?_, fun j r' hj h1 => ?_⟩
            · rw [upd_ne (ne_of_none e hD)]
              exact B4 _ _ n e
            · rcases Nat.lt_or_ge k ls.length with z | z
              · rw [List.getElem?_append_left z] at h2
                obtain ⟨k1, k2⟩ := hls2 k r' a h1 h2
                have aD : a ≠ D := ne_of k2 eD2 (by intro z; cases z)
                exact ⟨k1, by rw [upd_ne aD]; exact s4 _ _ k2⟩
              · have hk2 : k = i := by
                  have := (List.getElem?_eq_some_iff.mp h2).1
                  rw [List.length_append, List.length_singleton] at this
                  omega
                subst hk2
                rw [List.getElem?_append_right z, hll, Nat.sub_self] at h2
                cases h2
                rw [er] at h1
                cases h1
                exact ⟨l20, by rw [upd_ne l2D]; exact e2⟩
            · rcases Nat.lt_or_ge j i with z | z
              · exact hg j r' z h1
              · obtain rfl : j = i := by omega
                rw [er] at h1
                cases h1
                rw [eg]
                exact hc
    · rintro σ' H' ⟨v2, v3, v4, v5, ls, rfl, B, hp', hll, eD, hls, hg⟩
      rw [hlen, List.take_length] at eD
      refine q0 (fun k r h => hg k r (by have := (List.getElem?_eq_some_iff.mp h).1; omega) h) D ls _ B hD (by omega) hp' eD hls
end
end K42

namespace K42
open PySem PySem.Spec PyProof.Rows L2 Gx
section
variable {P : Program} {w : World} {K : PySem.W.Frag} {mg : Str → Option Value} {base : Heap} {A : Ad}
def sp__law_met (K : PySem.W.Frag) : Sp := fun vs H Q _ => ∃ (l : Addr) (st : List Stg) (pl : Int), vs = [.ref l, .int pl] ∧ StAt H l st ∧ ∀ (r : Addr) H', Same H H' → H r = none → MetAt K H' r (metD st pl) → (metD st pl).length ≤ 324 → Q (.ref r) H'
theorem G__law_met (T : Txt P K mg A) : FnOk P w K mg base CX0 3 A.f__law_met A.d__law_met ["_law_stages_here", "_law_player"] (sp__law_met K) := by
  refine (T.F__law_met.ok (k := 2) sc__law_met (fun vs H Q E h => ?_) (fun cdv Ar outer s H vs Q E hr h => ?_))
  · obtain ⟨l, st, pl, rfl, _⟩ := h
    rfl
  · obtain ⟨l, st, pl, rfl, hst, q⟩ := h
    have h4 := hst.le
    refine ⟨_, (pss_cons (ps_set (i := 2) sc__law_met.nd rfl (Or.inl rfl) (pe_lst pa_nil))
      (pss_cons (ps_for PassesOwn.never rfl (pi_list (pe_call (G__law_paths T) (hr.mono (by decide)) rfl T.m__law_paths T.F__law_paths.kp T.b__law_paths .nil pass0 (pa_cons (pv 0) pa_nil))) (pg_name (i := 3) sc__law_met.nd rfl (Or.inl rfl))
        (pss_one (ps_for PassesOwn.never rfl (pi_range1 rfl T.n_range (pa_cons (pe_callB k_len (by rfl) T.n_len (by decide +kernel) (pa_cons (pv 0) pa_nil)) pa_nil)) (pg_name (i := 4) sc__law_met.nd rfl (Or.inl rfl))
        (pss_one (ps_if (pt_cmpR op_eq (pe_ix ix_tup (pe_ix ix_list (pv 0) (pv 4) (fun _ _ => rfl)) pe_int (fun _ _ => rfl)) (pv 1) (nomark _))
        (pss_cons (ps_set (i := 5) sc__law_met.nd rfl (Or.inl rfl) (pe_call (G__law_asked T) (hr.mono (by decide)) rfl T.m__law_asked T.F__law_asked.kp T.b__law_asked .nil pass0 (pa_cons (pv 0) (pa_cons (pe_slice sl_list (pv 3) po_none (po_some (pv 4))) pa_nil))))
      (pss_one (ps_if (pt_cmpR (op_notInD (room65 hr)) (pe_tup (pa_cons (pv 5) (pa_cons (pe_ix ix_tup (pe_ix ix_list (pv 0) (pv 4) (fun _ _ => rfl)) pe_int (fun _ _ => rfl)) pa_nil))) (pv 2) (by rfl))
        (pss_one (ps_expr (pe_bm PySem.F.plainAttrs_list PySem.F.slot_list_append PySem.F.type_list_append mt_append (pv 2) (pa_cons (pe_tup (pa_cons (pv 5) (pa_cons (pe_ix ix_tup (pe_ix ix_list (pv 0) (pv 4) (fun _ _ => rfl)) pe_int (fun _ _ => rfl)) pa_nil))) pa_nil))))
        pss_nil)))
        pss_nil)))))
      (pss_one (ps_ret (pv 2))))), ?_⟩
    try dsimp only [cxOf, Cx.nox, Cx.wish]
    walk_at "go"
    refine ⟨by show 0 ≤ sizeLine; decide, fun L nL => ?_⟩
    have s0 := same_new (o := .lst []) nL
    have e0 : upd H L (.lst []) L = some (.lst []) := upd_same
    generalize upd H L (.lst []) = H0 at *
    walk_at "go"
    refine ⟨l, st, rfl, hst.same s0, fun r H1 s1 hps => ?_⟩
    obtain ⟨px, epx, hpl, hpf⟩ := hps.ex
    have plen : ((pathsD st).length : Int) ≤ 81 := Int.le_trans (pStep_len (fun s hs => (hst.ok s hs).2.2.2.1) _) (p3_le h4)
    walk_at "go"
    have Ll : ∀ c o, H0 c = some o → ∀ x, H0 x = none → c ≠ x := fun c o e x n z => by rw [z, n] at e; cases e
    have rL : r ≠ L := (Ll L _ e0 r hps.nb).symm
    have okn : ∀ s ∈ st, 1 ≤ s.n ∧ s.n ≤ 3 := fun s hs => ⟨(hst.ok s hs).2.2.1, (hst.ok s hs).2.2.2.1⟩
    obtain ⟨sx, esx, hsl, hsf⟩ := hst.ex
    have lL : l ≠ L := fun z => by rw [z, nL] at esx; cases esx
    have stL : ∀ H', But L H1 H' → StAt H' l st := fun H' b => ⟨⟨sx, b _ _ lL (s1 _ _ (s0 _ _ esx)), hsl, fun k s hs => let ⟨t, a, c⟩ := hsf k s hs; ⟨t, a, b _ _ (fun z => by rw [z, nL] at c; cases c) (s1 _ _ (s0 _ _ c))⟩⟩, hst.le, hst.ok⟩
    refine foL px (fun i σ' H' => ∃ (v3 v4 v5 : Option V), σ' = [some (.ref l), some (.int pl), some (.ref L), v3, v4, v5] ∧ But L H1 H' ∧ MetAt K H' L (mRows st pl ((pathsD st).take i)) ∧ (mRows st pl ((pathsD st).take i)).length ≤ 4 * i) ⟨_, _, _, rfl, But.refl _ _, ⟨⟨[], s1 _ _ e0, .nil⟩, ⟨fun m h => (nomatch h), .nil⟩⟩, Nat.le_refl _⟩ ?_ ?_ ?_
    · rintro i σ' H2 _ ⟨v3, v4, v5, rfl, b2, _⟩
      exact .of (b2 _ _ rL epx)
    · rintro i x σ' H2 hx ⟨v3, v4, v5, rfl, b2, hm, hml⟩
      have hi := (List.getElem?_eq_some_iff.mp hx).1
      obtain ⟨p, ep⟩ : ∃ p, (pathsD st)[i]? = some p := ⟨_, List.getElem?_eq_getElem (by omega)⟩
      obtain ⟨qa, eq1, nq, eq2⟩ := hpf i p ep
      rw [hx] at eq1
      cases eq1
      have qL : qa ≠ L := (Ll L _ e0 qa nq).symm
      have pn : p.length = st.length := pStep_mem (Nat.le_refl _) p (List.mem_of_getElem? ep)
      rw [List.take_add_one, ep, Option.toList_some, mRows_snoc]
      generalize mRows st pl ((pathsD st).take i) = acc at *
      walk_at "go"
      refine go_lenL (.of (b2 _ _ lL (s1 _ _ (s0 _ _ esx)))) ?_
      walk_at "go"
      refine foR1 (fun j σ' H' => ∃ (v4 v5 : Option V), σ' = [some (.ref l), some (.int pl), some (.ref L), some (.ref qa), v4, v5] ∧ But L H1 H' ∧ MetAt K H' L (mRow st pl p acc j) ∧ (mRow st pl p acc j).length ≤ 4 * i + j) (by omega) ⟨_, _, rfl, b2, hm, hml⟩ ?_ ?_
      · rintro j σ' H3 hj ⟨v4, v5, rfl, b3, hm3, hml3⟩
        have hj2 : j < st.length := by omega
        obtain ⟨s, es⟩ : ∃ s, st[j]? = some s := ⟨_, List.getElem?_eq_getElem hj2⟩
        have hst3 := stL H3 b3
        obtain ⟨xs, t, el, hxl, it, et⟩ := hst3.get es
        rw [mRow_succ]
        have ei : mItem st pl p j = if s.w = pl then some (askD st (p.take j) s, s.n) else none := by
          unfold mItem
          rw [es]
        have iok : ∀ m, mItem st pl p j = some m → MOk m := fun m h => mItem_ok h4 okn (by omega) h
        generalize mRow st pl p acc j = ac at *
        walk_at "go"
        refine go_ixL (.of el) it ?_
        walk_at "go"
        by_cases hw : s.w = pl
        · rw [if_pos hw] at ei
          rw [decide_eq_true hw, ei]
          have mok := iok _ ei
          walk_at "go"
          refine go_slL (.of (b3 _ _ qL eq2)) fun ca nc => ?_
          have ecut : cutV (p.map V.int) none (some (j : Int)) = (p.take j).map V.int := by
            unfold cutV
            have h2 : HT.sIx (p.map V.int).length (p.map V.int).length (some (j : Int)) = min j (p.map V.int).length := HT.sIx_nat _ _ j
            rw [h2]
            show List.take (min j (p.map V.int).length - 0) ((p.map V.int).drop 0) = _
            rw [List.drop_zero, Nat.sub_zero, List.length_map, Nat.min_eq_left (by omega), List.map_take]
          rw [ecut]
          have x1 := same_new (o := .lst ((p.take j).map V.int)) nc
          have y1 : upd H3 ca (.lst ((p.take j).map V.int)) ca = some (.lst ((p.take j).map V.int)) := upd_same
          generalize upd H3 ca (.lst ((p.take j).map V.int)) = G1 at *
          have tl : (p.take j).length = j := by rw [List.length_take]; omega
          walk_at "go"
          refine ⟨l, ca, st, p.take j, s, rfl, hst3.same x1, y1, by rw [tl]; exact es, fun v G2 x2 dv => ?_⟩
          have x12 := x1.trans x2
          walk_at "go"
          refine go_ixL (.of (x12 _ _ el)) it ?_
          have et2 := x12 _ _ et
          walk_at "go"
          refine ⟨by show 2 ≤ sizeLine; decide, fun pa npa => ?_⟩
          have x3 := same_new (o := .tup [.ref v, .int s.n]) npa
          have y3 : upd G2 pa (.tup [.ref v, .int s.n]) pa = some (.tup [.ref v, .int s.n]) := upd_same
          generalize upd G2 pa (.tup [.ref v, .int s.n]) = G3 at *
          have x13 := x12.trans x3
          have hm4 := hm3.same x13
          obtain ⟨us, eus, dus⟩ := hm4.ex
          have dpa : Dp K G3 (.ref pa) (mD (askD st (p.take j) s, s.n)) := .tup (.of y3) (.cons (dp_same x3 _ _ dv) (.cons (.int _) .nil))
          walk_at "go"
          refine ⟨_, _, dpa, .lst (.of eus) dus, mok.shaped, mets_shaped hm4.ok.ok, ?_⟩
          have ea : ((ac.map mD).any fun z => PyData.eqv z (mD (askD st (p.take j) s, s.n))) = ac.any fun z => PyData.eqv (mD z) (mD (askD st (p.take j) s, s.n)) := by
            rw [List.any_map]
            rfl
          rw [ea]
          refine ⟨_, rfl, ?_⟩
          cases hc : ac.any fun z => PyData.eqv (mD z) (mD (askD st (p.take j) s, s.n)) with
          | true =>
            rw [mAdd_old hc]
            walk_at "go"
            exact ⟨_, _, rfl, b3.trans (Same.but x13), hm4, by omega⟩
          | false =>
            rw [mAdd_new hc]
            walk_at "go"
            refine ⟨.inl ⟨rfl, _, .inl (.inl eus)⟩, ?_⟩
            walk_at "go"
            refine go_ixL (.of (x3 _ _ (x12 _ _ el))) it ?_
            have et3 := x3 _ _ et2
            walk_at "go"
            refine ⟨by show 2 ≤ sizeLine; decide, fun pb npb => ?_⟩
            have x4 := same_new (o := .tup [.ref v, .int s.n]) npb
            have y4 : upd G3 pb (.tup [.ref v, .int s.n]) pb = some (.tup [.ref v, .int s.n]) := upd_same
            generalize upd G3 pb (.tup [.ref v, .int s.n]) = G4 at *
            have eus4 := x4 _ _ eus
            have ul := dpAll_len dus
            rw [List.length_map] at ul
            walk_at "go"
            refine go_append eus4 (szlt (by omega)) ?_
            walk_at "go"
            have o5 : Off (fun c => c = L) G4 (upd G4 L (.lst (us ++ [.ref pb]))) := But.off ((But.refl L G4).upd)
            have nS := noT_lst eus4
            have new : Dp K G4 (.ref pb) (mD (askD st (p.take j) s, s.n)) := .tup (.of y4) (.cons (dp_same (x3.trans x4) _ _ dv) (.cons (.int _) .nil))
            have ok2 : Mets (mAdd ac (some (askD st (p.take j) s, s.n))) := hm4.ok.add fun m h => by cases h; exact mok
            rw [mAdd_new hc] at ok2
            refine ⟨_, _, rfl, (b3.trans (Same.but (x13.trans x4))).upd, ⟨⟨_, upd_same, ?_⟩, ok2⟩, by rw [List.length_append, List.length_singleton]; omega⟩
            rw [List.map_append]
            exact dpAll_append (dpAll_off o5 nS _ _ (mets_lay hm4.ok.ok).1 (dpAll_same x4 _ _ dus)) (.cons (dp_off o5 nS _ _ mok.lay.1 new) .nil)
        · rw [if_neg hw] at ei
          rw [decide_eq_false hw, ei]
          walk_at "go"
          exact ⟨_, _, rfl, b3, hm3, by show ac.length ≤ _; omega⟩
      · rintro σ' H3 ⟨v4, v5, rfl, b3, hm3, hml3⟩
        rw [show ((sx.length : Int)).toNat = st.length by omega] at hm3 hml3
        exact ⟨_, _, _, rfl, b3, hm3, by omega⟩
    · rintro σ' H2 ⟨v3, v4, v5, rfl, b2, hm, hml⟩
      rw [hpl, List.take_length] at hm hml
      walk_at "go"
      exact q L _ (fun c o e => b2 _ _ (fun z => by rw [z, nL] at e; cases e) (s1 _ _ (s0 _ _ e))) nL hm (by show (mRows st pl (pathsD st)).length ≤ 324; omega)
end
end K42

namespace K42
open PySem PySem.Spec PyProof.Rows L2 Gx
section
variable {P : Program} {w : World} {K : PySem.W.Frag} {mg : Str → Option Value} {base : Heap} {A : Ad}
def sp_pure (P : Program) (w : World) (K : PySem.W.Frag) (C CP B : Addr) : Sp := fun vs H Q _ => ∃ (l ml : Addr) (ms : List Met) (row : List Int), vs = [.ref l, .ref ml] ∧ MetAt K H l ms ∧ H ml = some (.lst (row.map V.int)) ∧ RowOk ms row ∧ ms.length ≤ 1000 ∧ ∀ p H', Same H H' → PlanB H P w K C CP H' p (pureE ms row) → Q (.ref p) H'
theorem G_pure (T : Txt P K mg A) : FnOk P w K mg base CX0 5 A.f_pure A.d_pure ["views", "moves"] (sp_pure P w K A.c_Ratio A.c_Plan A.c_BadPlan) := by
  refine (T.F_pure.ok (k := 4) sc_pure (fun vs H Q E h => ?_) (fun cdv Ar outer s H vs Q E hr h => ?_))
  · obtain ⟨l, ml, ms, row, rfl, _⟩ := h
    rfl
  · obtain ⟨l, ml, ms, row, rfl, hm, hml, hrow, hz0, q⟩ := h
    obtain ⟨mx, emx, dmx⟩ := hm.ex
    have mxl := dpAll_len dmx
    rw [List.length_map] at mxl
    obtain ⟨hrl, hrv⟩ := id hrow
    have hkeys := mets_keys hm.ok
    refine ⟨_, (pss_cons (ps_set (i := 2) sc_pure.nd rfl (Or.inl rfl) (pe_lst pa_nil))
      (pss_cons (ps_for PassesOwn.never rfl (pi_zip (by rfl) T.n_zip (pa_cons (pv 0) (pa_cons (pv 1) pa_nil))) (pg_tup rfl (pgs_cons (pg_tup rfl (pgs_cons (pg_name (i := 3) sc_pure.nd rfl (Or.inl rfl)) (pgs_cons (pg_name (i := 4) sc_pure.nd rfl (Or.inl rfl)) pgs_nil))) (pgs_cons (pg_name (i := 5) sc_pure.nd rfl (Or.inr rfl)) pgs_nil)))
        (pss_one (ps_expr (pe_bm PySem.F.plainAttrs_list PySem.F.slot_list_append PySem.F.type_list_append mt_append (pv 2) (pa_cons (pe_tup (pa_cons (pv 3) (pa_cons (pe_lc (own := [("k", 6)]) (g := gName 6) (tt := tYes) rfl sc_pure.nd (pi_range1 rfl T.n_range (pa_cons (pv 4) pa_nil)) (blkOk_by (N := ["views", "moves", "entries", "view", "count", "move", "k"]) (sc := defScope s_pure) (by decide +kernel)) (fun _ _ _ _ _ => (pg_name (i := 6) sc_pure.nd rfl (Or.inl rfl))) (fun _ _ _ _ _ => by exact pts_nil) (fun _ _ _ _ _ => by exact (pe_make T.mk_Ratio (G_Ratio___init__ T) (hr.mono (by decide)) rfl T.m_Ratio T.b_Ratio___init___1.choose_spec.2 T.b_Ratio___init___1.choose_spec.1 pass0 (pa_cons (pe_callTy k_int1 (by rfl) T.n_int (by decide +kernel) (pa_cons (pe_cmpR op_eq (pv 6) (pv 5) (nomark _)) pa_nil)) pa_nil)))) pa_nil))) pa_nil)))))
      (pss_one (ps_ret (pe_make T.mk_Plan (G_Plan___init__ (w := w) T) (hr.mono (by decide)) rfl T.m_Plan T.b_Plan___init__ .nil passL (pa_cons (pv 2) pa_nil)))))), ?_⟩
    try dsimp only [cxOf, Cx.nox, Cx.wish]
    walk_at "go"
    refine ⟨by show 0 ≤ sizeLine; decide, fun L nL => ?_⟩
    have s0 := same_new (o := .lst []) nL
    have eL0 : upd H L (.lst []) L = some (.lst []) := upd_same
    generalize upd H L (.lst []) = H0 at *
    walk_at "go"
    unfold iZip
    walk_at "go"
    refine ⟨l, ml, mx, row.map V.int, rfl, .of (s0 _ _ emx), .of (s0 _ _ hml), ?_⟩
    refine RZ.for_zipL (xs := mx) (ys := row.map V.int) (by rw [List.length_map]; omega) (fun i σ' H' => ∃ (v3 v4 v5 : Option V) (ys : List V) (ps : List PRow), σ' = [some (.ref l), some (.ref ml), some (.ref L), v3, v4, v5, none] ∧ Same H H' ∧ H' L = some (.lst ys) ∧ ys.length = i ∧ ps.length = i ∧ ∀ (k : Nat) r, ps[k]? = some r → ∃ m x t, ms[k]? = some m ∧ row[k]? = some x ∧ r.d = .tuple m.1 ∧ Dp K H' (.ref r.ka) r.d ∧ r.rs = terms (ind m.2 x) (ind m.2 x).sum ∧ r.la ≠ L ∧ H' r.la = some (.lst r.xs) ∧ RatsAt A.c_Ratio H' r.xs r.rs ∧ ys[k]? = some (.ref t) ∧ H' t = some (.tup [.ref r.ka, .ref r.la])) ⟨_, _, _, [], [], rfl, s0, eL0, rfl, rfl, fun k r h => by simp at h⟩ ?_ ?_ ?_
    · rintro i σ' H' ⟨v3, v4, v5, ys, ps, rfl, s, _⟩
      exact ⟨.of (s _ _ emx), .of (s _ _ hml)⟩
    · rintro i x y T σ' H1 hx hy ⟨v3, v4, v5, ys, ps, rfl, s1, eL, yl, pl, hat⟩ hT
      have hi := (List.getElem?_eq_some_iff.mp hx).1
      obtain ⟨m, em⟩ : ∃ m, ms[i]? = some m := ⟨_, List.getElem?_eq_getElem (by omega)⟩
      obtain ⟨mv, emv⟩ : ∃ x, row[i]? = some x := ⟨_, List.getElem?_eq_getElem (by omega)⟩
      rw [List.getElem?_map, emv] at hy
      cases hy
      have mok := hm.ok.ok m (List.mem_of_getElem? em)
      have mn := mok.n
      have hmv := hrv i m mv em emv
      have io := ind_ok hmv
      obtain ⟨xs', t, v, e1, e2, e3, pt, dv⟩ := (hm.same s1).get em
      rw [s1 _ _ emx] at e1
      cases e1
      rw [hx] at e3
      cases e3
      have x1 := same_new (o := .tup [.ref t, .int mv]) hT
      have eT : SqT K (upd H1 T (.tup [.ref t, .int mv])) T [.ref t, .int mv] := .of upd_same
      show gTup K _ _ (.ref T) _ (upd H1 T (.tup [.ref t, .int mv])) _
      generalize upd H1 T (.tup [.ref t, .int mv]) = G1 at *
      refine ⟨T, _, rfl, eT, rfl, ?_⟩
      walk_at "go"
      refine ⟨t, _, rfl, same_sqT x1 pt, rfl, ?_⟩
      walk_at "go"
      have eL1 := x1 _ _ eL
      refine ⟨.inl ⟨rfl, _, .inl (.inl eL1)⟩, ?_⟩
      walk_at "go"
      refine lcRh (P := fun H k y => ∃ z p dx, (terms (ind m.2 mv) (ind m.2 mv).sum)[k]? = some z ∧ y = .ref p ∧ H p = some (.ins A.c_Ratio dx (rf z.1 z.2))) stays_rat (by omega) (by omega) (fun _ => rfl) ?_ ?_
      · intro k H' hk sH R hR
        walk_at "go"
        intro z dz hz hdz hne2
        refine ⟨z, dz, _, 1, rfl, upd_same, by decide, Nat.one_lt_two_pow (by decide), fun H4 s4 e4 => ⟨rfl, ?_⟩⟩
        refine hR _ _ (same_made hz hdz s4) ⟨(rN (if (k : Int) = mv then 1 else 0) 1, rD (if (k : Int) = mv then 1 else 0) 1), z, dz, ?_, rfl, ?_⟩
        · rw [io.1]
          unfold terms ind
          rw [List.getElem?_map, List.getElem?_map, List.getElem?_range hk]
          rfl
        · by_cases h0 : (k : Int) = mv
          · rw [decide_eq_true h0] at e4
            rw [if_pos h0]
            exact e4
          · rw [decide_eq_false h0] at e4
            rw [if_neg h0]
            exact e4
      intro D2 zs H3 hD2 s3 eD2 hzl hQ
      have hra : RatsAt A.c_Ratio H3 zs (terms (ind m.2 mv) (ind m.2 mv).sum) := rats_of (by rw [hzl, terms_len]; omega) hQ
      walk_at "go"
      refine ⟨by show 2 ≤ sizeLine; decide, fun nt nnt => ?_⟩
      have x4 := same_new (o := .tup [.ref v, .ref D2]) nnt
      have y4 : upd H3 nt (.tup [.ref v, .ref D2]) nt = some (.tup [.ref v, .ref D2]) := upd_same
      generalize upd H3 nt (.tup [.ref v, .ref D2]) = G4 at *
      have x34 := x1.trans (s3.trans x4)
      have eL4 := x34 _ _ eL
      walk_at "go"
      refine go_append eL4 (szlt (by omega)) ?_
      walk_at "go"
      have D2L : D2 ≠ L := fun z => by rw [z, eL1] at hD2; cases hD2
      have ni : ∀ c C dx fs, c = L → G4 c ≠ some (.ins C dx fs) := fun c C dx fs z => by rw [z, eL4]; intro z; cases z
      have o5 : Off (fun c => c = L) G4 (upd G4 L (.lst (ys ++ [.ref nt]))) := But.off ((But.refl L G4).upd)
      have nT5 := noT_lst eL4
      refine ⟨_, _, _, ys ++ [.ref nt], ps ++ [⟨.tuple m.1, v, D2, zs, terms (ind m.2 mv) (ind m.2 mv).sum⟩], rfl, same_mut (s1.trans x34) nL, upd_same, by rw [List.length_append, List.length_singleton, yl], by rw [List.length_append, List.length_singleton, pl], fun k r hr => ?_⟩
      rcases Nat.lt_or_ge k i with z | z
      · rw [List.getElem?_append_left (by omega)] at hr
        obtain ⟨m', x', t', a1, a2, a3, a4, a5, a6, a7, a8, a9, a10⟩ := hat k r hr
        have mok' := hm.ok.ok m' (List.mem_of_getElem? a1)
        have a10' := x34 _ _ a10
        exact ⟨m', x', t', a1, a2, a3, dp_off o5 nT5 _ _ (by rw [a3]; exact mok'.view.1) (dp_same x34 _ _ a4), a5, a6, by rw [upd_ne a6]; exact x34 _ _ a7, ratsAt_off o5 ni (a8.same x34), by rw [List.getElem?_append_left (by omega)]; exact a9, by rw [upd_ne (ne_of a10' eL4 (by intro z; cases z))]; exact a10'⟩
      · have hk := (List.getElem?_eq_some_iff.mp hr).1
        rw [List.length_append, List.length_singleton] at hk
        obtain rfl : k = i := by omega
        rw [List.getElem?_append_right (by omega), pl, Nat.sub_self] at hr
        cases hr
        exact ⟨m, mv, nt, em, emv, rfl, dp_off o5 nT5 _ _ mok.view.1 (dp_same x34 _ _ dv), rfl, D2L, by rw [upd_ne D2L]; exact x4 _ _ eD2, ratsAt_off o5 ni (hra.same x4), by rw [List.getElem?_append_right (by omega), yl, Nat.sub_self]; rfl, by rw [upd_ne (ne_of y4 eL4 (by intro z; cases z))]; exact y4⟩
    · rintro σ' H1 ⟨v3, v4, v5, ys, ps, rfl, s1, eL, yl, pl, hat⟩
      rw [mxl] at yl pl
      have good : ∀ (k : Nat) r, ps[k]? = some r → goodP ps k r = true := fun k r hr => by
        obtain ⟨m, x, t, a1, a2, a3, a4, a5, _⟩ := hat k r hr
        have io := ind_ok (hrv k m x a1 a2)
        have lg := lots_good io.2.2 (by rw [io.1]; decide)
        unfold goodP
        rw [a5, lg, Bool.and_true, Bool.not_eq_true', List.any_eq_false]
        intro q hq
        simp only [decide_eq_true_eq]
        obtain ⟨j, hj⟩ := List.mem_iff_getElem?.mp hq
        have jk : j < k := by
          have := (List.getElem?_eq_some_iff.mp hj).1
          rw [List.length_take] at this
          omega
        rw [List.getElem?_take_of_lt jk] at hj
        obtain ⟨m', x', t', b1, b2, b3, _⟩ := hat j q hj
        rw [a3, b3]
        have hk := (List.getElem?_eq_some_iff.mp a1).1
        have h2 := List.pairwise_iff_getElem.mp hkeys j k (by omega) hk jk
        rw [(List.getElem?_eq_some_iff.mp b1).2, (List.getElem?_eq_some_iff.mp a1).2] at h2
        exact h2
      walk_at "go"
      intro z dz hz hdz hne
      have s4 : Same H1 (upd (upd H1 dz (.own z)) z (.ins A.c_Plan dz [])) := fun t o ht => by
        rw [upd_ne (ne_of_none ht hz), upd_ne (ne_of_none ht hdz)]
        exact ht
      refine ⟨z, dz, L, ys, ps, rfl, upd_same, s4 _ _ eL, by omega, by omega, fun k r x hr hx => ?_, fun _ D' ls H5 B5 hD' hls ez eD' hl2 => ⟨rfl, ?_⟩, fun k r hr hbad => ?_⟩
      · obtain ⟨m, x', t, a1, a2, a3, a4, a5, a6, a7, a8, a9, a10⟩ := hat k r hr
        have mok := hm.ok.ok m (List.mem_of_getElem? a1)
        have mn := mok.n
        have io := ind_ok (hrv k m x' a1 a2)
        rw [a9] at hx
        cases hx
        exact ⟨⟨t, rfl, .of (s4 _ _ a10)⟩, by rw [a3]; exact mok.view.1, by rw [a3]; have := mok.view.2.2.2; omega, dp_same s4 _ _ a4, s4 _ _ a7, a8.same s4, by rw [a5, terms_len]; omega, by
          rw [a5]
          intro z hz
          have lo := terms_lot (by omega) io.2.2 (by rw [io.1]; decide) z hz
          have l1 := lo.p
          have l2 := lo.a
          have l3 := lo.b
          exact ⟨l1, Nat.lt_of_le_of_lt (m := 1099511627776) (by omega) (by decide), Nat.lt_of_le_of_lt (m := 1099511627776) (by omega) (by decide)⟩⟩
      · have s5 : Same H1 H5 := fun t o ht => B5 _ _ (ne_of_none ht hz) (s4 _ _ ht)
        have sH := s1.trans s5
        refine q z H5 sH ⟨⟨dz, D', ps, ls, ez, eD', by omega, by rw [pureE_len hrl]; omega, fun k r a hr ha => ?_⟩, fun e he => ?_, by rw [pureE_len hrl]; omega, fun e he => ?_⟩
        · obtain ⟨m, x', t, a1, a2, a3, a4, a5, a6, a7, a8, a9, a10⟩ := hat k r hr
          exact ⟨_, pureE_at a1 a2, a3, a5, dp_same s5 _ _ a4, (s1.trans s4).free (hl2 k r a hr ha).1, (hl2 k r a hr ha).2, a8.same s5⟩
        · obtain ⟨k, m, x, h1, h2, rfl, _⟩ := pureE_mem hrow he
          exact hm.ok.ok m (List.mem_of_getElem? h1)
        · obtain ⟨k, m, x, h1, h2, rfl, hx⟩ := pureE_mem hrow he
          have io := ind_ok hx
          have mn := (hm.ok.ok m (List.mem_of_getElem? h1)).n
          exact ⟨by show (ind m.2 x).length ≤ 4; omega, io.2.2, by show 0 < (ind m.2 x).sum; rw [io.1]; decide⟩
      · rw [good k r hr] at hbad
        cases hbad
end
end K42

namespace K42
open PySem PySem.Spec PyProof.Rows L2 Gx
section
variable {P : Program} {w : World} {K : PySem.W.Frag} {mg : Str → Option Value} {base : Heap} {A : Ad}
def sp_even (P : Program) (w : World) (K : PySem.W.Frag) (C CP B : Addr) : Sp := fun vs H Q _ => ∃ (l : Addr) (ms : List Met), vs = [.ref l] ∧ MetAt K H l ms ∧ ms.length ≤ 1000 ∧ ∀ p H', Same H H' → PlanAt P w K C CP H' p (evenE ms) → Q (.ref p) H'
theorem G_even (T : Txt P K mg A) : FnOk P w K mg base CX0 5 A.f_even A.d_even ["views"] (sp_even P w K A.c_Ratio A.c_Plan A.c_BadPlan) := by
  refine (T.F_even.ok (k := 4) sc_even (fun vs H Q E h => ?_) (fun cdv Ar outer s H vs Q E hr h => ?_))
  · obtain ⟨l, ms, rfl, _⟩ := h
    rfl
  · obtain ⟨l, ms, rfl, hm, hz0, q⟩ := h
    obtain ⟨mx, emx, dmx⟩ := hm.ex
    have mxl := dpAll_len dmx
    rw [List.length_map] at mxl
    have hOk := even_ok hm.ok hz0
    refine ⟨_, (pss_one (ps_ret (pe_make T.mk_Plan (G_Plan___init__ (w := w) T) (hr.mono (by decide)) rfl T.m_Plan T.b_Plan___init__ .nil passL (pa_cons (pe_lc (own := [("view", 1), ("count", 2)]) (g := _) (tt := tYes) rfl sc_even.nd (pi_list (pv 0)) (blkOk_by (N := ["views", "view", "count", "k"]) (sc := defScope s_even) (by decide +kernel)) (fun _ _ _ _ _ => (pg_tupK (K := K) (n := 2) rfl rfl (pgs_cons (pg_name (i := 1) sc_even.nd rfl (by first | exact Or.inl rfl | exact Or.inr rfl)) (pgs_cons (pg_name (i := 2) sc_even.nd rfl (by first | exact Or.inl rfl | exact Or.inr rfl)) pgs_nil)))) (fun _ _ _ _ _ => by exact pts_nil) (fun _ _ _ _ _ => by exact (pe_tup (pa_cons (pv 1) (pa_cons (by exact (pe_lc (own := [("k", 3)]) (g := gName 3) (tt := tYes) rfl sc_even.nd (pi_range1 rfl T.n_range (pa_cons (pv 2) pa_nil)) (by exact (show BlkOk ["views", "view", "count", "k"] (relS _ (defScope s_even)) _ _ from blkOk_by (by decide +kernel))) (fun _ _ _ _ _ => (pg_name (i := 3) sc_even.nd rfl (Or.inl rfl))) (fun _ _ _ _ _ => by exact pts_nil) (fun _ _ _ _ _ => by exact (pe_make T.mk_Ratio (G_Ratio___init__ T) (hr.mono (by decide)) rfl T.m_Ratio T.b_Ratio___init___0.choose_spec.2 T.b_Ratio___init___0.choose_spec.1 pass0 (pa_cons pe_int (pa_cons (pv 2) pa_nil)))))) pa_nil))))) pa_nil)))), ?_⟩
    try dsimp only [cxOf, Cx.nox, Cx.wish]
    walk_at "go"
    refine ⟨l, rfl, ⟨mx, .of emx⟩, fun D hD => ?_⟩
    refine lc_list (xs := mx) (fun i H' => Same H H' ∧ ELAt K A.c_Ratio H' D (evenE (ms.take i))) ⟨same_new hD, ELAt.nil upd_same⟩ ?_ ?_ ?_
    · rintro i H' _ ⟨s, _⟩
      exact .of (s _ _ emx)
    · rintro i x H1 hx ⟨s1, hE⟩
      have hi := (List.getElem?_eq_some_iff.mp hx).1
      obtain ⟨m, em⟩ : ∃ m, ms[i]? = some m := ⟨_, List.getElem?_eq_getElem (by omega)⟩
      have mok := hm.ok.ok m (List.mem_of_getElem? em)
      have mn := mok.n
      obtain ⟨xs', t, v, e1, e2, e3, pt, dv⟩ := (hm.same s1).get em
      rw [s1 _ _ emx] at e1
      cases e1
      rw [hx] at e3
      cases e3
      obtain ⟨ys, _, eD, yl, _⟩ := hE.ex
      have yl2 : ys.length ≤ 1000 := by
        rw [yl]
        unfold evenE
        rw [List.length_map, List.length_take]
        omega
      refine ⟨t, _, rfl, pt, rfl, ?_⟩
      walk_at "go"
      refine ⟨rfl, go_yes (iteT ?_)⟩
      walk_at "go"
      have rs : (List.replicate m.2.toNat (1 : Int)).sum = m.2 := by rw [rep_sum]; omega
      refine lcRh (P := fun H k y => ∃ z p dx, (terms (List.replicate m.2.toNat 1) (List.replicate m.2.toNat (1 : Int)).sum)[k]? = some z ∧ y = .ref p ∧ H p = some (.ins A.c_Ratio dx (rf z.1 z.2))) stays_rat (by omega) (by omega) (fun _ => rfl) ?_ ?_
      · intro k H' hk sH R hR
        walk_at "go"
        intro z dz hz hdz hne2
        refine ⟨z, dz, 1, m.2, rfl, upd_same, by omega, Nat.lt_of_le_of_lt (m := 3) (by omega) (Nat.lt_of_lt_of_le (by decide : 3 < 2 ^ 2) (Nat.pow_le_pow_right (by decide) (by decide))), fun H4 s4 e4 => ⟨rfl, ?_⟩⟩
        refine hR _ _ (same_made hz hdz s4) ⟨(rN 1 m.2, rD 1 m.2), z, dz, ?_, rfl, e4⟩
        unfold terms
        rw [List.getElem?_map, List.getElem?_replicate_of_lt hk, rs]
        rfl
      intro D2 zs H3 hD2 s3 eD2 hzl hQ
      have hra : RatsAt A.c_Ratio H3 zs (terms (List.replicate m.2.toNat 1) (List.replicate m.2.toNat (1 : Int)).sum) := rats_of (by rw [hzl, terms_len, List.length_replicate]) hQ
      walk_at "go"
      refine ⟨by show 2 ≤ sizeLine; decide, fun nt nnt => ?_⟩
      have x4 := same_new (o := .tup [.ref v, .ref D2]) nnt
      have y4 : upd H3 nt (.tup [.ref v, .ref D2]) nt = some (.tup [.ref v, .ref D2]) := upd_same
      generalize upd H3 nt (.tup [.ref v, .ref D2]) = G4 at *
      have x34 := s3.trans x4
      have D2D : D2 ≠ D := fun z => by rw [z, eD] at hD2; cases hD2
      refine ⟨ys, x34 _ _ eD, szlt (by omega), same_mut (s1.trans x34) hD, ?_⟩
      rw [even_take em]
      exact (hE.same x34).snoc (r := ⟨.tuple m.1, v, D2, zs, terms (List.replicate m.2.toNat 1) (List.replicate m.2.toNat (1 : Int)).sum⟩) (x34 _ _ eD) (fun z hz => by
        obtain ⟨m', h', rfl⟩ := List.mem_map.mp hz
        exact hm.ok.ok m' (List.mem_of_mem_take h')) mok rfl (dp_same x34 _ _ dv) rfl D2D (x4 _ _ eD2) (hra.same x4) y4
    · rintro H1 ⟨s1, hEL⟩
      rw [mxl, List.take_length] at hEL
      walk_at "go"
      intro z dz hz hdz hne
      obtain ⟨ys, ps, eLL, yl, pln, hat⟩ := hEL.ex
      have good := el_good hOk pln fun k r hr => let ⟨e, t, a1, a2, a3, a4, _⟩ := hat k r hr; ⟨e, a1, a2, a4⟩
      have s4 : Same H1 (upd (upd H1 dz (.own z)) z (.ins A.c_Plan dz [])) := fun t o ht => by
        rw [upd_ne (ne_of_none ht hz), upd_ne (ne_of_none ht hdz)]
        exact ht
      have okn := hOk.n
      refine ⟨z, dz, D, ys, ps, rfl, upd_same, s4 _ _ eLL, by omega, by omega, fun k r x hr hx => ?_, fun _ D' lsD H5 B5 hD' hls ez eD' hl2 => ⟨rfl, ?_⟩, fun k r hr hbad => ?_⟩
      · obtain ⟨e, t, a1, a2, a3, a4, a5, a6, a7, a8, a9⟩ := hat k r hr
        have mem := List.mem_of_getElem? a1
        have mok := hOk.ok e mem
        obtain ⟨b1, b2, b3⟩ := hOk.b e mem
        rw [a8] at hx
        cases hx
        exact ⟨⟨t, rfl, .of (s4 _ _ a9)⟩, by rw [a2]; exact mok.view.1, by rw [a2]; have := mok.view.2.2.2; omega, dp_same s4 _ _ a3, s4 _ _ a6, a7.same s4, by rw [a4, terms_len]; omega, by
          rw [a4]
          intro z hz
          have lo := terms_lot b1 b2 b3 z hz
          have l1 := lo.p
          have l2 := lo.a
          have l3 := lo.b
          exact ⟨l1, Nat.lt_of_le_of_lt (m := 1099511627776) (by omega) (by decide), Nat.lt_of_le_of_lt (m := 1099511627776) (by omega) (by decide)⟩⟩
      · have s5 : Same H1 H5 := fun t o ht => B5 _ _ (ne_of_none ht hz) (s4 _ _ ht)
        have hPP : PlanAt P w K A.c_Ratio A.c_Plan H5 z (evenE ms) := ⟨⟨dz, D', ps, lsD, ez, eD', by omega, pln, fun k r a hr ha => let ⟨e, t, a1, a2, a3, a4, a5, a6, a7, a8, a9⟩ := hat k r hr; ⟨e, a1, a2, a4, dp_same s5 _ _ a3, (hl2 k r a hr ha).2, a7.same s5⟩⟩, hOk.ok, okn, hOk.b⟩
        exact q z H5 (s1.trans s5) hPP
      · rw [good k r hr] at hbad
        cases hbad
end
end K42

namespace K42
open PySem PySem.Spec PyProof.Rows L2 Gx
section
variable {P : Program} {w : World} {K : PySem.W.Frag} {mg : Str → Option Value} {base : Heap} {A : Ad}
theorem eq_rat {C : Addr} (vs : List V) (H : Hp) (Q : VK) (E : XK) (h : spEq (RatEq C) vs H Q E) : sp_Ratio___eq__ C vs H Q E := by
  obtain ⟨x, y, rfl, ⟨dx, dy, a, b, h1, h2⟩, q⟩ := h
  exact ⟨x, y, dx, dy, a, b, rfl, h1, h2, q _ Ext.rfl'⟩
def sp__law_plans (P : Program) (w : World) (K : PySem.W.Frag) (C CP B : Addr) : Sp := fun vs H Q _ => ∃ (l m : Addr) (ms : List Met) (row : List Int), vs = [.ref l, .ref m] ∧ MetAt K H l ms ∧ H m = some (.lst (row.map V.int)) ∧ RowOk ms row ∧ ms.length ≤ 1000 ∧ ∀ H', Same H H' → Q (.bl true) H'
theorem G__law_plans (T : Txt P K mg A) : FnOk P w K mg base CX0 6 A.f__law_plans A.d__law_plans ["_law_views", "_law_moves"] (sp__law_plans P w K A.c_Ratio A.c_Plan A.c_BadPlan) := by
  refine (T.F__law_plans.ok (k := 5) sc__law_plans (fun vs H Q E h => ?_) (fun cdv Ar outer s H vs Q E hr h => ?_))
  · obtain ⟨l, m, ms, row, rfl, _⟩ := h
    rfl
  · obtain ⟨l, m, ms, row, rfl, hm, hrow, rok, hml, q⟩ := h
    obtain ⟨mx, emx, dmx⟩ := hm.ex
    have mxl := dpAll_len dmx
    rw [List.length_map] at mxl
    refine ⟨_, (pss_cons (ps_set (i := 2) sc__law_plans.nd rfl (Or.inl rfl) (pe_lst (pa_cons (pe_callTy k_list_of (by rfl) T.n_list (by decide +kernel) (pa_cons (pv 0) pa_nil)) (pa_cons (pe_callTy k_list_of (by rfl) T.n_list (by decide +kernel) (pa_cons (pv 1) pa_nil)) pa_nil))))
      (pss_cons (ps_set (i := 3) sc__law_plans.nd rfl (Or.inl rfl) (pe_call (G_pure (w := w) T) (hr.mono (by decide)) rfl T.m_pure T.F_pure.kp T.b_pure .nil pass0 (pa_cons (pe_ix ix_list (pv 2) pe_int (fun _ _ => rfl)) (pa_cons (pe_ix ix_list (pv 2) pe_int (fun _ _ => rfl)) pa_nil))))
      (pss_cons (ps_set (i := 4) sc__law_plans.nd rfl (Or.inl rfl) (pe_call (G_even (w := w) T) (hr.mono (by decide)) rfl T.m_even T.F_even.kp T.b_even .nil pass0 (pa_cons (pe_ix ix_list (pv 2) pe_int (fun _ _ => rfl)) pa_nil)))
      (pss_cons (ps_if (pt_cmpR (op_neD hr.units) (pv 2) (pe_lst (pa_cons (pv 0) (pa_cons (pv 1) pa_nil))) (nomark _))
        (pss_one (ps_ret pe_bl))
        pss_nil)
      (pss_cons (ps_set (i := 5) sc__law_plans.nd rfl (Or.inl rfl) (pe_meth0 (pv 3) T.cl_Plan T.me_Plan_entries (G_Plan_entries (w := w) T) (hr.mono (by decide)) T.b_Plan_entries .nil pass0))
      (pss_cons (ps_set (i := 6) sc__law_plans.nd rfl (Or.inl rfl) (pe_meth0 (pv 4) T.cl_Plan T.me_Plan_entries (G_Plan_entries (w := w) T) (hr.mono (by decide)) T.b_Plan_entries .nil pass0))
      (pss_cons (ps_if (PW.pt (pw_or (pt_cmpR op_ne (pe_callB k_len (by rfl) T.n_len (by decide +kernel) (pa_cons (pv 5) pa_nil)) (pe_callB k_len (by rfl) T.n_len (by decide +kernel) (pa_cons (pv 0) pa_nil)) (nomark _)) (pw_or1 (pt_cmpR op_ne (pe_callB k_len (by rfl) T.n_len (by decide +kernel) (pa_cons (pv 6) pa_nil)) (pe_callB k_len (by rfl) T.n_len (by decide +kernel) (pa_cons (pv 0) pa_nil)) (nomark _)))))
        (pss_one (ps_ret pe_bl))
        pss_nil)
      (pss_cons (ps_for PassesOwn.never rfl (pi_range1 rfl T.n_range (pa_cons (pe_callB k_len (by rfl) T.n_len (by decide +kernel) (pa_cons (pv 0) pa_nil)) pa_nil)) (pg_name (i := 7) sc__law_plans.nd rfl (Or.inr rfl))
        (pss_cons (ps_set (i := 8) sc__law_plans.nd rfl (Or.inl rfl) (pe_ix ix_tup (pe_ix ix_list (pv 0) (pv 7) (fun _ _ => rfl)) pe_int (fun _ _ => rfl)))
      (pss_cons (ps_set (i := 9) sc__law_plans.nd rfl (Or.inr rfl) (pe_ix ix_tup (pe_ix ix_list (pv 0) (pv 7) (fun _ _ => rfl)) pe_int (fun _ _ => rfl)))
      (pss_cons (ps_if (PW.pt (pw_or (pt_cmpR (op_neD hr.units) (pe_ix ix_tup (pe_ix ix_list (pv 5) (pv 7) (fun _ _ => rfl)) pe_int (fun _ _ => rfl)) (pv 8) (nomark _)) (pw_or1 (pt_cmpR (op_neD hr.units) (pe_ix ix_tup (pe_ix ix_list (pv 6) (pv 7) (fun _ _ => rfl)) pe_int (fun _ _ => rfl)) (pv 8) (nomark _)))))
        (pss_one (ps_ret pe_bl))
        pss_nil)
      (pss_cons (ps_if (pt_cmpR (op_neL mon_rat (eqG_ins ((G_Ratio___eq__ T).imp eq_rat) T.me_Ratio___eq__.at_ T.me_Ratio___eq__.fn T.b_Ratio___eq__ pass0) (hr.mono (by decide))) (pe_ix ix_tup (pe_ix ix_list (pv 5) (pv 7) (fun _ _ => rfl)) pe_int (fun _ _ => rfl)) (pe_lc (own := [("_law_move", 10)]) (g := gName 10) (tt := tYes) rfl sc__law_plans.nd (pi_range1 rfl T.n_range (pa_cons (pv 9) pa_nil)) (blkOk_by (N := ["_law_views", "_law_moves", "_law_passed", "_law_plan", "_law_other", "_law_told", "_law_more", "_law_k", "_law_view_here", "_law_count", "_law_move"]) (sc := defScope s__law_plans) (by decide +kernel)) (fun _ _ _ _ _ => (pg_name (i := 10) sc__law_plans.nd rfl (Or.inl rfl))) (fun _ _ _ _ _ => by exact pts_nil) (fun _ _ _ _ _ => by exact (pe_make T.mk_Ratio (G_Ratio___init__ T) (hr.mono (by decide)) rfl T.m_Ratio T.b_Ratio___init___1.choose_spec.2 T.b_Ratio___init___1.choose_spec.1 pass0 (pa_cons (pe_callTy k_int1 (by rfl) T.n_int (by decide +kernel) (pa_cons (pe_cmpR op_eq (pv 10) (pe_ix (ix_listK (K := K) rfl) (pv 1) (pv 7) (fun _ _ => rfl)) (nomark _)) pa_nil)) pa_nil)))) (nomark _))
        (pss_one (ps_ret pe_bl))
        pss_nil)
      (pss_one (ps_if (pt_cmpR (op_neL mon_rat (eqG_ins ((G_Ratio___eq__ T).imp eq_rat) T.me_Ratio___eq__.at_ T.me_Ratio___eq__.fn T.b_Ratio___eq__ pass0) (hr.mono (by decide))) (pe_ix ix_tup (pe_ix ix_list (pv 6) (pv 7) (fun _ _ => rfl)) pe_int (fun _ _ => rfl)) (pe_lc (own := [("_law_move", 10)]) (g := gName 10) (tt := tYes) rfl sc__law_plans.nd (pi_range1 rfl T.n_range (pa_cons (pv 9) pa_nil)) (blkOk_by (N := ["_law_views", "_law_moves", "_law_passed", "_law_plan", "_law_other", "_law_told", "_law_more", "_law_k", "_law_view_here", "_law_count", "_law_move"]) (sc := defScope s__law_plans) (by decide +kernel)) (fun _ _ _ _ _ => (pg_name (i := 10) sc__law_plans.nd rfl (Or.inl rfl))) (fun _ _ _ _ _ => by exact pts_nil) (fun _ _ _ _ _ => by exact (pe_make T.mk_Ratio (G_Ratio___init__ T) (hr.mono (by decide)) rfl T.m_Ratio T.b_Ratio___init___0.choose_spec.2 T.b_Ratio___init___0.choose_spec.1 pass0 (pa_cons pe_int (pa_cons (pv 9) pa_nil))))) (nomark _))
        (pss_one (ps_ret pe_bl))
        pss_nil)))))))
      (pss_one (ps_ret pe_bl)))))))))), ?_⟩
    try dsimp only [cxOf, Cx.nox, Cx.wish]
    walk_at "go"
    refine go_listOfL (.of emx) fun l2 n2 => ?_
    have s1 := same_new (o := .lst mx) n2
    have hm2 := hm.copy emx n2
    have el2 : upd H l2 (.lst mx) l2 = some (.lst mx) := upd_same
    generalize upd H l2 (.lst mx) = H1 at *
    walk_at "go"
    refine go_listOfL (.of (s1 _ _ hrow)) fun m2 n3 => ?_
    have s2 := same_new (o := .lst (row.map V.int)) n3
    have em2 : upd H1 m2 (.lst (row.map V.int)) m2 = some (.lst (row.map V.int)) := upd_same
    generalize upd H1 m2 (.lst (row.map V.int)) = H2 at *
    walk_at "go"
    refine ⟨by show 2 ≤ sizeLine; decide, fun pa n4 => ?_⟩
    have s3 := same_new (o := .lst [.ref l2, .ref m2]) n4
    have epa : upd H2 pa (.lst [.ref l2, .ref m2]) pa = some (.lst [.ref l2, .ref m2]) := upd_same
    generalize upd H2 pa (.lst [.ref l2, .ref m2]) = H3 at *
    walk_at "go"
    refine ⟨l2, m2, ms, row, rfl, hm2.same (s2.trans s3), s3 _ _ em2, rok, hml, fun p1 H4 s4 hB1 => ?_⟩
    have hP1 := hB1.plan
    have epa4 := s4 _ _ epa
    walk_at "go"
    refine ⟨l2, ms, rfl, hm2.same (s2.trans (s3.trans s4)), hml, fun p2 H5 s5 hP2 => ?_⟩
    have s15 := s2.trans (s3.trans (s4.trans s5))
    walk_at "go"
    refine ⟨by show 2 ≤ sizeLine; decide, fun pb n6 => ?_⟩
    have s6 := same_new (o := .lst [.ref l, .ref m]) n6
    have epb : upd H5 pb (.lst [.ref l, .ref m]) pb = some (.lst [.ref l, .ref m]) := upd_same
    generalize upd H5 pb (.lst [.ref l, .ref m]) = H6 at *
    have s16 := s15.trans s6
    have s06 := s1.trans s16
    walk_at "go"
    refine go_neD (d := .list [.list (ms.map mD), .list (row.map PyData.int)]) (.lst (.of (s6 _ _ (s5 _ _ epa4))) (.cons (.lst (.of (s16 _ _ el2)) (dpAll_same s06 _ _ dmx)) (.cons (.lst (.of (s6 _ _ (s5 _ _ (s4 _ _ (s3 _ _ em2))))) (ints_dp row)) .nil))) (.lst (.of epb) (.cons (.lst (.of (s06 _ _ emx)) (dpAll_same s06 _ _ dmx)) (.cons (.lst (.of (s06 _ _ hrow)) (ints_dp row)) .nil))) (passed_shaped hm.ok.ok) ?_
    have hP1 := hP1.same (s5.trans s6)
    have hP2 := hP2.same s6
    walk_at "go"
    obtain ⟨dxp, Dp0, psr, lsr, ep, eDp, pl1, pl2, pf⟩ := hP1.ex
    obtain ⟨nrl, nrx, got⟩ := plan_got pl1 pl2 pf
    have nE := hP1.n
    refine ⟨p1, _, _, rfl, ep, rfl, ?_⟩
    walk_at "go"
    refine ⟨p1, dxp, Dp0, nrows psr lsr, rfl, ep, eDp, by omega, nrx, fun D1 ys H7 s7 nD eD yl hent => ?_⟩
    have hG1 := got s7 eD yl hent
    clear nrl nrx got pf ep eDp eD yl hent nE nD pl1 pl2
    have hP2 := hP2.same s7
    walk_at "go"
    obtain ⟨dxp, Dp0, psr, lsr, ep, eDp, pl1, pl2, pf⟩ := hP2.ex
    obtain ⟨nrl, nrx, got⟩ := plan_got pl1 pl2 pf
    have nE := hP2.n
    refine ⟨p2, _, _, rfl, ep, rfl, ?_⟩
    walk_at "go"
    refine ⟨p2, dxp, Dp0, nrows psr lsr, rfl, ep, eDp, by omega, nrx, fun D2 ys H8 s8 nD eD yl hent => ?_⟩
    have hG2 := got s8 eD yl hent
    clear nrl nrx got pf ep eDp eD yl hent nE nD pl1 pl2
    have hG1 := hG1.same s8
    have s08 := s06.trans (s7.trans s8)
    obtain ⟨y1, ey1, yl1, f1⟩ := hG1.ex
    obtain ⟨y2, ey2, yl2, f2⟩ := hG2.ex
    have pel := pureE_len rok.1
    have eel : (evenE ms).length = ms.length := by unfold evenE; rw [List.length_map]
    have emx8 := s08 _ _ emx
    walk_at "go"
    refine go_lenL (.of ey1) ?_
    walk_at "go"
    refine go_lenL (.of emx8) ?_
    walk_at "go"
    rw [show decide ((y1.length : Int) = (mx.length : Int)) = true from decide_eq_true (by omega)]
    walk_at "go"
    refine go_lenL (.of ey2) ?_
    walk_at "go"
    refine go_lenL (.of emx8) ?_
    walk_at "go"
    rw [show decide ((y2.length : Int) = (mx.length : Int)) = true from decide_eq_true (by omega)]
    walk_at "go"
    refine go_lenL (.of emx8) ?_
    walk_at "go"
    refine foR1 (fun i σ' H' => ∃ (v7 v8 v9 : Option V), σ' = [some (.ref l), some (.ref m), some (.ref pa), some (.ref p1), some (.ref p2), some (.ref D1), some (.ref D2), v7, v8, v9, none] ∧ Same H8 H') (by omega) ⟨_, _, _, rfl, Same.refl _⟩ ?_ ?_
    · rintro i σ' H9 hi ⟨v7, v8, v9, rfl, s9⟩
      obtain ⟨mm, em⟩ : ∃ x, ms[i]? = some x := ⟨_, List.getElem?_eq_getElem (by omega)⟩
      have mok := hm.ok.ok mm (List.mem_of_getElem? em)
      have mn := mok.n
      obtain ⟨mv, emv⟩ : ∃ x, row[i]? = some x := ⟨_, List.getElem?_eq_getElem (by have := rok.1; omega)⟩
      have hmv := rok.2 i mm mv em emv
      have io := ind_ok hmv
      obtain ⟨xs', t, v, e1, e2, e3, pt, dv⟩ := (hm.same (s08.trans s9)).get em
      rw [s9 _ _ emx8] at e1
      cases e1
      obtain ⟨t1, ka1, la1, xs1, b1, b2, b3, b4, b5⟩ := f1 i _ (pureE_at em emv)
      obtain ⟨t2, ka2, la2, xs2, c1, c2, c3, c4, c5⟩ := f2 i ⟨mm, 0, 0, List.replicate mm.2.toNat 1⟩ (by unfold evenE; rw [List.getElem?_map, em]; rfl)
      have b29 := s9 _ _ b2
      have c29 := s9 _ _ c2
      have hrow9 := s9 _ _ (s08 _ _ hrow)
      walk_at "go"
      refine go_ixL (.of (s9 _ _ emx8)) (atI_nat e3) ?_
      walk_at "go"
      refine go_ixT pt at_0 ?_
      walk_at "go"
      refine go_ixL (.of (s9 _ _ emx8)) (atI_nat e3) ?_
      walk_at "go"
      refine go_ixT pt at_1 ?_
      walk_at "go"
      refine go_ixL (.of (s9 _ _ ey1)) (atI_nat b1) ?_
      walk_at "go"
      refine go_neD (dp_same s9 _ _ b3) dv mok.vshaped ?_
      walk_at "go"
      refine go_ixL (.of (s9 _ _ ey2)) (atI_nat c1) ?_
      walk_at "go"
      refine go_neD (dp_same s9 _ _ c3) dv mok.vshaped ?_
      walk_at "go"
      refine go_ixL (.of (s9 _ _ ey1)) (atI_nat b1) ?_
      walk_at "go"
      refine lcRh (P := fun H k y => ∃ z p dx, (terms (ind mm.2 mv) (ind mm.2 mv).sum)[k]? = some z ∧ y = .ref p ∧ H p = some (.ins A.c_Ratio dx (rf z.1 z.2))) stays_rat (by omega) (by omega) (fun _ => rfl) ?_ ?_
      · intro k H' hk sH R hR
        walk_at "go"
        refine go_ixL (.of (sH _ _ hrow9)) (show atI (row.map V.int) (i : Int) = some (.int mv) from atI_nat (by rw [List.getElem?_map, emv]; rfl)) ?_
        walk_at "go"
        intro z dz hz hdz hne2
        refine ⟨z, dz, _, 1, rfl, upd_same, by decide, Nat.one_lt_two_pow (by decide), fun H4 s4 e4 => ⟨rfl, ?_⟩⟩
        refine hR _ _ (same_made hz hdz s4) ⟨(rN (if (k : Int) = mv then 1 else 0) 1, rD (if (k : Int) = mv then 1 else 0) 1), z, dz, ?_, rfl, ?_⟩
        · rw [io.1]
          unfold terms ind
          rw [List.getElem?_map, List.getElem?_map, List.getElem?_range hk]
          rfl
        · by_cases h0 : (k : Int) = mv
          · rw [decide_eq_true h0] at e4
            rw [if_pos h0]
            exact e4
          · rw [decide_eq_false h0] at e4
            rw [if_neg h0]
            exact e4
      intro E2 zs2 H10 hE2 s10 eE2 hzl hQ
      have hra2 : RatsAt A.c_Ratio H10 zs2 (terms (ind mm.2 mv) (ind mm.2 mv).sum) := rats_of (by rw [hzl, terms_len]; omega) hQ
      have hra1 := (b5.same s9).same s10
      refine ⟨⟨la1, E2, xs1, zs2, rfl, rfl, s10 _ _ (s9 _ _ b4), eE2, by rw [hra1.1, hra2.1], fun u x y hx hy => ?_⟩, fun H11 ex11 => ?_⟩
      · obtain ⟨z, ez⟩ : ∃ z, (terms (ind mm.2 mv) (ind mm.2 mv).sum)[u]? = some z := ⟨_, List.getElem?_eq_getElem (by have := (List.getElem?_eq_some_iff.mp hx).1; rw [hra1.1] at this; exact this)⟩
        obtain ⟨q1, d1, rfl, g1⟩ := hra1.2 u x z hx ez
        obtain ⟨q2, d2, rfl, g2⟩ := hra2.2 u y z hy ez
        exact ⟨q1, q2, d1, d2, _, _, rfl, rfl, g1, g2, d1, d2, z.1, z.2, g1, g2⟩
      have s911 : Same H9 H11 := s10.trans ex11
      clear hra1 hra2
      walk_at "go"
      refine go_ixL (.of (s911 _ _ (s9 _ _ ey2))) (atI_nat c1) ?_
      have c211 := s911 _ _ c29
      walk_at "go"
      have rs : (List.replicate mm.2.toNat (1 : Int)).sum = mm.2 := by rw [rep_sum]; omega
      refine lcRh (P := fun H k y => ∃ z p dx, (terms (List.replicate mm.2.toNat 1) (List.replicate mm.2.toNat (1 : Int)).sum)[k]? = some z ∧ y = .ref p ∧ H p = some (.ins A.c_Ratio dx (rf z.1 z.2))) stays_rat (by omega) (by omega) (fun _ => rfl) ?_ ?_
      · intro k H' hk sH R hR
        walk_at "go"
        intro z dz hz hdz hne2
        refine ⟨z, dz, 1, mm.2, rfl, upd_same, by omega, Nat.lt_of_le_of_lt (m := 3) (by omega) (Nat.lt_of_lt_of_le (by decide : 3 < 2 ^ 2) (Nat.pow_le_pow_right (by decide) (by decide))), fun H4 s4 e4 => ⟨rfl, ?_⟩⟩
        refine hR _ _ (same_made hz hdz s4) ⟨(rN 1 mm.2, rD 1 mm.2), z, dz, ?_, rfl, e4⟩
        unfold terms
        rw [List.getElem?_map, List.getElem?_replicate_of_lt hk, rs]
        rfl
      intro E3 zs3 H12 hE3 s12' eE3 hzl3 hQ3
      have hra2 : RatsAt A.c_Ratio H12 zs3 (terms (List.replicate mm.2.toNat 1) (List.replicate mm.2.toNat (1 : Int)).sum) := rats_of (by rw [hzl3, terms_len, List.length_replicate]) hQ3
      have hra1 := ((c5.same s9).same s911).same s12'
      refine ⟨⟨la2, E3, xs2, zs3, rfl, rfl, s12' _ _ (s911 _ _ (s9 _ _ c4)), eE3, by rw [hra1.1, hra2.1], fun u x y hx hy => ?_⟩, fun H13 ex13 => ?_⟩
      · obtain ⟨z, ez⟩ : ∃ z, (terms (List.replicate mm.2.toNat 1) (List.replicate mm.2.toNat (1 : Int)).sum)[u]? = some z := ⟨_, List.getElem?_eq_getElem (by have := (List.getElem?_eq_some_iff.mp hx).1; rw [hra1.1] at this; exact this)⟩
        obtain ⟨q1, d1, rfl, g1⟩ := hra1.2 u x z hx ez
        obtain ⟨q2, d2, rfl, g2⟩ := hra2.2 u y z hy ez
        exact ⟨q1, q2, d1, d2, _, _, rfl, rfl, g1, g2, d1, d2, z.1, z.2, g1, g2⟩
      walk_at "go"
      exact ⟨_, _, _, rfl, s9.trans (s911.trans (s12'.trans ex13))⟩
    · rintro σ' H9 ⟨v7, v8, v9, rfl, s9⟩
      walk_at "go"
      exact q H9 (s08.trans s9)
end
end K42

namespace K42
open PySem PySem.Spec PyProof.Rows L2 Gx
section
variable {P : Program} {w : World} {K : PySem.W.Frag} {mg : Str → Option Value} {base : Heap} {A : Ad}
def sp__collect (P : Program) (w : World) (K : PySem.W.Frag) (CE CL CT : Addr) (n : Nat) : Sp := fun vs H Q _ => ∃ (a d : Addr) (tr : Tr) (pl : Int) (ms : List Met), vs = [.ref a, .int pl, .ref d] ∧ TrAt K CE CL CT H (.ref a) tr ∧ DAt P w K H d ms ∧ hgt tr < n ∧ ms.length + szT tr ≤ 1000 ∧ ∀ H', But d H H' → DAt P w K H' d (collD pl tr ms) → Q .non H'
theorem Z__collect {n : Nat} (P : Program) (w : World) (K : PySem.W.Frag) (CE CL CT : Addr) {vs : List V} {H : Hp} {Q : VK} {E : XK} (hn : n = 0) (h : sp__collect P w K CE CL CT n vs H Q E) : False := by
  subst hn
  obtain ⟨a, d, tr, pl, ms, rfl, _, _, hn, _⟩ := h
  omega
theorem R__collect (T : Txt P K mg A) : ∀ n : Nat, FnOk P w K mg base CX0 (n + 1) A.f__collect A.d__collect ["tree", "player", "found"] (sp__collect P w K A.c_End A.c_Lot A.c_Turn n)
  | 0 => ⟨fun vs H Q E h => (Z__collect P w K A.c_End A.c_Lot A.c_Turn rfl h).elim, fun _ _ _ _ _ _ _ _ _ _ _ _ _ h => (Z__collect P w K A.c_End A.c_Lot A.c_Turn rfl h).elim⟩
  | n + 1 => by
    have IH := R__collect T n
    refine (T.F__collect.ok (k := n + 1) sc__collect (fun vs H Q E h => ?_) (fun cdv Ar outer s H vs Q E hr h => ?_))
    · obtain ⟨a, d, tr, pl, ms, rfl, _⟩ := h
      rfl
    · obtain ⟨a, d, tr, pl, ms, rfl, ht, hD, hn, hsz, q⟩ := h
      have cE := T.cl_End
      have cL := T.cl_Lot
      have cT := T.cl_Turn
      have nE := T.na_End_paid
      have nL := T.na_Lot_parts
      have nT1 := T.na_Turn_player
      have nT2 := T.na_Turn_view
      have nT3 := T.na_Turn_parts
      have iE := T.ic_End
      have iL := T.ic_Lot
      have iT := T.ic_Turn
      refine ⟨_, (pss_cons (ps_if (pt_val (pe_callB call_isi (by rfl) T.n_isinstance (by decide +kernel) (pa_cons (pv 0) (pa_cons (pe_glob (v := .ref A.c_End) rfl T.m_End rfl) pa_nil))))
        (pss_one ps_retN)
        pss_nil)
      (pss_cons (ps_if (PW.pt (pw_and (pt_val (pe_callB call_isi (by rfl) T.n_isinstance (by decide +kernel) (pa_cons (pv 0) (pa_cons (pe_glob (v := .ref A.c_Turn) rfl T.m_Turn rfl) pa_nil)))) (pw_and1 (pt_cmpR op_eq (pe_fld (pv 0) rfl) (pv 1) (nomark _)))))
        (pss_one (ps_if (pt_cmpR (op_notInN (Nat.lt_of_le_of_lt (Nat.add_le_add_left (show 9 ≤ 64 by decide) _) hr.units)) (pe_fld (pv 0) rfl) (pv 2) (by rfl))
        (pss_one (ps_asg (pe_callB k_len (by rfl) T.n_len (by decide +kernel) (pa_cons (pe_fld (pv 0) rfl) pa_nil)) (pg_sub (pv 2) (pe_fld (pv 0) rfl) (set_nd (Nat.lt_of_le_of_lt (Nat.add_le_add_left (show 9 ≤ 64 by decide) _) hr.units)))))
        pss_nil))
        pss_nil)
      (pss_one (ps_for PassesOwn.never rfl (pi_tup (pe_fld (pv 0) rfl)) (pg_name (i := 3) sc__collect.nd rfl (Or.inl rfl))
        (pss_one (ps_expr (pe_call IH (hr.mono (by omega)) rfl T.m__collect T.F__collect.kp T.b__collect .nil pass0 (pa_cons (pv 3) (pa_cons (pv 1) (pa_cons (pv 2) pa_nil)))))))))), ?_⟩
      try dsimp only [cxOf, Cx.nox, Cx.wish]
      walk_at "go"
      obtain ⟨rw0, ed, rwl, rwk, rwa, rwf⟩ := hD.row
      cases ht with
      | @fin _ dx p e =>
        refine go_isi (.own _) (.base (.ins e cE iE.ha iE.hn iE.htk iE.hm)) T.ki_End_End ?_
        walk_at "go"
        exact q H (But.refl _ _) hD
      | @lot _ dx t0 xs ps e e2 hs =>
        refine go_isi (.own _) (.base (.ins e cL iL.ha iL.hn iL.htk iL.hm)) T.ki_Lot_End ?_
        walk_at "go"
        refine go_isi (.own _) (.base (.ins e cL iL.ha iL.hn iL.htk iL.hm)) T.ki_Lot_Turn ?_
        walk_at "go"
        have xl := trsAt_len hs
        have hn2 : hgts ps < n := by
          have : hgt (.lot ps) = hgts ps + 1 := rfl
          omega
        have hsz2 : ms.length + szTs ps + 1 ≤ 1000 := by
          have : szT (.lot ps) = szTs ps + 1 := rfl
          omega
        have q : ∀ H', But d H H' → DAt P w K H' d (collsD pl ps ms) → Q .non H' := q
        walk_at "go"
        refine foTp xs (fun i σ' H' => ∃ v3, σ' = [some (.ref a), some (.int pl), some (.ref d), v3] ∧ But d H H' ∧ DAt P w K H' d (collsD pl (ps.take i) ms)) ⟨_, rfl, But.refl _ _, hD⟩ ?_ ?_ ?_
        · rintro i σ' H' _ ⟨v3, rfl, B, _⟩
          exact .of (B _ _ (ne_of e2 ed (by intro z; cases z)) e2)
        · rintro i x σ' H' hx ⟨v3, rfl, B, hD'⟩
          have hi := (List.getElem?_eq_some_iff.mp hx).1
          obtain ⟨t, et⟩ : ∃ t, ps[i]? = some t := ⟨_, List.getElem?_eq_getElem (by omega)⟩
          obtain ⟨x', hx', ht⟩ := trsAt_get hs et
          rw [hx] at hx'
          cases hx'
          have ht' := trAt_off B.off (noT_nd ed).1 (noT_nd ed).2 _ _ ht
          obtain ⟨ta, rfl⟩ : ∃ ta, x = .ref ta := by cases ht <;> exact ⟨_, rfl⟩
          have hh := hgts_mem (List.mem_of_getElem? et)
          have hz := szTs_take et
          have hl := colls_len (pl := pl) (ps.take i) ms
          walk_at "go"
          refine ⟨ta, d, t, pl, _, rfl, ht', hD', by omega, by omega, fun H3 B3 hD3 => ?_⟩
          walk_at "go"
          refine ⟨_, rfl, B.trans B3, ?_⟩
          rw [List.take_add_one, et, Option.toList_some, collsD_snoc]
          exact hD3
        · rintro σ' H' ⟨v3, rfl, B, hD'⟩
          rw [xl, List.take_length] at hD'
          walk_at "go"
          exact q H' (B) hD'
      | @turn _ dx v t0 pl' vd xs ps e dv iv e2 hs =>
        refine go_isi (.own _) (.base (.ins e cT iT.ha iT.hn iT.htk iT.hm)) T.ki_Turn_End ?_
        walk_at "go"
        refine go_isi (.own _) (.base (.ins e cT iT.ha iT.hn iT.htk iT.hm)) T.ki_Turn_Turn ?_
        walk_at "go"
        have xl := trsAt_len hs
        have hn2 : hgts ps < n := by
          have : hgt (.turn pl' vd ps) = hgts ps + 1 := rfl
          omega
        have hsz2 : ms.length + szTs ps + 1 ≤ 1000 := by
          have : szT (.turn pl' vd ps) = szTs ps + 1 := rfl
          omega
        have q : ∀ H', But d H H' → DAt P w K H' d (collsD pl ps (if pl' = pl then kAdd ms (vd, (ps.length : Int)) else ms)) → Q .non H' := q
        by_cases hp : pl' = pl
        · rw [if_pos hp] at q
          rw [decide_eq_true hp]
          walk_at "go"
          refine ⟨v, d, .tuple vd, rw0, rfl, rfl, .inl ed, rwk, iv.plain.1, by have := iv.plain.2; omega, dv, ?_⟩
          rw [rwa]
          refine ⟨_, rfl, ?_⟩
          cases hc : ms.any fun z => decide (keyD (.tuple z.1) = keyD (.tuple vd)) with
          | true =>
            have ek : kAdd ms (vd, (ps.length : Int)) = ms := if_pos hc
            rw [ek] at q
            walk_at "go"
            refine foTp xs (fun i σ' H' => ∃ v3, σ' = [some (.ref a), some (.int pl), some (.ref d), v3] ∧ But d H H' ∧ DAt P w K H' d (collsD pl (ps.take i) ms)) ⟨_, rfl, But.refl _ _, hD⟩ ?_ ?_ ?_
            · rintro i σ' H' _ ⟨v3, rfl, B, _⟩
              exact .of (B _ _ (ne_of e2 ed (by intro z; cases z)) e2)
            · rintro i x σ' H' hx ⟨v3, rfl, B, hD'⟩
              have hi := (List.getElem?_eq_some_iff.mp hx).1
              obtain ⟨t, et⟩ : ∃ t, ps[i]? = some t := ⟨_, List.getElem?_eq_getElem (by omega)⟩
              obtain ⟨x', hx', ht⟩ := trsAt_get hs et
              rw [hx] at hx'
              cases hx'
              have ht' := trAt_off B.off (noT_nd ed).1 (noT_nd ed).2 _ _ ht
              obtain ⟨ta, rfl⟩ : ∃ ta, x = .ref ta := by cases ht <;> exact ⟨_, rfl⟩
              have hh := hgts_mem (List.mem_of_getElem? et)
              have hz := szTs_take et
              have hl := colls_len (pl := pl) (ps.take i) ms
              walk_at "go"
              refine ⟨ta, d, t, pl, _, rfl, ht', hD', by omega, by omega, fun H3 B3 hD3 => ?_⟩
              walk_at "go"
              refine ⟨_, rfl, B.trans B3, ?_⟩
              rw [List.take_add_one, et, Option.toList_some, collsD_snoc]
              exact hD3
            · rintro σ' H' ⟨v3, rfl, B, hD'⟩
              rw [xl, List.take_length] at hD'
              walk_at "go"
              exact q H' (B) hD'
          | false =>
            have ek : kAdd ms (vd, (ps.length : Int)) = ms ++ [(vd, (ps.length : Int))] := if_neg (by show ¬ (ms.any fun z => decide (keyD (.tuple z.1) = keyD (.tuple vd))) = true; rw [hc]; decide)
            rw [ek] at q
            walk_at "go"
            refine go_lenT (.of e2) ?_
            walk_at "go"
            have nn : nAt rw0 (keyD (.tuple vd)) = none := by
              have := rwa (keyD (.tuple vd))
              rw [hc] at this
              cases z : nAt rw0 (keyD (.tuple vd)) with
              | none => rfl
              | some u => rw [z] at this; cases this
            refine go_setN (.inl ed) rwk (by omega) iv.plain.1 (by have := iv.plain.2; omega) dv nn ?_
            rw [xl]
            have B2 : But d H (upd H d (ndO P w d (rw0 ++ [(.tuple vd, v, .int (ps.length : Int))]))) := (But.refl d H).upd
            have nt := noT_nd ed
            have ed2 : upd H d (ndO P w d (rw0 ++ [(.tuple vd, v, .int (ps.length : Int))])) d = some (ndO P w d (rw0 ++ [(.tuple vd, v, .int (ps.length : Int))])) := upd_same
            generalize upd H d (ndO P w d (rw0 ++ [(.tuple vd, v, .int (ps.length : Int))])) = H2 at *
            have hD2 : DAt P w K H2 d (ms ++ [(vd, (ps.length : Int))]) := ⟨⟨_, ed2, by rw [List.length_append, List.length_append, rwl]; rfl, fun k m hk => by
              rcases Nat.lt_or_ge k ms.length with z | z
              · rw [List.getElem?_append_left z] at hk
                obtain ⟨v', g1, g2⟩ := rwf k m hk
                exact ⟨v', by rw [List.getElem?_append_left (by omega)]; exact g1, dp_off B2.off nt.1 _ _ (hD.ok m (List.mem_of_getElem? hk)).plain.1 g2⟩
              · have hk2 := (List.getElem?_eq_some_iff.mp hk).1
                rw [List.length_append, List.length_singleton] at hk2
                obtain rfl : k = ms.length := by omega
                rw [List.getElem?_append_right (Nat.le_refl _), Nat.sub_self] at hk
                cases hk
                exact ⟨v, by rw [List.getElem?_append_right (by omega), rwl, Nat.sub_self]; rfl, dp_off B2.off nt.1 _ _ iv.plain.1 dv⟩⟩, fun m hm => by
              rcases List.mem_append.mp hm with hm | hm
              · exact hD.ok m hm
              · rw [List.mem_singleton.mp hm]; exact iv⟩
            have e22 : H2 t0 = some (.tup xs) := B2 _ _ (ne_of e2 ed (by intro z; cases z)) e2
            have e11 : H2 a = some (.ins A.c_Turn dx (F_Turn (.int pl') (.ref v) (.ref t0))) := B2 _ _ (ne_of e ed (by intro z; cases z)) e
            have hs2 := trsAt_off B2.off nt.1 nt.2 _ _ hs
            have lk : (ms ++ [(vd, (ps.length : Int))]).length = ms.length + 1 := by rw [List.length_append]; rfl
            walk_at "go"
            refine foTp xs (fun i σ' H' => ∃ v3, σ' = [some (.ref a), some (.int pl), some (.ref d), v3] ∧ But d H2 H' ∧ DAt P w K H' d (collsD pl (ps.take i) (ms ++ [(vd, (ps.length : Int))]))) ⟨_, rfl, But.refl _ _, hD2⟩ ?_ ?_ ?_
            · rintro i σ' H' _ ⟨v3, rfl, B, _⟩
              exact .of (B _ _ (ne_of e22 ed2 (by intro z; cases z)) e22)
            · rintro i x σ' H' hx ⟨v3, rfl, B, hD'⟩
              have hi := (List.getElem?_eq_some_iff.mp hx).1
              obtain ⟨t, et⟩ : ∃ t, ps[i]? = some t := ⟨_, List.getElem?_eq_getElem (by omega)⟩
              obtain ⟨x', hx', ht⟩ := trsAt_get hs2 et
              rw [hx] at hx'
              cases hx'
              have ht' := trAt_off B.off (noT_nd ed2).1 (noT_nd ed2).2 _ _ ht
              obtain ⟨ta, rfl⟩ : ∃ ta, x = .ref ta := by cases ht <;> exact ⟨_, rfl⟩
              have hh := hgts_mem (List.mem_of_getElem? et)
              have hz := szTs_take et
              have hl := colls_len (pl := pl) (ps.take i) (ms ++ [(vd, (ps.length : Int))])
              walk_at "go"
              refine ⟨ta, d, t, pl, _, rfl, ht', hD', by omega, by omega, fun H3 B3 hD3 => ?_⟩
              walk_at "go"
              refine ⟨_, rfl, B.trans B3, ?_⟩
              rw [List.take_add_one, et, Option.toList_some, collsD_snoc]
              exact hD3
            · rintro σ' H' ⟨v3, rfl, B, hD'⟩
              rw [xl, List.take_length] at hD'
              walk_at "go"
              exact q H' (B2.trans B) hD'
        · rw [if_neg hp] at q
          rw [decide_eq_false hp]
          walk_at "go"
          refine foTp xs (fun i σ' H' => ∃ v3, σ' = [some (.ref a), some (.int pl), some (.ref d), v3] ∧ But d H H' ∧ DAt P w K H' d (collsD pl (ps.take i) ms)) ⟨_, rfl, But.refl _ _, hD⟩ ?_ ?_ ?_
          · rintro i σ' H' _ ⟨v3, rfl, B, _⟩
            exact .of (B _ _ (ne_of e2 ed (by intro z; cases z)) e2)
          · rintro i x σ' H' hx ⟨v3, rfl, B, hD'⟩
            have hi := (List.getElem?_eq_some_iff.mp hx).1
            obtain ⟨t, et⟩ : ∃ t, ps[i]? = some t := ⟨_, List.getElem?_eq_getElem (by omega)⟩
            obtain ⟨x', hx', ht⟩ := trsAt_get hs et
            rw [hx] at hx'
            cases hx'
            have ht' := trAt_off B.off (noT_nd ed).1 (noT_nd ed).2 _ _ ht
            obtain ⟨ta, rfl⟩ : ∃ ta, x = .ref ta := by cases ht <;> exact ⟨_, rfl⟩
            have hh := hgts_mem (List.mem_of_getElem? et)
            have hz := szTs_take et
            have hl := colls_len (pl := pl) (ps.take i) ms
            walk_at "go"
            refine ⟨ta, d, t, pl, _, rfl, ht', hD', by omega, by omega, fun H3 B3 hD3 => ?_⟩
            walk_at "go"
            refine ⟨_, rfl, B.trans B3, ?_⟩
            rw [List.take_add_one, et, Option.toList_some, collsD_snoc]
            exact hD3
          · rintro σ' H' ⟨v3, rfl, B, hD'⟩
            rw [xl, List.take_length] at hD'
            walk_at "go"
            exact q H' (B) hD'
end
end K42

namespace K42
open PySem PySem.Spec PyProof.Rows L2 Gx
section
variable {P : Program} {w : World} {K : PySem.W.Frag} {mg : Str → Option Value} {base : Heap} {A : Ad}
def sp_views_of (P : Program) (w : World) (K : PySem.W.Frag) (CE CL CT : Addr) : Sp := fun vs H Q _ => ∃ (a : Addr) (tr : Tr) (pl : Int), vs = [.ref a, .int pl] ∧ TrAt K CE CL CT H (.ref a) tr ∧ hgt tr < 6 ∧ szT tr ≤ 1000 ∧ ∀ (r : Addr) (xs : List V) H', Same H H' → H r = none → H' r = some (.lst xs) → DpAll K H' xs ((collD pl tr []).map mD) → Q (.ref r) H'
theorem G_views_of (T : Txt P K mg A) : FnOk P w K mg base CX0 8 A.f_views_of A.d_views_of ["tree", "player"] (sp_views_of P w K A.c_End A.c_Lot A.c_Turn) := by
  refine (T.F_views_of.ok (k := 7) sc_views_of (fun vs H Q E h => ?_) (fun cdv Ar outer s H vs Q E hr h => ?_))
  · obtain ⟨a, tr, pl, rfl, _⟩ := h
    rfl
  · obtain ⟨a, tr, pl, rfl, ht, hh, hz, q⟩ := h
    refine ⟨_, (pss_cons (ps_set (i := 2) sc_views_of.nd rfl (Or.inl rfl) pe_dnewN)
      (pss_cons (ps_expr (pe_call (R__collect T 6) (hr.mono (by decide)) rfl T.m__collect T.F__collect.kp T.b__collect .nil pass0 (pa_cons (pv 0) (pa_cons (pv 1) (pa_cons (pv 2) pa_nil)))))
      (pss_one (ps_ret (pe_lock (pe_lc (own := [("view", 3), ("count", 4)]) (g := _) (tt := tYes) rfl sc_views_of.nd (pi_itemsN (pv 2)) (blkOk_by (N := ["tree", "player", "found", "view", "count"]) (sc := defScope s_views_of) (by decide +kernel)) (fun _ _ _ _ _ => (pg_tupK (K := K) (n := 2) rfl rfl (pgs_cons (pg_name (i := 3) sc_views_of.nd rfl (Or.inl rfl)) (pgs_cons (pg_name (i := 4) sc_views_of.nd rfl (Or.inl rfl)) pgs_nil)))) (fun _ _ _ _ _ => by exact pts_nil) (fun _ _ _ _ _ => by exact (pe_tup (pa_cons (pv 3) (pa_cons (pv 4) pa_nil)))))))))), ?_⟩
    try dsimp only [cxOf, Cx.nox, Cx.wish]
    walk_at "go"
    intro d hd
    have s0 := same_new (o := ndO P w d []) hd
    have e0 : upd H d (ndO P w d []) d = some (ndO P w d []) := upd_same
    generalize upd H d (ndO P w d []) = H0 at *
    walk_at "go"
    refine ⟨a, d, tr, pl, [], rfl, trAt_same s0 ht, ⟨⟨[], e0, rfl, fun k m h => by simp at h⟩, fun m h => nomatch h⟩, hh, by rw [List.length_nil]; omega, fun H1 B1 hD => ?_⟩
    walk_at "go"
    obtain ⟨xs, ed, xl, xk, _, xf⟩ := hD.row
    have iok := hD.ok
    have mlen := coll_len (pl := pl) tr []
    rw [List.length_nil] at mlen
    generalize collD pl tr [] = ms at *
    refine ⟨d, ndO P w d xs, ed, trivial, fun od => ?_⟩
    have hd2 : upd H1 d (.frz od (ndO P w d xs)) d = some (.frz od (ndO P w d xs)) := upd_same
    have B2 : But d H1 (upd H1 d (.frz od (ndO P w d xs))) := (But.refl d H1).upd
    have nt1 := noT_nd ed
    generalize upd H1 d (.frz od (ndO P w d xs)) = H2 at *
    walk_at "go"
    unfold iItemsN
    walk_at "go"
    refine ⟨d, od, xs, rfl, hd2, fun D hDn => ?_⟩
    have nDd : D ≠ d := fun z => by rw [z, hd2] at hDn; cases hDn
    have hD0 : H1 D = none := by
      cases z : H1 D with
      | none => rfl
      | some o =>
        rw [B2 _ _ nDd z] at hDn
        cases hDn
    refine lc_itemsN (fun i H' => But d H1 H' ∧ H' d = some (.frz od (ndO P w d xs)) ∧ ∃ ys : List V, H' D = some (.lst ys) ∧ DpAll K H' ys ((ms.take i).map mD)) ?_ ?_ ?_ ?_
    · exact ⟨B2.new hDn, by rw [upd_ne (Ne.symm nDd)]; exact hd2, [], upd_same, .nil⟩
    · rintro i H' _ ⟨_, h, _⟩
      exact h
    · rintro i r T H' hr ⟨B, hl, ys, eD, hys⟩ hT
      have hi := (List.getElem?_eq_some_iff.mp hr).1
      obtain ⟨m, em⟩ : ∃ m, ms[i]? = some m := ⟨_, List.getElem?_eq_getElem (by omega)⟩
      obtain ⟨v, g1, g2⟩ := xf i m em
      rw [hr] at g1
      cases g1
      have im := iok m (List.mem_of_getElem? em)
      have dv := dp_off B.off nt1.1 _ _ im.plain.1 g2
      have x1 := same_new (o := .tup [.ref v, .int m.2]) hT
      have eT : SqT K (upd H' T (.tup [.ref v, .int m.2])) T [.ref v, .int m.2] := .of upd_same
      have hyl := dpAll_len hys
      rw [List.length_map, List.length_take] at hyl
      show gTup K 2 _ (.ref T) _ (upd H' T (.tup [.ref v, .int m.2])) _
      generalize upd H' T (.tup [.ref v, .int m.2]) = H3 at *
      refine ⟨T, _, rfl, eT, rfl, ?_⟩
      refine ⟨_, _, rfl, ?_⟩
      refine ⟨_, _, rfl, ?_⟩
      refine ⟨rfl, ?_⟩
      refine ⟨rfl, ?_⟩
      refine go_yes ?_
      refine iteT ?_
      walk_at "go"
      refine ⟨by show 2 ≤ sizeLine; decide, fun t nt => ?_⟩
      have x2 := same_new (o := .tup [.ref v, .int m.2]) nt
      have et : upd H3 t (.tup [.ref v, .int m.2]) t = some (.tup [.ref v, .int m.2]) := upd_same
      generalize upd H3 t (.tup [.ref v, .int m.2]) = H4 at *
      have x12 := x1.trans x2
      have eD4 := x12 _ _ eD
      have o5 : Off (fun c => c = D) H4 (upd H4 D (.lst (ys ++ [.ref t]))) := But.off ((But.refl D H4).upd)
      have nS := noT_lst eD4
      have plainM : ∀ {l : List Met}, (∀ m ∈ l, Itms m.1) → plainKs (l.map mD) = true := fun {l} => by
        induction l with
        | nil => exact fun _ => rfl
        | cons u r ih =>
          intro h
          have h1 := (h u List.mem_cons_self).plain.1
          have h2 := ih fun x hx => h x (List.mem_cons_of_mem _ hx)
          rw [List.map_cons]
          simp only [plainKs, mD, plainK, Bool.and_true] at h1 h2 ⊢
          rw [h1, Bool.true_and]
          exact h2
      refine ⟨ys, eD4, szlt (by omega), fun c o n e => ?_, by rw [upd_ne (Ne.symm nDd)]; exact x12 _ _ hl, ys ++ [.ref t], upd_same, ?_⟩
      · rw [upd_ne (ne_of_none e hD0)]
        exact x12 _ _ (B _ _ n e)
      · rw [List.take_add_one, em, Option.toList_some, List.map_append]
        refine dpAll_append (dpAll_off o5 nS _ _ (plainM fun x hx => iok x (List.mem_of_mem_take hx)) (dpAll_same x12 _ _ hys)) (.cons (dp_off o5 nS _ _ ?_ (.tup (.of et) (.cons (dp_same x12 _ _ dv) (.cons (.int _) .nil)))) .nil)
        have h1 := im.plain.1
        simp only [mD, plainK, plainKs, Bool.and_true] at h1 ⊢
        exact h1
    · rintro H' ⟨B, hl, ys, eD, hys⟩
      rw [xl, List.take_length] at hys
      have o6 : Off (fun c => c = d) H' (upd H' d (ndO P w d xs)) := But.off ((But.refl d H').upd)
      have n6 : NoT (fun c => c = d) H' := fun c zs z => by
        rw [z, hl]
        exact ⟨fun e => (by cases e), fun o e => (by cases e)⟩
      have plainM : ∀ {l : List Met}, (∀ m ∈ l, Itms m.1) → plainKs (l.map mD) = true := fun {l} => by
        induction l with
        | nil => exact fun _ => rfl
        | cons u r ih =>
          intro h
          have h1 := (h u List.mem_cons_self).plain.1
          have h2 := ih fun x hx => h x (List.mem_cons_of_mem _ hx)
          rw [List.map_cons]
          simp only [plainKs, mD, plainK, Bool.and_true] at h1 h2 ⊢
          rw [h1, Bool.true_and]
          exact h2
      refine ⟨hl, q D ys _ (fun c o e => ?_) ?_ (by rw [upd_ne nDd]; exact eD) (dpAll_off o6 n6 _ _ (plainM iok) hys)⟩
      · have cd : c ≠ d := fun z => by rw [z, hd] at e; cases e
        rw [upd_ne cd]
        exact B _ _ cd (B1 _ _ cd (s0 _ _ e))
      · cases z : H D with
        | none => rfl
        | some o =>
          rw [B1 _ _ nDd (s0 _ _ z)] at hD0
          cases hD0
end
end K42

namespace K42
open PySem PySem.Spec PyProof.Rows L2 Gx
section
variable {P : Program} {w : World} {K : PySem.W.Frag} {mg : Str → Option Value} {base : Heap} {A : Ad}
def sp_fits (P : Program) (w : World) (K : PySem.W.Frag) (C CP CE CL CT : Addr) : Sp := fun vs H Q _ => ∃ (p a : Addr) (pl : Int) (tr : Tr) (ms : List Met) (es : List Ent), vs = [.ref p, .ref a, .int pl] ∧ PlanAt P w K C CP H p es ∧ TrAt K CE CL CT H (.ref a) tr ∧ hgt tr < 6 ∧ szT tr ≤ 1000 ∧ collD pl tr [] = ms ∧ Mets ms ∧ ms.length ≤ 1000 ∧ ∀ H', Same H H' → Q (.bl (fitsB ms es)) H'
theorem G_fits (T : Txt P K mg A) : FnOk P w K mg base CX0 9 A.f_fits A.d_fits ["plan", "tree", "player"] (sp_fits P w K A.c_Ratio A.c_Plan A.c_End A.c_Lot A.c_Turn) := by
  refine (T.F_fits.ok (k := 8) sc_fits (fun vs H Q E h => ?_) (fun cdv Ar outer s H vs Q E hr h => ?_))
  · obtain ⟨p, a, pl, tr, ms, es, rfl, _⟩ := h
    rfl
  · obtain ⟨p, a, pl, tr, ms, es, rfl, hP, ht, hh, hz, hms, hm, hml, q⟩ := h
    obtain ⟨dxp, Dp0, psr, lsr, ep, eDp, pl1, pl2, pf⟩ := hP.ex
    have okE := hP.ok
    have bE := hP.b
    have nE' := hP.n
    refine ⟨_, (pss_cons (ps_set (i := 3) sc_fits.nd rfl (Or.inr rfl) (pe_callTy (call_dictN rfl (Nat.lt_of_le_of_lt (Nat.add_le_add_left (show 10 ≤ 64 by decide) _) hr.units)) (by rfl) T.n_dict (by decide +kernel) (pa_cons (pe_call (G_views_of (w := w) T) (hr.mono (by decide)) rfl T.m_views_of T.F_views_of.kp T.b_views_of .nil pass0 (pa_cons (pv 1) (pa_cons (pv 2) pa_nil))) pa_nil)))
      (pss_one (ps_ret (pe_callB (cr_all rfl) (by rfl) T.n_all (by decide +kernel) (pa_cons (pe_lc (own := [("view", 4), ("lots", 5)]) (g := _) (tt := tYes) rfl sc_fits.nd (pi_list (pe_meth0 (pv 0) T.cl_Plan T.me_Plan_entries (G_Plan_entries (w := w) T) (hr.mono (by decide)) T.b_Plan_entries .nil pass0)) (blkOk_by (N := ["plan", "tree", "player", "counts", "view", "lots"]) (sc := defScope s_fits) (by decide +kernel)) (fun _ _ _ _ _ => (pg_tupK (K := K) (n := 2) rfl rfl (pgs_cons (pg_name (i := 4) sc_fits.nd rfl (Or.inl rfl)) (pgs_cons (pg_name (i := 5) sc_fits.nd rfl (Or.inl rfl)) pgs_nil)))) (fun _ _ _ _ _ => by exact pts_nil) (fun _ _ _ _ _ => by exact (pe_cmpR op_eq (pe_bmNK (P := P) (w := w) rfl rfl PySem.F.plainAttrs_dict PySem.F.slot_dict_get PySem.F.type_dict_get (mt_getNK (P := P) (w := w) (K := K) rfl rfl rfl (Nat.lt_of_le_of_lt (Nat.add_le_add_left (show 9 ≤ 64 by decide) _) hr.units)) (pv 3) (pa_cons (pv 4) (pa_cons pe_int pa_nil))) (pe_callB (k_lenK (K := K) rfl) (by rfl) T.n_len (by decide +kernel) (pa_cons (pv 5) pa_nil)) (nomark _)))) pa_nil))))), ?_⟩
    try dsimp only [cxOf, Cx.nox, Cx.wish]
    walk_at "go"
    refine ⟨a, tr, pl, rfl, ht, hh, hz, fun r xs H1 s1 n1 er hd => ?_⟩
    rw [hms] at hd
    obtain ⟨rows, a1, a2, a3, a4, a5, a6⟩ := rows_exist hd
    have nk : NKeys K H1 rows := fun x hx => by
      obtain ⟨m, hmm, e1, e2⟩ := a5 x hx
      have v := (hm.ok m hmm).view
      rw [e1] at e2 ⊢
      exact ⟨v.1, by have := v.2.2.2; omega, e2⟩
    have nd : (rows.map fun x => keyD x.1).Nodup := by
      rw [a3]
      exact (List.pairwise_map (f := fun m : Met => keyD (.tuple m.1))).mpr (mets_keys hm)
    walk_at "go"
    refine go_dictN rows (.of er) a1 a6 nk nd (by omega) fun d hdn => ?_
    have s2 := same_new (o := ndO P w d rows) hdn
    have edd : upd H1 d (ndO P w d rows) d = some (ndO P w d rows) := upd_same
    generalize upd H1 d (ndO P w d rows) = H2 at *
    have s12 := s1.trans s2
    have ep2 := s12 _ _ ep
    walk_at "go"
    refine ⟨p, _, _, rfl, ep2, rfl, ?_⟩
    walk_at "go"
    have nrat : ∀ (k : Nat) x, (nrows psr lsr)[k]? = some x → ∃ r a e, psr[k]? = some r ∧ lsr[k]? = some a ∧ x = (r.d, r.ka, .ref a) ∧ es[k]? = some e ∧ r.d = .tuple e.m.1 ∧ r.rs = terms e.ws e.ws.sum ∧ Dp K H (.ref r.ka) r.d ∧ H a = some (.lst r.xs) ∧ RatsAt A.c_Ratio H r.xs r.rs := fun k x hx => by
      unfold nrows at hx
      rw [List.getElem?_map] at hx
      cases hz : (psr.zip lsr)[k]? with
      | none => rw [hz] at hx; cases hx
      | some y =>
        rw [hz] at hx
        cases hx
        obtain ⟨h1, h2⟩ := List.getElem?_zip_eq_some.mp hz
        obtain ⟨e, b1, b2, b3, b4, b5, b6⟩ := pf k y.1 y.2 h1 h2
        exact ⟨y.1, y.2, e, h1, h2, rfl, b1, b2, b3, b4, b5, b6⟩
    have nrl : (nrows psr lsr).length = es.length := by
      unfold nrows
      rw [List.length_map, List.length_zip]
      omega
    refine ⟨p, dxp, Dp0, nrows psr lsr, rfl, ep2, s12 _ _ eDp, by omega, fun x hx => ?_, fun D ys H3 s3 nD eD yl hent => ?_⟩
    · obtain ⟨k, hk⟩ := List.mem_iff_getElem?.mp hx
      obtain ⟨r, a, e, _, _, rfl, _, _, _, _, b5, _⟩ := nrat k x hk
      exact ⟨a, r.xs, rfl, s12 _ _ b5⟩
    have s13 := s12.trans s3
    walk_at "go"
    refine ⟨D, rfl, ⟨ys, .of eD⟩, fun D2 hD2 => ?_⟩
    refine lc_list (xs := ys) (fun i H' => Same H3 H' ∧ H' D2 = some (.lst (((es.take i).map fun e => decide (cntD ms e.m.1 = (e.ws.length : Int))).map V.bl))) ⟨same_new hD2, upd_same⟩ ?_ ?_ ?_
    · rintro i H' _ ⟨s, _⟩
      exact .of (s _ _ eD)
    · rintro i y H4 hy ⟨s4, eD4⟩
      have hi := (List.getElem?_eq_some_iff.mp hy).1
      obtain ⟨x, t, l2, la, lss, hx, hxl, hla, rfl, ht4, hl2, _, _⟩ := hent i y hy
      obtain ⟨r, a', e, hr, ha, rfl, he, b2, b3, b4, b5, b6⟩ := nrat i x hx
      have okm := okE e (List.mem_of_getElem? he)
      cases hxl
      rw [s12 _ _ b5] at hla
      cases hla
      have tl : r.xs.length = e.ws.length := by rw [b6.1, b3, terms_len]
      have s14 := s13.trans s4
      have v := okm.view
      have dk := dp_same s14 _ _ b4
      have edd4 := s4 _ _ (s3 _ _ edd)
      have nk4 : NKeys K H4 rows := nk.imp fun d v _ h => dp_same (s2.trans (s3.trans s4)) _ _ h
      have tk : es.take (i + 1) = es.take i ++ [e] := by rw [List.take_add_one, he]; rfl
      refine ⟨t, _, rfl, .of (s4 _ _ ht4), rfl, ?_⟩
      walk_at "go"
      refine ⟨rfl, go_yes (iteT ?_)⟩
      walk_at "go"
      unfold tBMN
      walk_at "go"
      refine ⟨⟨d, rows, rfl, .inl edd4⟩, ?_⟩
      walk_at "go"
      refine go_getN (.inl edd4) nk4 (by rw [b2]; exact v.1) (by rw [b2]; have := v.2.2.2; omega) dk ?_
      have ev : (nAt rows (keyD r.d)).getD (.int 0) = .int (cntD ms e.m.1) := by
        rw [b2, a4]
        unfold cntD
        cases ms.find? fun m => decide (keyD (.tuple m.1) = keyD (.tuple e.m.1)) <;> rfl
      rw [ev]
      walk_at "go"
      refine go_lenL (.of (s4 _ _ hl2)) ?_
      rw [tl]
      walk_at "go"
      refine ⟨_, eD4, szlt (by rw [List.length_map, List.length_map, List.length_take]; omega), same_mut s4 hD2, ?_⟩
      rw [tk, List.map_append, List.map_append]
      exact upd_same
    · rintro H4 ⟨s4, eD4⟩
      rw [yl, nrl, List.take_length] at eD4
      walk_at "go"
      refine go_all (.of eD4) ?_
      have e : ((es.map fun e => decide (cntD ms e.m.1 = (e.ws.length : Int))).all id) = fitsB ms es := by
        unfold fitsB
        rw [List.all_map]
        rfl
      rw [e]
      walk_at "go"
      exact q H4 (s13.trans s4)
end
end K42

namespace K42
open PySem PySem.Spec PyProof.Rows L2 Gx
section
variable {P : Program} {w : World} {K : PySem.W.Frag} {mg : Str → Option Value} {base : Heap} {A : Ad}
def sp__law_node (P : Program) (w : World) (K : PySem.W.Frag) (CE CL CT : Addr) (n : Nat) : Sp := fun vs H Q _ => ∃ (l pd p : Addr) (st : List Stg) (paid path : List Int), vs = [.ref l, .ref pd, .ref p] ∧ StAt H l st ∧ H pd = some (.lst (paid.map V.int)) ∧ H p = some (.lst (path.map V.int)) ∧ path.length ≤ st.length ∧ st.length - path.length < n ∧ (paid.length : Int) = prodN st ∧ PathIn st path ∧ ∀ z H', Same H H' → TrAt K CE CL CT H' (.ref z) (nodeD st paid (st.length - path.length) path) → Q (.ref z) H'
theorem Z__law_node {n : Nat} (P : Program) (w : World) (K : PySem.W.Frag) (CE CL CT : Addr) {vs : List V} {H : Hp} {Q : VK} {E : XK} (hn : n = 0) (h : sp__law_node P w K CE CL CT n vs H Q E) : False := by
  subst hn
  obtain ⟨l, pd, p, st, paid, path, rfl, _, _, _, _, hn, _⟩ := h
  omega
theorem R__law_node (T : Txt P K mg A) : ∀ n : Nat, FnOk P w K mg base CX0 (n + 4) A.f__law_node A.d__law_node ["_law_stages_here", "_law_paid", "_law_path"] (sp__law_node P w K A.c_End A.c_Lot A.c_Turn n)
  | 0 => ⟨fun vs H Q E h => (Z__law_node P w K A.c_End A.c_Lot A.c_Turn rfl h).elim, fun _ _ _ _ _ _ _ _ _ _ _ _ _ h => (Z__law_node P w K A.c_End A.c_Lot A.c_Turn rfl h).elim⟩
  | n + 1 => by
    have IH := R__law_node T n
    refine (T.F__law_node.ok (k := n + 4) sc__law_node (fun vs H Q E h => ?_) (fun cdv Ar outer s H vs Q E hr h => ?_))
    · obtain ⟨l, pd, p, st, paid, path, rfl, _⟩ := h
      rfl
    · obtain ⟨l, pd, p, st, paid, path, rfl, hst, hpd, hp, hpl, hn, hpaid, hin, q⟩ := h
      refine ⟨_, (pss_cons (ps_if (pt_cmpR op_eq (pe_callB k_len (by rfl) T.n_len (by decide +kernel) (pa_cons (pv 2) pa_nil)) (pe_callB k_len (by rfl) T.n_len (by decide +kernel) (pa_cons (pv 0) pa_nil)) (nomark _))
        (pss_cons (ps_set (i := 3) sc__law_node.nd rfl (Or.inl rfl) pe_int)
      (pss_cons (ps_for PassesOwn.never rfl (pi_range1 rfl T.n_range (pa_cons (pe_callB k_len (by rfl) T.n_len (by decide +kernel) (pa_cons (pv 2) pa_nil)) pa_nil)) (pg_name (i := 4) sc__law_node.nd rfl (Or.inl rfl))
        (pss_one (ps_set (i := 3) sc__law_node.nd rfl (Or.inl rfl) (pe_op op_add (pe_op op_mul (pv 3) (pe_ix ix_tup (pe_ix ix_list (pv 0) (pv 4) (fun _ _ => rfl)) pe_int (fun _ _ => rfl))) (pe_ix ix_list (pv 2) (pv 4) (fun _ _ => rfl))))))
      (pss_one (ps_ret (pe_make T.mk_End (G_End___init__ (w := w) T) (hr.mono (by omega)) rfl T.m_End T.b_End___init__ .nil pass0 (pa_cons (pe_ix ix_list (pv 1) (pv 3) (fun _ _ => rfl)) pa_nil))))))
        pss_nil)
      (pss_cons (ps_set (i := 5) sc__law_node.nd rfl (Or.inl rfl) (pe_ix ix_list (pv 0) (pe_callB k_len (by rfl) T.n_len (by decide +kernel) (pa_cons (pv 2) pa_nil)) (fun _ _ => rfl)))
      (pss_cons (ps_set (i := 6) sc__law_node.nd rfl (Or.inl rfl) (pe_lst pa_nil))
      (pss_cons (ps_for PassesOwn.never rfl (pi_range1 rfl T.n_range (pa_cons (pe_ix ix_tup (pv 5) pe_int (fun _ _ => rfl)) pa_nil)) (pg_name (i := 4) sc__law_node.nd rfl (Or.inl rfl))
        (pss_one (ps_expr (pe_bm PySem.F.plainAttrs_list PySem.F.slot_list_append PySem.F.type_list_append mt_append (pv 6) (pa_cons (pe_call IH (hr.mono (by omega)) rfl T.m__law_node T.F__law_node.kp T.b__law_node .nil pass0 (pa_cons (pv 0) (pa_cons (pv 1) (pa_cons (pe_op op_cat (pv 2) (pe_lst (pa_cons (pv 4) pa_nil))) pa_nil)))) pa_nil)))))
      (pss_cons (ps_if (pt_cmpR op_eq (pe_ix ix_tup (pv 5) pe_int (fun _ _ => rfl)) pe_int (nomark _))
        (pss_one (ps_ret (pe_make T.mk_Lot (G_Lot___init__ (w := w) T) (hr.mono (by omega)) rfl T.m_Lot T.b_Lot___init__ .nil pass0 (pa_cons (pe_callTy k_tuple_of (by rfl) T.n_tuple (by decide +kernel) (pa_cons (pv 6) pa_nil)) pa_nil))))
        pss_nil)
      (pss_one (ps_ret (pe_make T.mk_Turn (G_Turn___init__ (w := w) T) (hr.mono (by omega)) rfl T.m_Turn T.b_Turn___init__ .nil pass0 (pa_cons (pe_ix ix_tup (pv 5) pe_int (fun _ _ => rfl)) (pa_cons (pe_call (G__law_asked T) (hr.mono (by omega)) rfl T.m__law_asked T.F__law_asked.kp T.b__law_asked .nil pass0 (pa_cons (pv 0) (pa_cons (pv 2) pa_nil))) (pa_cons (pe_callTy k_tuple_of (by rfl) T.n_tuple (by decide +kernel) (pa_cons (pv 6) pa_nil)) pa_nil))))))))))), ?_⟩
      try dsimp only [cxOf, Cx.nox, Cx.wish]
      walk_at "go"
      refine go_lenL (.of hp) ?_
      rw [List.length_map]
      walk_at "go"
      obtain ⟨sx, esx, hsl, hsf⟩ := hst.ex
      have h4 := hst.le
      refine go_lenL (.of esx) ?_
      rw [hsl]
      walk_at "go"
      by_cases he : path.length = st.length
      · rw [decide_eq_true (show (path.length : Int) = st.length by omega)]
        walk_at "go"
        refine go_lenL (.of hp) ?_
        rw [List.length_map]
        walk_at "go"
        refine foR1 (fun i σ' H' => ∃ (v4 : Option V), σ' = [some (.ref l), some (.ref pd), some (.ref p), some (.int (idxD st path i)), v4, none, none] ∧ H' = H) (by omega) ⟨_, rfl, rfl⟩ ?_ ?_
        · rintro i σ' H' hi ⟨v4, rfl, rfl⟩
          obtain ⟨s, es⟩ : ∃ s, st[i]? = some s := ⟨_, List.getElem?_eq_getElem (by omega)⟩
          obtain ⟨x, ex⟩ : ∃ x, path[i]? = some x := ⟨_, List.getElem?_eq_getElem (by omega)⟩
          obtain ⟨xs, t, el, hxl, it, et⟩ := hst.get es
          have hb := hin i x s ex es
          have sn := hst.ok s (List.mem_of_getElem? es)
          have ix : atI (path.map V.int) (i : Int) = some (.int x) := atI_nat (by rw [List.getElem?_map, ex]; rfl)
          have e1 : idxD st path (i + 1) = idxD st path i * s.n + x := by
            show (match st[i]?, path[i]? with | some s, some x => _ | _, _ => _) = _
            rw [es, ex]
          rw [e1]
          generalize idxD st path i = id0
          walk_at "go"
          refine go_ixL (.of el) it ?_
          walk_at "go"
          refine go_ixL (.of hp) ix ?_
          walk_at "go"
          exact ⟨_, rfl, rfl⟩
        · rintro σ' H' ⟨v4, rfl, rfl⟩
          rw [show ((path.length : Int)).toNat = path.length by omega]
          obtain ⟨b1, b2⟩ := idx_bd hin (Nat.le_refl path.length) (by omega)
          rw [he, List.take_length] at b2
          rw [← he] at b2
          walk_at "go"
          refine go_ixL (.of hpd) (at_int b1 (by rw [hpaid]; exact b2)) ?_
          walk_at "go"
          intro z dz hz hdz hne
          refine ⟨z, dz, _, rfl, upd_same, fun H2 B e => ⟨rfl, ?_⟩⟩
          have s2 : Same H' H2 := same_made hz hdz fun c o n e => B c o n e
          refine q z H2 s2 ?_
          rw [show st.length - path.length = 0 by omega]
          exact .fin e
      · have hlt : path.length < st.length := by omega
        rw [decide_eq_false (show ¬ (path.length : Int) = st.length by omega)]
        obtain ⟨s, es⟩ : ∃ s, st[path.length]? = some s := ⟨_, List.getElem?_eq_getElem hlt⟩
        obtain ⟨xs, t, el, hxl, it, et⟩ := hst.get es
        have sn := hst.ok s (List.mem_of_getElem? es)
        obtain ⟨f, hf⟩ : ∃ f, st.length - path.length = f + 1 := ⟨st.length - path.length - 1, by omega⟩
        rw [hf, nodeD_at es] at q
        walk_at "go"
        refine go_lenL (.of hp) ?_
        rw [List.length_map]
        walk_at "go"
        refine go_ixL (.of el) it ?_
        walk_at "go"
        refine ⟨by show 0 ≤ sizeLine; decide, fun L nL => ?_⟩
        have s0 := same_new (o := .lst []) nL
        have eL0 : upd H L (.lst []) L = some (.lst []) := upd_same
        generalize upd H L (.lst []) = H0 at *
        have et0 := s0 _ _ et
        walk_at "go"
        refine foR1 (fun i σ' H' => ∃ (v4 : Option V) (ys : List V), σ' = [some (.ref l), some (.ref pd), some (.ref p), none, v4, some (.ref t), some (.ref L)] ∧ Same H H' ∧ H' L = some (.lst ys) ∧ TrsAt K A.c_End A.c_Lot A.c_Turn H' ys ((List.range i).map fun (j : Nat) => nodeD st paid f (path ++ [(j : Int)]))) (by omega) ⟨_, [], rfl, s0, eL0, .nil⟩ ?_ ?_
        · rintro i σ' H1 hi ⟨v4, ys, rfl, s1, eL, hys⟩
          have yl := trsAt_len hys
          rw [List.length_map, List.length_range] at yl
          walk_at "go"
          refine ⟨.inl ⟨rfl, _, .inl (.inl eL)⟩, ?_⟩
          walk_at "go"
          refine ⟨by show 1 ≤ sizeLine; decide, fun o no => ?_⟩
          have x1 := same_new (o := .lst [.int (i : Nat)]) no
          have y1 : upd H1 o (.lst [.int (i : Nat)]) o = some (.lst [.int (i : Nat)]) := upd_same
          generalize upd H1 o (.lst [.int (i : Nat)]) = G1 at *
          refine go_cat (x1 _ _ (s1 _ _ hp)) y1 (sz (by simp; omega)) fun nw nn => ?_
          have x2 := same_new (o := .lst (path.map V.int ++ [.int (i : Nat)])) nn
          have y2 : upd G1 nw (.lst (path.map V.int ++ [.int (i : Nat)])) nw = some (.lst ((path ++ [(i : Int)]).map V.int)) := by rw [upd_same, List.map_append]; rfl
          generalize upd G1 nw (.lst (path.map V.int ++ [.int (i : Nat)])) = G2 at *
          have x12 := x1.trans x2
          have s12 := s1.trans x12
          walk_at "go"
          refine ⟨l, pd, nw, st, paid, path ++ [(i : Int)], rfl, hst.same s12, s12 _ _ hpd, y2, by rw [List.length_append, List.length_singleton]; omega, by rw [List.length_append, List.length_singleton]; omega, hpaid, path_snoc hin es ⟨by omega, hi⟩, fun z G3 x3 hz => ?_⟩
          have ef : st.length - (path ++ [(i : Int)]).length = f := by rw [List.length_append, List.length_singleton]; omega
          rw [ef] at hz
          have x13 := x12.trans x3
          have eL3 := x13 _ _ eL
          walk_at "go"
          refine go_append eL3 (szlt (by omega)) ?_
          walk_at "go"
          have o5 : Off (fun c => c = L) G3 (upd G3 L (.lst (ys ++ [.ref z]))) := But.off ((But.refl L G3).upd)
          have nS := noT_lst eL3
          have nI : ∀ c C dx fs, c = L → G3 c ≠ some (.ins C dx fs) := fun c C dx fs z => by rw [z, eL3]; intro z; cases z
          refine ⟨_, ys ++ [.ref z], rfl, same_mut (s1.trans x13) nL, upd_same, ?_⟩
          rw [List.range_succ, List.map_append]
          exact trsAt_snoc (trAt_off o5 nS nI _ _ hz) (trsAt_off o5 nS nI _ _ (trsAt_same x13 hys))
        · rintro σ' H1 ⟨v4, ys, rfl, s1, eL, hys⟩
          have et1 := s1 _ _ et
          walk_at "go"
          by_cases hw : s.w = 0
          · rw [if_pos hw] at q
            rw [decide_eq_true hw]
            walk_at "go"
            refine ⟨L, ys, rfl, .inl ⟨.of eL, fun tp ntp => ?_⟩⟩
            have x1 := same_new (o := .tup ys) ntp
            have y1 : upd H1 tp (.tup ys) tp = some (.tup ys) := upd_same
            generalize upd H1 tp (.tup ys) = G1 at *
            walk_at "go"
            intro z dz hz hdz hne
            refine ⟨z, dz, _, rfl, upd_same, fun H2 B e => ⟨rfl, ?_⟩⟩
            have s2 : Same G1 H2 := same_made hz hdz fun c o n e => B c o n e
            exact q z H2 (s1.trans (x1.trans s2)) (.lot e (s2 _ _ y1) (trsAt_same (x1.trans s2) hys))
          · rw [if_neg hw] at q
            rw [decide_eq_false hw]
            walk_at "go"
            refine ⟨l, p, st, path, s, rfl, hst.same s1, s1 _ _ hp, es, fun v G0 x0 dv => ?_⟩
            walk_at "go"
            refine ⟨L, ys, rfl, .inl ⟨.of (x0 _ _ eL), fun tp ntp => ?_⟩⟩
            have x1 := same_new (o := .tup ys) ntp
            have y1 : upd G0 tp (.tup ys) tp = some (.tup ys) := upd_same
            generalize upd G0 tp (.tup ys) = G1 at *
            walk_at "go"
            intro z dz hz hdz hne
            refine ⟨z, dz, _, _, _, rfl, upd_same, fun H2 B e => ⟨rfl, ?_⟩⟩
            have s2 : Same G1 H2 := same_made hz hdz fun c o n e => B c o n e
            exact q z H2 (s1.trans (x0.trans (x1.trans s2))) (.turn e (dp_same (x1.trans s2) _ _ dv) ask_itms (s2 _ _ y1) (trsAt_same (x0.trans (x1.trans s2)) hys))
end
end K42

namespace K42
open PySem PySem.Spec PyProof.Rows L2 Gx
section
variable {P : Program} {w : World} {K : PySem.W.Frag} {mg : Str → Option Value} {base : Heap} {A : Ad}
def sp_law (K : PySem.W.Frag) : Sp := fun vs H Q _ => ∃ (a : Addr) (ns : List Int), vs = [.ref a] ∧ SqL K H a (ns.map V.int) ∧ ns.length ≤ 63 ∧ ∀ H', Q (.bl true) H'
theorem G_law (T : Txt P K mg A) : FnOk P w K mg base CX0 10 A.f_law A.d_law ["_law_script"] (sp_law K) := by
  refine (T.F_law.ok (k := 9) sc_law (fun vs H Q E h => ?_) (fun cdv Ar outer s H vs Q E hr h => ?_))
  · obtain ⟨a, ns, rfl, _⟩ := h
    rfl
  · obtain ⟨a, ns, rfl, hs, hl, q⟩ := h
    refine ⟨_, (pss_cons (ps_set (i := 1) sc_law.nd rfl (Or.inl rfl) (pe_call (G__law_stages T) (hr.mono (by decide)) rfl T.m__law_stages T.F__law_stages.kp T.b__law_stages .nil pass0 (pa_cons (pv 0) (pa_cons pe_int pa_nil))))
      (pss_cons (ps_set (i := 2) sc_law.nd rfl (Or.inl rfl) (pe_call (R__law_node T 5) (hr.mono (by decide)) rfl T.m__law_node T.F__law_node.kp T.b__law_node .nil pass0 (pa_cons (pv 1) (pa_cons (pe_lc (own := [("_law_path", 9)]) (g := gName 9) (tt := tYes) rfl sc_law.nd (pi_list (pe_call (G__law_paths T) (hr.mono (by decide)) rfl T.m__law_paths T.F__law_paths.kp T.b__law_paths .nil pass0 (pa_cons (pv 1) pa_nil))) (blkOk_by (N := ["_law_script", "_law_stages_here", "_law_tree", "_law_player", "_law_views", "_law_digits", "_law_moves", "_law_pair", "_law_strange", "_law_path", "_law_k"]) (sc := defScope s_law) (by decide +kernel)) (fun _ _ _ _ _ => (pg_name (i := 9) sc_law.nd rfl (Or.inl rfl))) (fun _ _ _ _ _ => by exact pts_nil) (fun _ _ _ _ _ => by exact pe_int)) (pa_cons (pe_lst pa_nil) pa_nil)))))
      (pss_cons (ps_set (i := 3) sc_law.nd rfl (Or.inl rfl) (pe_op op_add pe_int (pe_op op_mod (pe_callTy k_int1 (by rfl) T.n_int (by decide +kernel) (pa_cons (pe_call (G__law_cell T) (hr.mono (by decide)) rfl T.m__law_cell T.F__law_cell.kp T.b__law_cell .nil pass0 (pa_cons (pv 0) (pa_cons pe_int pa_nil))) pa_nil)) pe_int)))
      (pss_cons (ps_set (i := 4) sc_law.nd rfl (Or.inr rfl) (pe_call (G__law_met T) (hr.mono (by decide)) rfl T.m__law_met T.F__law_met.kp T.b__law_met .nil pass0 (pa_cons (pv 1) (pa_cons (pv 3) pa_nil))))
      (pss_cons (ps_set (i := 5) sc_law.nd rfl (Or.inr rfl) (pe_call (G__law_row T) (hr.mono (by decide)) rfl T.m__law_row T.F__law_row.kp T.b__law_row .nil pass0 (pa_cons (pe_call (G__law_cell T) (hr.mono (by decide)) rfl T.m__law_cell T.F__law_cell.kp T.b__law_cell .nil pass0 (pa_cons (pv 0) (pa_cons pe_int pa_nil))) (pa_cons (pe_callB k_len (by rfl) T.n_len (by decide +kernel) (pa_cons (pv 4) pa_nil)) (pa_cons pe_int pa_nil)))))
      (pss_cons (ps_setLc (i := 6) (own := [("_law_k", 10)]) (g := gName 10) (tt := tYes) rfl sc_law.nd rfl rfl (sw_true rfl rfl rfl (by decide +kernel)) (pi_range1 rfl T.n_range (pa_cons (pe_callB k_len (by rfl) T.n_len (by decide +kernel) (pa_cons (pv 4) pa_nil)) pa_nil)) (blkOk_by (N := ["_law_script", "_law_stages_here", "_law_tree", "_law_player", "_law_views", "_law_digits", "_law_moves", "_law_pair", "_law_strange", "_law_path", "_law_k"]) (sc := defScope s_law) (by decide +kernel)) (fun _ _ _ _ _ => (pg_name (i := 10) sc_law.nd rfl (Or.inl rfl))) (fun _ _ _ _ _ => by exact pts_nil) (fun _ _ _ _ _ => by exact (pe_op op_mod (pe_callTy k_int1 (by rfl) T.n_int (by decide +kernel) (pa_cons (pe_ix (ix_listK (K := K) rfl) (pv 5) (pv 10) (fun _ _ => rfl)) pa_nil)) (pe_ix (ix_tupK (K := K) rfl) (pe_ix (ix_listK (K := K) rfl) (pv 4) (pv 10) (fun _ _ => rfl)) pe_int (fun _ _ => rfl)))))
      (pss_cons (ps_if (pt_not (pt_val (pe_call (G__law_plans (w := w) T) (hr.mono (by decide)) rfl T.m__law_plans T.F__law_plans.kp T.b__law_plans .nil pass0 (pa_cons (pv 4) (pa_cons (pv 6) pa_nil)))))
        (pss_one (ps_ret pe_bl))
        pss_nil)
      (pss_cons (ps_if (PW.pt (pw_or (pt_not (pt_val (pe_call (G_fits (w := w) T) (hr.mono (by decide)) rfl T.m_fits T.F_fits.kp T.b_fits .nil pass0 (pa_cons (pe_call (G_pure (w := w) T) (hr.mono (by decide)) rfl T.m_pure T.F_pure.kp T.b_pure .nil pass0 (pa_cons (pv 4) (pa_cons (pv 6) pa_nil))) (pa_cons (pv 2) (pa_cons (pv 3) pa_nil)))))) (pw_or1 (pt_not (pt_val (pe_call (G_fits (w := w) T) (hr.mono (by decide)) rfl T.m_fits T.F_fits.kp T.b_fits .nil pass0 (pa_cons (pe_call (G_even (w := w) T) (hr.mono (by decide)) rfl T.m_even T.F_even.kp T.b_even .nil pass0 (pa_cons (pv 4) pa_nil)) (pa_cons (pv 2) (pa_cons (pv 3) pa_nil)))))))))
        (pss_one (ps_ret pe_bl))
        pss_nil)
      (pss_cons (ps_if (pt_not (pt_val (pe_call (G_fits (w := w) T) (hr.mono (by decide)) rfl T.m_fits T.F_fits.kp T.b_fits .nil pass0 (pa_cons (pe_make T.mk_Plan (G_Plan___init__ (w := w) T) (hr.mono (by decide)) rfl T.m_Plan T.b_Plan___init__ .nil passL (pa_cons (pe_lst pa_nil) pa_nil)) (pa_cons (pv 2) (pa_cons (pv 3) pa_nil))))))
        (pss_one (ps_ret pe_bl))
        pss_nil)
      (pss_cons (ps_for PassesOwn.never rfl (pi_list (pe_slice sl_list (pe_call (G__law_met T) (hr.mono (by decide)) rfl T.m__law_met T.F__law_met.kp T.b__law_met .nil pass0 (pa_cons (pv 1) (pa_cons (pe_op op_sub pe_int (pv 3)) pa_nil))) po_none (po_some pe_int))) (pg_name (i := 7) sc_law.nd rfl (Or.inl rfl))
        (pss_cons (ps_set (i := 8) sc_law.nd rfl (Or.inl rfl) (pe_op op_cat (pe_meth0 (pe_call (G_even (w := w) T) (hr.mono (by decide)) rfl T.m_even T.F_even.kp T.b_even .nil pass0 (pa_cons (pv 4) pa_nil)) T.cl_Plan T.me_Plan_entries (G_Plan_entries (w := w) T) (hr.mono (by decide)) T.b_Plan_entries .nil pass0) (pe_lst (pa_cons (pe_tup (pa_cons (pe_ix ix_tup (pv 7) pe_int (fun _ _ => rfl)) (pa_cons (pe_lc (own := [("_law_k", 10)]) (g := gName 10) (tt := tYes) rfl sc_law.nd (pi_range1 rfl T.n_range (pa_cons (pe_ix ix_tup (pv 7) pe_int (fun _ _ => rfl)) pa_nil)) (blkOk_by (N := ["_law_script", "_law_stages_here", "_law_tree", "_law_player", "_law_views", "_law_digits", "_law_moves", "_law_pair", "_law_strange", "_law_path", "_law_k"]) (sc := defScope s_law) (by decide +kernel)) (fun _ _ _ _ _ => (pg_name (i := 10) sc_law.nd rfl (Or.inl rfl))) (fun _ _ _ _ _ => by exact pts_nil) (fun _ _ _ _ _ => by exact (pe_make T.mk_Ratio (G_Ratio___init__ T) (hr.mono (by decide)) rfl T.m_Ratio T.b_Ratio___init___1.choose_spec.2 T.b_Ratio___init___1.choose_spec.1 pass0 (pa_cons (pe_callTy k_int1 (by rfl) T.n_int (by decide +kernel) (pa_cons (pe_cmpR op_eq (pv 10) pe_int (nomark _)) pa_nil)) pa_nil)))) pa_nil))) pa_nil))))
      (pss_one (ps_if (pt_val (pe_call (G_fits (w := w) T) (hr.mono (by decide)) rfl T.m_fits T.F_fits.kp T.b_fits .nil pass0 (pa_cons (pe_make T.mk_Plan (G_Plan___init__ (w := w) T) (hr.mono (by decide)) rfl T.m_Plan T.b_Plan___init__ .nil passL (pa_cons (pv 8) pa_nil)) (pa_cons (pv 2) (pa_cons (pv 3) pa_nil)))))
        (pss_one (ps_ret pe_bl))
        pss_nil))))
      (pss_cons (ps_for PassesOwn.never rfl (pi_list (pe_slice sl_list (pv 4) po_none (po_some pe_int))) (pg_name (i := 7) sc_law.nd rfl (Or.inl rfl))
        (pss_one (ps_if (pt_val (pe_call (G_fits (w := w) T) (hr.mono (by decide)) rfl T.m_fits T.F_fits.kp T.b_fits .nil pass0 (pa_cons (pe_make T.mk_Plan (G_Plan___init__ (w := w) T) (hr.mono (by decide)) rfl T.m_Plan T.b_Plan___init__ .nil passL (pa_cons (pe_lst (pa_cons (pe_tup (pa_cons (pe_ix ix_tup (pv 7) pe_int (fun _ _ => rfl)) (pa_cons (pe_op op_cat (pe_lst (pa_cons (pe_make T.mk_Ratio (G_Ratio___init__ T) (hr.mono (by decide)) rfl T.m_Ratio T.b_Ratio___init___1.choose_spec.2 T.b_Ratio___init___1.choose_spec.1 pass0 (pa_cons pe_int pa_nil)) pa_nil)) (pe_lc (own := [("_law_k", 10)]) (g := gName 10) (tt := tYes) rfl sc_law.nd (pi_range1 rfl T.n_range (pa_cons (pe_ix ix_tup (pv 7) pe_int (fun _ _ => rfl)) pa_nil)) (blkOk_by (N := ["_law_script", "_law_stages_here", "_law_tree", "_law_player", "_law_views", "_law_digits", "_law_moves", "_law_pair", "_law_strange", "_law_path", "_law_k"]) (sc := defScope s_law) (by decide +kernel)) (fun _ _ _ _ _ => (pg_name (i := 10) sc_law.nd rfl (Or.inl rfl))) (fun _ _ _ _ _ => by exact pts_nil) (fun _ _ _ _ _ => by exact (pe_make T.mk_Ratio (G_Ratio___init__ T) (hr.mono (by decide)) rfl T.m_Ratio T.b_Ratio___init___1.choose_spec.2 T.b_Ratio___init___1.choose_spec.1 pass0 (pa_cons pe_int pa_nil))))) pa_nil))) pa_nil)) pa_nil)) (pa_cons (pv 2) (pa_cons (pv 3) pa_nil)))))
        (pss_one (ps_ret pe_bl))
        pss_nil)))
      (pss_one (ps_ret pe_bl))))))))))))), ?_⟩
    try dsimp only [cxOf, Cx.nox, Cx.wish]
    walk_at "go"
    refine ⟨a, ns, 36, rfl, hs, fun ls st H1 s1 n1 hst hpr => ?_⟩
    have hpr := hpr (by decide)
    have h4 := hst.le
    have ok3 : ∀ s ∈ st, 1 ≤ s.n ∧ s.n ≤ 3 := fun s h => ⟨(hst.ok s h).2.2.1, (hst.ok s h).2.2.2.1⟩
    walk_at "go"
    refine ⟨ls, st, rfl, hst, fun r H2 s2 hps => ?_⟩
    obtain ⟨px, epx, pxl, _⟩ := hps.ex
    have pcard := paths_card ok3
    walk_at "go"
    refine lcL px (fun k y => y = .int 0) (.of epx) (by omega) (fun _ => rfl) ?_ ?_
    · intro i x H' hx sH R hR
      walk_at "go"
      exact hR _ _ (Same.refl _) rfl
    intro pd ys H3 npd s3 epd ysl hys
    have yeq : ys = (List.replicate px.length (0 : Int)).map V.int := by
      refine List.ext_getElem? fun k => ?_
      rw [List.getElem?_map]
      rcases Nat.lt_or_ge k px.length with z | z
      · have e := List.getElem?_eq_getElem (l := ys) (i := k) (by omega)
        rw [List.getElem?_replicate, if_pos z, e, hys k _ e]
        rfl
      · rw [List.getElem?_eq_none (by omega), List.getElem?_eq_none (by rw [List.length_replicate]; omega)]
        rfl
    rw [yeq] at epd
    walk_at "go"
    refine ⟨by show 0 ≤ sizeLine; decide, fun t0 nt0 => ?_⟩
    have s4 := same_new (o := .lst []) nt0
    have et0 : upd H3 t0 (.lst []) t0 = some (.lst (([] : List Int).map V.int)) := upd_same
    generalize upd H3 t0 (.lst []) = H4 at *
    walk_at "go"
    have s14 := s1.trans (s2.trans (s3.trans s4))
    have plen : ((List.replicate px.length (0 : Int)).length : Int) = prodN st := by rw [List.length_replicate]; omega
    refine ⟨ls, pd, t0, st, List.replicate px.length 0, [], rfl, hst.same (s2.trans (s3.trans s4)), s4 _ _ epd, et0, Nat.zero_le _, by rw [List.length_nil]; omega, plen, fun j x s h => by simp at h, fun tr H5 s5 htr => ?_⟩
    rw [List.length_nil, Nat.sub_zero] at htr
    have tsm := node_small (paid := List.replicate px.length 0) h4 ok3
    have cm : ∀ pl, pl ≠ 0 → collD pl (nodeD st (List.replicate px.length 0) st.length []) [] = metD st pl := fun pl hp => coll_met h4 ok3 hp
    generalize nodeD st (List.replicate px.length 0) st.length [] = TT at *
    have s15 := s14.trans s5
    have s25 := s2.trans (s3.trans (s4.trans s5))
    walk_at "go"
    refine ⟨a, ns, 1, rfl, s15.seq hs, by decide, ?_⟩
    walk_at "go"
    have hp12 : 1 + ns.getD (Int.toNat 1) 0 % 2 = 1 ∨ 1 + ns.getD (Int.toNat 1) 0 % 2 = 2 := by omega
    generalize 1 + ns.getD (Int.toNat 1) 0 % 2 = pl at *
    refine ⟨ls, st, pl, rfl, hst.same s25, fun vl H6 s6 n6 hm hml => ?_⟩
    have cm0 := cm pl (by omega)
    have mok := metD_mets (pl := pl) h4 ok3
    have oth : ∀ {x y : Met}, x ∈ metD st pl → y ∈ metD st (3 - pl) → x.1 ≠ y.1 := fun hx hy => other_view h4 ok3 (by omega) (by omega) (by omega) hx hy
    have mok2 := metD_mets (pl := 3 - pl) h4 ok3
    obtain ⟨mx, emx, dmx⟩ := hm.ex
    have mxl := dpAll_len dmx
    rw [List.length_map] at mxl
    have ht6 := trAt_same s6 htr
    have hst6 := hst.same (s25.trans s6)
    generalize hms : metD st pl = ms at *
    walk_at "go"
    refine ⟨a, ns, 2, rfl, (s15.trans s6).seq hs, by decide, ?_⟩
    walk_at "go"
    refine go_lenL (.of emx) ?_
    walk_at "go"
    refine ⟨_, (mx.length : Int), 60, rfl, by omega, by omega, by decide, by decide, fun dg ds H7 s7 n7 eds dsl dsb => ?_⟩
    walk_at "go"
    refine go_lenL (.of (s7 _ _ emx)) ?_
    walk_at "go"
    refine lcR1 (fun k y => ∃ d m, ds[k]? = some d ∧ ms[k]? = some m ∧ y = .int (d % m.2)) (by omega) (by omega) (fun _ => rfl) ?_ ?_
    · intro k H' hk sH R hR
      obtain ⟨d, ed⟩ : ∃ d, ds[k]? = some d := ⟨_, List.getElem?_eq_getElem (by omega)⟩
      obtain ⟨m, em⟩ : ∃ m, ms[k]? = some m := ⟨_, List.getElem?_eq_getElem (by omega)⟩
      have mn := (mok.ok m (List.mem_of_getElem? em)).n
      obtain ⟨xs', t, v, e1, e2, e3, pt, dv⟩ := (hm.same (s7.trans sH)).get em
      rw [sH _ _ (s7 _ _ emx)] at e1
      cases e1
      walk_at "go"
      refine go_ixL (.of (sH _ _ eds)) (show atI (ds.map V.int) (k : Int) = some (.int d) from atI_nat (by rw [List.getElem?_map, ed]; rfl)) ?_
      walk_at "go"
      refine go_ixL (.of (sH _ _ (s7 _ _ emx))) (atI_nat e3) ?_
      walk_at "go"
      refine go_ixT pt at_1 ?_
      walk_at "go"
      exact hR _ _ (Same.refl _) ⟨d, m, ed, em, rfl⟩
    intro mv ys2 H8 nmv s8 emv ysl2 hys2
    have dl : ds.length = ms.length := by omega
    obtain ⟨row, hrow⟩ : ∃ row, row = List.zipWith (fun (d : Int) (m : Met) => d % m.2) ds ms := ⟨_, rfl⟩
    have rl : row.length = ms.length := by rw [hrow, List.length_zipWith, dl, Nat.min_self]
    have rat : ∀ (k : Nat) d m, ds[k]? = some d → ms[k]? = some m → row[k]? = some (d % m.2) := fun k d m h1 h2 => by
      rw [hrow, List.getElem?_zipWith, h1, h2]
    have yeq2 : ys2 = row.map V.int := by
      refine List.ext_getElem? fun k => ?_
      rw [List.getElem?_map]
      rcases Nat.lt_or_ge k ys2.length with z | z
      · have e := List.getElem?_eq_getElem z
        obtain ⟨d, m, e1, e2, e3⟩ := hys2 k _ e
        rw [e, e3, rat k d m e1 e2]
        rfl
      · rw [List.getElem?_eq_none z, List.getElem?_eq_none (by omega)]
        rfl
    rw [yeq2] at emv
    have rok : RowOk ms row := ⟨rl, fun k m x h1 h2 => by
      obtain ⟨d, ed⟩ : ∃ d, ds[k]? = some d := ⟨_, List.getElem?_eq_getElem (by have := (List.getElem?_eq_some_iff.mp h1).1; omega)⟩
      rw [rat k d m ed h1] at h2
      cases h2
      have mn := (mok.ok m (List.mem_of_getElem? h1)).n
      exact ⟨Int.emod_nonneg _ (by omega), Int.emod_lt_of_pos _ (by omega)⟩⟩
    clear hys2 yeq2 rat hrow
    have s68 := s7.trans s8
    walk_at "go"
    refine ⟨vl, mv, ms, row, rfl, hm.same s68, emv, rok, by omega, fun H9 s9 => ?_⟩
    have s69 := s68.trans s9
    walk_at "go"
    refine ⟨vl, mv, ms, row, rfl, hm.same s69, s9 _ _ emv, rok, by omega, fun p1 H10 s10 hB => ?_⟩
    have s610 := s69.trans s10
    walk_at "go"
    refine ⟨p1, tr, pl, TT, ms, _, rfl, hB.plan, trAt_same s610 ht6, tsm.1, by omega, cm0, mok, by omega, fun H11 s11 => ?_⟩
    have f1 : fitsB ms (pureE ms row) = true := fits_all mok fun e he => by
      obtain ⟨k, m, x, h1, h2, rfl, hx⟩ := pureE_mem rok he
      exact ⟨List.mem_of_getElem? h1, (ind_ok hx).2.1⟩
    have f2 : fitsB ms (evenE ms) = true := fits_all mok fun e he => by
      obtain ⟨m, h, rfl⟩ := List.mem_map.mp he
      have mn := (mok.ok m h).n
      exact ⟨h, by show ((List.replicate m.2.toNat (1 : Int)).length : Int) = m.2; rw [List.length_replicate]; omega⟩
    rw [f1]
    have s611 := s610.trans s11
    walk_at "go"
    refine ⟨vl, ms, rfl, hm.same s611, by omega, fun p2 H12 s12 hP2 => ?_⟩
    have s612 := s611.trans s12
    walk_at "go"
    refine ⟨p2, tr, pl, TT, ms, _, rfl, hP2, trAt_same s612 ht6, tsm.1, by omega, cm0, mok, by omega, fun H13 s13 => ?_⟩
    rw [f2]
    have s613 := s612.trans s13
    walk_at "go"
    refine ⟨by show 0 ≤ sizeLine; decide, fun L0 n0 => ?_⟩
    have s14' := same_new (o := .lst []) n0
    have eL0 : upd H13 L0 (.lst []) L0 = some (.lst []) := upd_same
    generalize upd H13 L0 (.lst []) = H14 at *
    have hEL : ELAt K A.c_Ratio H14 L0 [] := ELAt.nil eL0
    have hOk : EsOk [] := ⟨fun e h => (nomatch h), by decide, fun e h => (nomatch h), .nil⟩
    walk_at "go"
    intro z dz hz hdz hne
    obtain ⟨ys, ps, eLL, yl, pln, hat⟩ := hEL.ex
    have good := el_good hOk pln fun k r hr => let ⟨e, t, a1, a2, a3, a4, _⟩ := hat k r hr; ⟨e, a1, a2, a4⟩
    have s4 : Same H14 (upd (upd H14 dz (.own z)) z (.ins A.c_Plan dz [])) := fun t o ht => by
      rw [upd_ne (ne_of_none ht hz), upd_ne (ne_of_none ht hdz)]
      exact ht
    have okn := hOk.n
    refine ⟨z, dz, L0, ys, ps, rfl, upd_same, s4 _ _ eLL, by omega, by omega, fun k r x hr hx => ?_, fun _ D' lsD H5 B5 hD' hls ez eD' hl2 => ⟨rfl, ?_⟩, fun k r hr hbad => ?_⟩
    · obtain ⟨e, t, a1, a2, a3, a4, a5, a6, a7, a8, a9⟩ := hat k r hr
      have mem := List.mem_of_getElem? a1
      have mok := hOk.ok e mem
      obtain ⟨b1, b2, b3⟩ := hOk.b e mem
      rw [a8] at hx
      cases hx
      exact ⟨⟨t, rfl, .of (s4 _ _ a9)⟩, by rw [a2]; exact mok.view.1, by rw [a2]; have := mok.view.2.2.2; omega, dp_same s4 _ _ a3, s4 _ _ a6, a7.same s4, by rw [a4, terms_len]; omega, by
        rw [a4]
        intro z hz
        have lo := terms_lot b1 b2 b3 z hz
        have l1 := lo.p
        have l2 := lo.a
        have l3 := lo.b
        exact ⟨l1, Nat.lt_of_le_of_lt (m := 1099511627776) (by omega) (by decide), Nat.lt_of_le_of_lt (m := 1099511627776) (by omega) (by decide)⟩⟩
    · have s5 : Same H14 H5 := fun t o ht => B5 _ _ (ne_of_none ht hz) (s4 _ _ ht)
      have hPP : PlanAt P w K A.c_Ratio A.c_Plan H5 z [] := ⟨⟨dz, D', ps, lsD, ez, eD', by omega, pln, fun k r a hr ha => let ⟨e, t, a1, a2, a3, a4, a5, a6, a7, a8, a9⟩ := hat k r hr; ⟨e, a1, a2, a4, dp_same s5 _ _ a3, (hl2 k r a hr ha).2, a7.same s5⟩⟩, hOk.ok, okn, hOk.b⟩
      walk_at "go"
      refine ⟨z, tr, pl, TT, ms, [], rfl, hPP, trAt_same ((s613.trans s14').trans s5) ht6, tsm.1, by omega, cm0, mok, by omega, fun H15 s15' => ?_⟩
      rw [show fitsB ms [] = true from rfl]
      have s615 := (s613.trans s14').trans (s5.trans s15')
      walk_at "go"
      refine ⟨ls, st, 3 - pl, rfl, hst6.same s615, fun vl2 H16 s16 n16 hm2 hml2 => ?_⟩
      obtain ⟨mx2, emx2, dmx2⟩ := hm2.ex
      have mxl2 := dpAll_len dmx2
      rw [List.length_map] at mxl2
      walk_at "go"
      refine go_slL (.of emx2) fun c1 nc1 => ?_
      have ecut1 : ∀ xs : List V, cutV xs none (some 1) = xs.take 1 := fun xs => by
        unfold cutV
        rw [HT.sIx_none, show (some (1 : Int)) = some ((1 : Nat) : Int) from rfl, HT.sIx_nat]
        simp
      rw [ecut1]
      have s17 := same_new (o := .lst (mx2.take 1)) nc1
      have ec1 : upd H16 c1 (.lst (mx2.take 1)) c1 = some (.lst (mx2.take 1)) := upd_same
      generalize upd H16 c1 (.lst (mx2.take 1)) = H17 at *
      have s617 := s615.trans (s16.trans s17)
      walk_at "go"
      refine foL (mx2.take 1) (fun i σ' H' => ∃ (v7 v8 : Option V), σ' = [some (.ref a), some (.ref ls), some (.ref tr), some (.int pl), some (.ref vl), some (.ref dg), some (.ref mv), v7, v8, none, none] ∧ Same H17 H') ⟨_, _, rfl, Same.refl _⟩ ?_ ?_ ?_
      · rintro i σ' H' _ ⟨v7, v8, rfl, s⟩
        exact .of (s _ _ ec1)
      · rintro i x σ' H18 hx ⟨v7, v8, rfl, s18⟩
        have hx2 : mx2[i]? = some x := by
          rw [List.getElem?_take] at hx
          split at hx
          · exact hx
          · cases hx
        have hi2 := (List.getElem?_eq_some_iff.mp hx2).1
        obtain ⟨m', em'⟩ : ∃ m, (metD st (3 - pl))[i]? = some m := ⟨_, List.getElem?_eq_getElem (by omega)⟩
        have mem' := List.mem_of_getElem? em'
        have mok' := mok2.ok m' mem'
        have mn' := mok'.n
        have io := ind_ok (n := m'.2) (m := 0) (by omega)
        obtain ⟨xs', t, v, e1, e2, e3, pt, dv⟩ := (hm2.same (s17.trans s18)).get em'
        rw [(s17.trans s18) _ _ emx2] at e1
        cases e1
        rw [hx2] at e3
        cases e3
        walk_at "go"
        refine ⟨vl, ms, rfl, hm.same (s617.trans s18), by omega, fun p3 H19 s19 hP3 => ?_⟩
        walk_at "go"
        obtain ⟨dxp, Dp0, psr, lsr, ep, eDp, pl1, pl2, pf⟩ := hP3.ex
        obtain ⟨nrl, nrx, got⟩ := plan_got pl1 pl2 pf
        have nE := hP3.n
        refine ⟨p3, _, _, rfl, ep, rfl, ?_⟩
        walk_at "go"
        refine ⟨p3, dxp, Dp0, nrows psr lsr, rfl, ep, eDp, by omega, nrx, fun D3 ys H20 s20 nD eD yl hent => ?_⟩
        have hG3 := got s20 eD yl hent
        clear nrl nrx got pf ep eDp eD yl hent nE nD pl1 pl2
        obtain ⟨y3, ey3, yl3, _⟩ := hG3.ex
        have eel : (evenE ms).length = ms.length := by unfold evenE; rw [List.length_map]
        have s1820 := s19.trans s20
        have pt20 := same_sqT s1820 pt
        walk_at "go"
        refine go_ixT pt20 at_0 ?_
        walk_at "go"
        refine go_ixT pt20 at_1 ?_
        walk_at "go"
        refine lcRh (P := fun H k y => ∃ z p dx, (terms (ind m'.2 0) (ind m'.2 0).sum)[k]? = some z ∧ y = .ref p ∧ H p = some (.ins A.c_Ratio dx (rf z.1 z.2))) stays_rat (by omega) (by omega) (fun _ => rfl) ?_ ?_
        · intro k H' hk sH R hR
          walk_at "go"
          intro z dz hz hdz hne2
          refine ⟨z, dz, _, 1, rfl, upd_same, by decide, Nat.one_lt_two_pow (by decide), fun H4 s4 e4 => ⟨rfl, ?_⟩⟩
          refine hR _ _ (same_made hz hdz s4) ⟨(rN (if (k : Int) = 0 then 1 else 0) 1, rD (if (k : Int) = 0 then 1 else 0) 1), z, dz, ?_, rfl, ?_⟩
          · rw [io.1]
            unfold terms ind
            rw [List.getElem?_map, List.getElem?_map, List.getElem?_range hk]
            rfl
          · by_cases h0 : (k : Int) = 0
            · rw [decide_eq_true h0] at e4
              rw [if_pos h0]
              exact e4
            · rw [decide_eq_false h0] at e4
              rw [if_neg h0]
              exact e4
        intro E2 zs2 H21 hE2 s21 eE2 hzl hQ
        have hra2 : RatsAt A.c_Ratio H21 zs2 (terms (ind m'.2 0) (ind m'.2 0).sum) := rats_of (by rw [hzl, terms_len]; omega) hQ
        walk_at "go"
        refine ⟨by show 2 ≤ sizeLine; decide, fun nt nnt => ?_⟩
        have s22 := same_new (o := .tup [.ref v, .ref E2]) nnt
        have ent : upd H21 nt (.tup [.ref v, .ref E2]) nt = some (.tup [.ref v, .ref E2]) := upd_same
        generalize upd H21 nt (.tup [.ref v, .ref E2]) = H22 at *
        walk_at "go"
        refine ⟨by show 1 ≤ sizeLine; decide, fun l9 nl9 => ?_⟩
        have s23 := same_new (o := .lst [.ref nt]) nl9
        have el9 : upd H22 l9 (.lst [.ref nt]) l9 = some (.lst [.ref nt]) := upd_same
        generalize upd H22 l9 (.lst [.ref nt]) = H23 at *
        have s2023 := s21.trans (s22.trans s23)
        walk_at "go"
        refine go_cat (s2023 _ _ ey3) el9 (sz (by simp; omega)) fun L1 nL1 => ?_
        have hE1 := got_el (hG3.same s2023) (s2023 _ _ ey3) nL1
        have s24 := same_new (o := .lst y3) nL1
        have mem1 : ∀ e ∈ evenE ms, e.m ∈ ms := fun e he => by
          obtain ⟨m, h, rfl⟩ := List.mem_map.mp he
          exact h
        have hE1 := hE1.snoc (e := ⟨m', 0, 0, ind m'.2 0⟩) (r := ⟨.tuple m'.1, v, E2, zs2, terms (ind m'.2 0) (ind m'.2 0).sum⟩) (t := nt) upd_same (fun z hz => mok.ok _ (mem1 z hz)) mok' rfl (dp_same (s1820.trans (s2023.trans s24)) _ _ dv) rfl (fun z => by have := (s22.trans s23) _ _ eE2; rw [show E2 = L1 from z, nL1] at this; cases this) (s24 _ _ ((s22.trans s23) _ _ eE2)) (hra2.same ((s22.trans s23).trans s24)) (s24 _ _ (s23 _ _ ent))
        rw [upd_upd] at hE1
        have s25' := same_new (o := .lst (y3 ++ [.ref nt])) nL1
        generalize upd H23 L1 (.lst (y3 ++ [.ref nt])) = H24 at *
        have hEL := hE1
        have eo := even_ok mok (by omega : ms.length ≤ 1000)
        have hOk : EsOk (evenE ms ++ [⟨m', 0, 0, ind m'.2 0⟩]) := by
          refine ⟨fun e he => ?_, by rw [List.length_append, List.length_singleton]; omega, fun e he => ?_, List.pairwise_append.mpr ⟨eo.o, List.pairwise_singleton .., fun e he e' he' => ?_⟩⟩
          · rcases List.mem_append.mp he with he | he
            · exact eo.ok e he
            · rw [List.mem_singleton.mp he]
              exact mok'
          · rcases List.mem_append.mp he with he | he
            · exact eo.b e he
            · rw [List.mem_singleton.mp he]
              exact ⟨by show (ind m'.2 0).length ≤ 4; omega, io.2.2, by show 0 < (ind m'.2 0).sum; rw [io.1]; decide⟩
          · rw [List.mem_singleton.mp he']
            exact fun q => oth (mem1 e he) mem' ((key_view (mok.ok _ (mem1 e he)) mok').mp q)
        have bad : fitsB ms (evenE ms ++ [⟨m', 0, 0, ind m'.2 0⟩]) = false := fits_no (e := ⟨m', 0, 0, ind m'.2 0⟩) (List.mem_append.mpr (.inr List.mem_cons_self)) (by
          rw [cnt_miss fun m hm' q => oth hm' mem' ((key_view (mok.ok m hm') mok').mp q)]
          show (0 : Int) ≠ ((ind m'.2 0).length : Int)
          omega)
        have s1824 := s1820.trans (s2023.trans s25')
        walk_at "go"
        intro z dz hz hdz hne
        obtain ⟨ys, ps, eLL, yl, pln, hat⟩ := hEL.ex
        have good := el_good hOk pln fun k r hr => let ⟨e, t, a1, a2, a3, a4, _⟩ := hat k r hr; ⟨e, a1, a2, a4⟩
        have s4 : Same H24 (upd (upd H24 dz (.own z)) z (.ins A.c_Plan dz [])) := fun t o ht => by
          rw [upd_ne (ne_of_none ht hz), upd_ne (ne_of_none ht hdz)]
          exact ht
        have okn := hOk.n
        refine ⟨z, dz, L1, ys, ps, rfl, upd_same, s4 _ _ eLL, by omega, by omega, fun k r x hr hx => ?_, fun _ D' lsD H5 B5 hD' hls ez eD' hl2 => ⟨rfl, ?_⟩, fun k r hr hbad => ?_⟩
        · obtain ⟨e, t, a1, a2, a3, a4, a5, a6, a7, a8, a9⟩ := hat k r hr
          have mem := List.mem_of_getElem? a1
          have mok := hOk.ok e mem
          obtain ⟨b1, b2, b3⟩ := hOk.b e mem
          rw [a8] at hx
          cases hx
          exact ⟨⟨t, rfl, .of (s4 _ _ a9)⟩, by rw [a2]; exact mok.view.1, by rw [a2]; have := mok.view.2.2.2; omega, dp_same s4 _ _ a3, s4 _ _ a6, a7.same s4, by rw [a4, terms_len]; omega, by
            rw [a4]
            intro z hz
            have lo := terms_lot b1 b2 b3 z hz
            have l1 := lo.p
            have l2 := lo.a
            have l3 := lo.b
            exact ⟨l1, Nat.lt_of_le_of_lt (m := 1099511627776) (by omega) (by decide), Nat.lt_of_le_of_lt (m := 1099511627776) (by omega) (by decide)⟩⟩
        · have s5 : Same H24 H5 := fun t o ht => B5 _ _ (ne_of_none ht hz) (s4 _ _ ht)
          have hPP : PlanAt P w K A.c_Ratio A.c_Plan H5 z (evenE ms ++ [⟨m', 0, 0, ind m'.2 0⟩]) := ⟨⟨dz, D', ps, lsD, ez, eD', by omega, pln, fun k r a hr ha => let ⟨e, t, a1, a2, a3, a4, a5, a6, a7, a8, a9⟩ := hat k r hr; ⟨e, a1, a2, a4, dp_same s5 _ _ a3, (hl2 k r a hr ha).2, a7.same s5⟩⟩, hOk.ok, okn, hOk.b⟩
          walk_at "go"
          refine ⟨z, tr, pl, TT, ms, _, rfl, hPP, trAt_same ((s617.trans s18).trans (s1824.trans s5)) ht6, tsm.1, by omega, cm0, mok, by omega, fun H26 s26 => ?_⟩
          rw [bad]
          walk_at "go"
          exact ⟨_, _, rfl, s18.trans (s1824.trans (s5.trans s26))⟩
        · rw [good k r hr] at hbad
          cases hbad

      rintro σ' H18 ⟨v7, v8, rfl, s18⟩
      have s618 := s617.trans s18
      walk_at "go"
      refine go_slL (.of (s618 _ _ emx)) fun c2 nc2 => ?_
      rw [ecut1]
      have s19 := same_new (o := .lst (mx.take 1)) nc2
      have ec2 : upd H18 c2 (.lst (mx.take 1)) c2 = some (.lst (mx.take 1)) := upd_same
      generalize upd H18 c2 (.lst (mx.take 1)) = H19 at *
      have s619 := s618.trans s19
      walk_at "go"
      refine foL (mx.take 1) (fun i σ' H' => ∃ (v7 : Option V), σ' = [some (.ref a), some (.ref ls), some (.ref tr), some (.int pl), some (.ref vl), some (.ref dg), some (.ref mv), v7, v8, none, none] ∧ Same H19 H') ⟨_, rfl, Same.refl _⟩ ?_ ?_ ?_
      · rintro i σ' H' _ ⟨v7, rfl, s⟩
        exact .of (s _ _ ec2)
      · rintro i x σ' H20 hx ⟨v7, rfl, s20⟩
        have hx2 : mx[i]? = some x := by
          rw [List.getElem?_take] at hx
          split at hx
          · exact hx
          · cases hx
        have hi2 := (List.getElem?_eq_some_iff.mp hx2).1
        obtain ⟨m', em'⟩ : ∃ m, ms[i]? = some m := ⟨_, List.getElem?_eq_getElem (by omega)⟩
        have mem' := List.mem_of_getElem? em'
        have mok' := mok.ok m' mem'
        have mn' := mok'.n
        obtain ⟨xs', t, v, e1, e2, e3, pt, dv⟩ := (hm.same (s619.trans s20)).get em'
        rw [(s619.trans s20) _ _ emx] at e1
        cases e1
        rw [hx2] at e3
        cases e3
        obtain ⟨ws, hws⟩ : ∃ ws : List Int, ws = 1 :: List.replicate m'.2.toNat 0 := ⟨_, rfl⟩
        have wsum : ws.sum = 1 := by rw [hws]; simp
        have wlen : ws.length = m'.2.toNat + 1 := by rw [hws, List.length_cons, List.length_replicate]
        have wbd : ∀ w ∈ ws, 0 ≤ w ∧ w ≤ 3 := fun w h => by
          rw [hws] at h
          rcases List.mem_cons.mp h with rfl | h
          · decide
          · rw [List.eq_of_mem_replicate h]
            decide
        have wterm : terms ws ws.sum = (rN 1 1, rD 1 1) :: List.replicate m'.2.toNat (rN 0 1, rD 0 1) := by
          rw [wsum, hws]
          unfold terms
          rw [List.map_cons, List.map_replicate]
        walk_at "go"
        refine go_ixT pt at_0 ?_
        walk_at "go"
        intro z1 dz1 hz1 hdz1 hne1
        refine ⟨z1, dz1, 1, 1, rfl, upd_same, by decide, Nat.one_lt_two_pow (by decide), fun H21 y21 ez1 => ⟨rfl, ?_⟩⟩
        have s21 := same_made hz1 hdz1 y21
        walk_at "go"
        refine ⟨by show 1 ≤ sizeLine; decide, fun la nla => ?_⟩
        have s22 := same_new (o := .lst [.ref z1]) nla
        have ela : upd H21 la (.lst [.ref z1]) la = some (.lst [.ref z1]) := upd_same
        generalize upd H21 la (.lst [.ref z1]) = H22 at *
        have s2022 := s21.trans s22
        have pt22 := same_sqT s2022 pt
        walk_at "go"
        refine go_ixT pt22 at_1 ?_
        walk_at "go"
        refine lcRh (P := fun H k y => ∃ z p dx, (List.replicate m'.2.toNat (rN 0 1, rD 0 1))[k]? = some z ∧ y = .ref p ∧ H p = some (.ins A.c_Ratio dx (rf z.1 z.2))) stays_rat (by omega) (by omega) (fun _ => rfl) ?_ ?_
        · intro k H' hk sH R hR
          walk_at "go"
          intro z dz hz hdz hne2
          refine ⟨z, dz, 0, 1, rfl, upd_same, by decide, Nat.one_lt_two_pow (by decide), fun H4 s4 e4 => ⟨rfl, ?_⟩⟩
          exact hR _ _ (same_made hz hdz s4) ⟨(rN 0 1, rD 0 1), z, dz, List.getElem?_replicate_of_lt hk, rfl, e4⟩
        intro E2 zs2 H23 hE2 s23 eE2 hzl hQ
        walk_at "go"
        refine go_cat (s23 _ _ ela) eE2 (sz (by simp; omega)) fun lc nlc => ?_
        have s24 := same_new (o := .lst ([.ref z1] ++ zs2)) nlc
        have elc : upd H23 lc (.lst ([.ref z1] ++ zs2)) lc = some (.lst ([.ref z1] ++ zs2)) := upd_same
        generalize upd H23 lc (.lst ([.ref z1] ++ zs2)) = H24 at *
        have hra : RatsAt A.c_Ratio H24 ([.ref z1] ++ zs2) (terms ws ws.sum) := by
          refine rats_of (by rw [terms_len, wlen, List.length_append, hzl, List.length_singleton]; omega) fun k y hy => ?_
          rw [wterm]
          cases k with
          | zero =>
            cases hy
            exact ⟨_, z1, dz1, rfl, rfl, s24 _ _ (s23 _ _ (s22 _ _ ez1))⟩
          | succ k =>
            obtain ⟨z, p, dx, h1, h2, h3⟩ := hQ k y (by simpa using hy)
            exact ⟨z, p, dx, by simpa using h1, h2, s24 _ _ h3⟩
        have s2024 := s2022.trans (s23.trans s24)
        walk_at "go"
        refine ⟨by show 2 ≤ sizeLine; decide, fun nt nnt => ?_⟩
        have s25 := same_new (o := .tup [.ref v, .ref lc]) nnt
        have ent : upd H24 nt (.tup [.ref v, .ref lc]) nt = some (.tup [.ref v, .ref lc]) := upd_same
        generalize upd H24 nt (.tup [.ref v, .ref lc]) = H25 at *
        walk_at "go"
        refine ⟨by show 1 ≤ sizeLine; decide, fun L1 nL1 => ?_⟩
        have s26 := same_new (o := .lst []) nL1
        have hE0 : ELAt K A.c_Ratio (upd H25 L1 (.lst [])) L1 [] := ELAt.nil upd_same
        have hEL := hE0.snoc (e := ⟨m', 0, 0, ws⟩) (r := ⟨.tuple m'.1, v, lc, [.ref z1] ++ zs2, terms ws ws.sum⟩) (ys := []) (t := nt) upd_same (fun z hz => (nomatch hz)) mok' rfl (dp_same ((s2024.trans s25).trans s26) _ _ dv) rfl (fun z => by have := s25 _ _ elc; rw [show lc = L1 from z, nL1] at this; cases this) (s26 _ _ (s25 _ _ elc)) (hra.same (s25.trans s26)) (s26 _ _ ent)
        rw [upd_upd] at hEL
        have hEL : ELAt K A.c_Ratio (upd H25 L1 (.lst [.ref nt])) L1 [⟨m', 0, 0, ws⟩] := hEL
        have s27 := same_new (o := .lst [.ref nt]) nL1
        generalize upd H25 L1 (.lst [.ref nt]) = H26 at *
        have hOk : EsOk [⟨m', 0, 0, ws⟩] := by
          refine ⟨fun e he => ?_, by show 1 ≤ 1000; omega, fun e he => ?_, List.pairwise_singleton ..⟩
          · rw [List.mem_singleton.mp he]
            exact mok'
          · rw [List.mem_singleton.mp he]
            exact ⟨by show ws.length ≤ 4; omega, wbd, by show 0 < ws.sum; omega⟩
        have bad : fitsB ms [⟨m', 0, 0, ws⟩] = false := fits_no (e := ⟨m', 0, 0, ws⟩) List.mem_cons_self (by
          rw [show (⟨m', 0, 0, ws⟩ : Ent).m = m' from rfl, cnt_hit mok mem']
          show m'.2 ≠ (ws.length : Int)
          omega)
        have s2026 := s2024.trans (s25.trans s27)
        walk_at "go"
        intro z dz hz hdz hne
        obtain ⟨ys, ps, eLL, yl, pln, hat⟩ := hEL.ex
        have good := el_good hOk pln fun k r hr => let ⟨e, t, a1, a2, a3, a4, _⟩ := hat k r hr; ⟨e, a1, a2, a4⟩
        have s4 : Same H26 (upd (upd H26 dz (.own z)) z (.ins A.c_Plan dz [])) := fun t o ht => by
          rw [upd_ne (ne_of_none ht hz), upd_ne (ne_of_none ht hdz)]
          exact ht
        have okn := hOk.n
        refine ⟨z, dz, L1, ys, ps, rfl, upd_same, s4 _ _ eLL, by omega, by omega, fun k r x hr hx => ?_, fun _ D' lsD H5 B5 hD' hls ez eD' hl2 => ⟨rfl, ?_⟩, fun k r hr hbad => ?_⟩
        · obtain ⟨e, t, a1, a2, a3, a4, a5, a6, a7, a8, a9⟩ := hat k r hr
          have mem := List.mem_of_getElem? a1
          have mok := hOk.ok e mem
          obtain ⟨b1, b2, b3⟩ := hOk.b e mem
          rw [a8] at hx
          cases hx
          exact ⟨⟨t, rfl, .of (s4 _ _ a9)⟩, by rw [a2]; exact mok.view.1, by rw [a2]; have := mok.view.2.2.2; omega, dp_same s4 _ _ a3, s4 _ _ a6, a7.same s4, by rw [a4, terms_len]; omega, by
            rw [a4]
            intro z hz
            have lo := terms_lot b1 b2 b3 z hz
            have l1 := lo.p
            have l2 := lo.a
            have l3 := lo.b
            exact ⟨l1, Nat.lt_of_le_of_lt (m := 1099511627776) (by omega) (by decide), Nat.lt_of_le_of_lt (m := 1099511627776) (by omega) (by decide)⟩⟩
        · have s5 : Same H26 H5 := fun t o ht => B5 _ _ (ne_of_none ht hz) (s4 _ _ ht)
          have hPP : PlanAt P w K A.c_Ratio A.c_Plan H5 z [⟨m', 0, 0, ws⟩] := ⟨⟨dz, D', ps, lsD, ez, eD', by omega, pln, fun k r a hr ha => let ⟨e, t, a1, a2, a3, a4, a5, a6, a7, a8, a9⟩ := hat k r hr; ⟨e, a1, a2, a4, dp_same s5 _ _ a3, (hl2 k r a hr ha).2, a7.same s5⟩⟩, hOk.ok, okn, hOk.b⟩
          walk_at "go"
          refine ⟨z, tr, pl, TT, ms, _, rfl, hPP, trAt_same ((s619.trans s20).trans (s2026.trans s5)) ht6, tsm.1, by omega, cm0, mok, by omega, fun H28 s28 => ?_⟩
          rw [bad]
          walk_at "go"
          exact ⟨_, rfl, s20.trans (s2026.trans (s5.trans s28))⟩
        · rw [good k r hr] at hbad
          cases hbad

      rintro σ' H20 ⟨v7, rfl, s20⟩
      walk_at "go"
      exact q _
    · rw [good k r hr] at hbad
      cases hbad
end
end K42

set_option pp.maxSteps 60
namespace K42
open PySem L2 Gx
theorem all_mk {P : Program} {w : World} {K : PySem.W.Frag} {h : Heap} {mg : Str → Option Value} {f_common f_are_lots f_Ratio___init__ f_Ratio___eq__ f_End___init__ f_Lot___init__ f_Turn___init__ f__collect f_views_of f_Plan___init__ f_Plan_entries f_pure f_even f_fits f__law_cell f__law_row f__law_stages f__law_paths f__law_view f__law_asked f__law_met f__law_node f__law_plans f_law c_Ratio c_End c_Lot c_Turn c_Plan c_BadPlan i_BadPlan : Addr} (X : K.In h) (G : h.Ns mainGlobals mg) {fa : Addr} (hfa : mg "law" = some (.ref fa))
    {oc_common kV_common dc_common pm_common cd_common ct_common : Value} {od_common an_common : Option Addr} {sl_common : Array (Option Value)}
    {oc_are_lots kV_are_lots dc_are_lots pm_are_lots cd_are_lots ct_are_lots : Value} {od_are_lots an_are_lots : Option Addr} {sl_are_lots : Array (Option Value)}
    {oc_Ratio___init__ kV_Ratio___init__ dc_Ratio___init__ pm_Ratio___init__ cd_Ratio___init__ ct_Ratio___init__ : Value} {od_Ratio___init__ an_Ratio___init__ : Option Addr} {sl_Ratio___init__ : Array (Option Value)} {t_Ratio___init__ : Addr} {tc_Ratio___init__ : Value} {td_Ratio___init__ : Option Addr} {tn_Ratio___init__ : Nat} {ts_Ratio___init__ : Array (Option Value)} {tk_one : Tok}
    {oc_Ratio___eq__ kV_Ratio___eq__ dc_Ratio___eq__ pm_Ratio___eq__ cd_Ratio___eq__ ct_Ratio___eq__ : Value} {od_Ratio___eq__ an_Ratio___eq__ : Option Addr} {sl_Ratio___eq__ : Array (Option Value)}
    {oc_End___init__ kV_End___init__ dc_End___init__ pm_End___init__ cd_End___init__ ct_End___init__ : Value} {od_End___init__ an_End___init__ : Option Addr} {sl_End___init__ : Array (Option Value)}
    {oc_Lot___init__ kV_Lot___init__ dc_Lot___init__ pm_Lot___init__ cd_Lot___init__ ct_Lot___init__ : Value} {od_Lot___init__ an_Lot___init__ : Option Addr} {sl_Lot___init__ : Array (Option Value)}
    {oc_Turn___init__ kV_Turn___init__ dc_Turn___init__ pm_Turn___init__ cd_Turn___init__ ct_Turn___init__ : Value} {od_Turn___init__ an_Turn___init__ : Option Addr} {sl_Turn___init__ : Array (Option Value)}
    {oc__collect kV__collect dc__collect pm__collect cd__collect ct__collect : Value} {od__collect an__collect : Option Addr} {sl__collect : Array (Option Value)}
    {oc_views_of kV_views_of dc_views_of pm_views_of cd_views_of ct_views_of : Value} {od_views_of an_views_of : Option Addr} {sl_views_of : Array (Option Value)}
    {oc_Plan___init__ kV_Plan___init__ dc_Plan___init__ pm_Plan___init__ cd_Plan___init__ ct_Plan___init__ : Value} {od_Plan___init__ an_Plan___init__ : Option Addr} {sl_Plan___init__ : Array (Option Value)}
    {oc_Plan_entries kV_Plan_entries dc_Plan_entries pm_Plan_entries cd_Plan_entries ct_Plan_entries : Value} {od_Plan_entries an_Plan_entries : Option Addr} {sl_Plan_entries : Array (Option Value)}
    {oc_pure kV_pure dc_pure pm_pure cd_pure ct_pure : Value} {od_pure an_pure : Option Addr} {sl_pure : Array (Option Value)}
    {oc_even kV_even dc_even pm_even cd_even ct_even : Value} {od_even an_even : Option Addr} {sl_even : Array (Option Value)}
    {oc_fits kV_fits dc_fits pm_fits cd_fits ct_fits : Value} {od_fits an_fits : Option Addr} {sl_fits : Array (Option Value)}
    {oc__law_cell kV__law_cell dc__law_cell pm__law_cell cd__law_cell ct__law_cell : Value} {od__law_cell an__law_cell : Option Addr} {sl__law_cell : Array (Option Value)}
    {oc__law_row kV__law_row dc__law_row pm__law_row cd__law_row ct__law_row : Value} {od__law_row an__law_row : Option Addr} {sl__law_row : Array (Option Value)}
    {oc__law_stages kV__law_stages dc__law_stages pm__law_stages cd__law_stages ct__law_stages : Value} {od__law_stages an__law_stages : Option Addr} {sl__law_stages : Array (Option Value)}
    {oc__law_paths kV__law_paths dc__law_paths pm__law_paths cd__law_paths ct__law_paths : Value} {od__law_paths an__law_paths : Option Addr} {sl__law_paths : Array (Option Value)}
    {oc__law_view kV__law_view dc__law_view pm__law_view cd__law_view ct__law_view : Value} {od__law_view an__law_view : Option Addr} {sl__law_view : Array (Option Value)}
    {oc__law_asked kV__law_asked dc__law_asked pm__law_asked cd__law_asked ct__law_asked : Value} {od__law_asked an__law_asked : Option Addr} {sl__law_asked : Array (Option Value)}
    {oc__law_met kV__law_met dc__law_met pm__law_met cd__law_met ct__law_met : Value} {od__law_met an__law_met : Option Addr} {sl__law_met : Array (Option Value)}
    {oc__law_node kV__law_node dc__law_node pm__law_node cd__law_node ct__law_node : Value} {od__law_node an__law_node : Option Addr} {sl__law_node : Array (Option Value)}
    {oc__law_plans kV__law_plans dc__law_plans pm__law_plans cd__law_plans ct__law_plans : Value} {od__law_plans an__law_plans : Option Addr} {sl__law_plans : Array (Option Value)}
    {oc_law kV_law dc_law pm_law cd_law ct_law : Value} {od_law an_law : Option Addr} {sl_law : Array (Option Value)}
    {en_BadPlan eq_BadPlan : Str} {eN_BadPlan eG_BadPlan : Addr} {ebs_BadPlan : List Value} {esn_BadPlan : List Str} {esub_BadPlan : List Value} {eab_BadPlan : Bool} {ecol_BadPlan : Option Bool} {edd_BadPlan : Option Addr} {e0_BadPlan e1_BadPlan e2_BadPlan e3_BadPlan e5_BadPlan : Option Value}
    {xoc_BadPlan xdc_BadPlan xpm_BadPlan xct_BadPlan xcl_BadPlan xccl_BadPlan : Value} {xod_BadPlan xan_BadPlan xcld_BadPlan xcdd_BadPlan : Option Addr} {xda_BadPlan xcc_BadPlan : Addr} {xos_BadPlan xcs_BadPlan xccs_BadPlan : Array (Option Value)} {xvs_BadPlan : Array Value} {xfi_BadPlan : Str} {xtf_BadPlan : Tok}
    (C_Ratio : PySem.W.nsIn K mainGlobals "Ratio" = some (some (.ref c_Ratio)))
    (C_End : PySem.W.nsIn K mainGlobals "End" = some (some (.ref c_End)))
    (C_Lot : PySem.W.nsIn K mainGlobals "Lot" = some (some (.ref c_Lot)))
    (C_Turn : PySem.W.nsIn K mainGlobals "Turn" = some (some (.ref c_Turn)))
    (C_Plan : PySem.W.nsIn K mainGlobals "Plan" = some (some (.ref c_Plan)))
    (g_common : PySem.W.nsIn K mainGlobals "common" = some (some (.ref f_common)))
    (i_common : PySem.W.isFn K (.ref f_common) = true)
    (l_common : K.lookup f_common = some ⟨oc_common, od_common, .func (PySem.W.fnOf "common" "common" (defArgs s_common) (defBody s_common) (defScope s_common) .none kV_common dc_common pm_common an_common cd_common ct_common), sl_common⟩)
    (c_common_ : PySem.W.codeIn K cd_common "common" = true)
    (k_common : PySem.W.keepIn K (.ref f_common) = true)
    (g_are_lots : PySem.W.nsIn K mainGlobals "are_lots" = some (some (.ref f_are_lots)))
    (i_are_lots : PySem.W.isFn K (.ref f_are_lots) = true)
    (l_are_lots : K.lookup f_are_lots = some ⟨oc_are_lots, od_are_lots, .func (PySem.W.fnOf "are_lots" "are_lots" (defArgs s_are_lots) (defBody s_are_lots) (defScope s_are_lots) .none kV_are_lots dc_are_lots pm_are_lots an_are_lots cd_are_lots ct_are_lots), sl_are_lots⟩)
    (c_are_lots_ : PySem.W.codeIn K cd_are_lots "are_lots" = true)
    (k_are_lots : PySem.W.keepIn K (.ref f_are_lots) = true)
    (g_Ratio___init__ : PySem.W.findIn K (.ref c_Ratio) "__init__" = some (some (.ref f_Ratio___init__)))
    (i_Ratio___init__ : PySem.W.isFn K (.ref f_Ratio___init__) = true)
    (l_Ratio___init__ : K.lookup f_Ratio___init__ = some ⟨oc_Ratio___init__, od_Ratio___init__, .func (PySem.W.fnOf "__init__" "Ratio.__init__" (defArgs s_Ratio___init__) (defBody s_Ratio___init__) (defScope s_Ratio___init__) (.ref t_Ratio___init__) kV_Ratio___init__ dc_Ratio___init__ pm_Ratio___init__ an_Ratio___init__ cd_Ratio___init__ ct_Ratio___init__), sl_Ratio___init__⟩)
    (t_Ratio___init___ : K.lookup t_Ratio___init__ = some ⟨tc_Ratio___init__, td_Ratio___init__, .seq #[.int 1 tk_one] tn_Ratio___init__, ts_Ratio___init__⟩)
    (c_Ratio___init___ : PySem.W.codeIn K cd_Ratio___init__ "Ratio.__init__" = true)
    (k_Ratio___init__ : PySem.W.keepIn K (.ref f_Ratio___init__) = true)
    (g_Ratio___eq__ : PySem.W.findIn K (.ref c_Ratio) "__eq__" = some (some (.ref f_Ratio___eq__)))
    (i_Ratio___eq__ : PySem.W.isFn K (.ref f_Ratio___eq__) = true)
    (l_Ratio___eq__ : K.lookup f_Ratio___eq__ = some ⟨oc_Ratio___eq__, od_Ratio___eq__, .func (PySem.W.fnOf "__eq__" "Ratio.__eq__" (defArgs s_Ratio___eq__) (defBody s_Ratio___eq__) (defScope s_Ratio___eq__) .none kV_Ratio___eq__ dc_Ratio___eq__ pm_Ratio___eq__ an_Ratio___eq__ cd_Ratio___eq__ ct_Ratio___eq__), sl_Ratio___eq__⟩)
    (c_Ratio___eq___ : PySem.W.codeIn K cd_Ratio___eq__ "Ratio.__eq__" = true)
    (k_Ratio___eq__ : PySem.W.keepIn K (.ref f_Ratio___eq__) = true)
    (g_End___init__ : PySem.W.findIn K (.ref c_End) "__init__" = some (some (.ref f_End___init__)))
    (i_End___init__ : PySem.W.isFn K (.ref f_End___init__) = true)
    (l_End___init__ : K.lookup f_End___init__ = some ⟨oc_End___init__, od_End___init__, .func (PySem.W.fnOf "__init__" "End.__init__" (defArgs s_End___init__) (defBody s_End___init__) (defScope s_End___init__) .none kV_End___init__ dc_End___init__ pm_End___init__ an_End___init__ cd_End___init__ ct_End___init__), sl_End___init__⟩)
    (c_End___init___ : PySem.W.codeIn K cd_End___init__ "End.__init__" = true)
    (k_End___init__ : PySem.W.keepIn K (.ref f_End___init__) = true)
    (g_Lot___init__ : PySem.W.findIn K (.ref c_Lot) "__init__" = some (some (.ref f_Lot___init__)))
    (i_Lot___init__ : PySem.W.isFn K (.ref f_Lot___init__) = true)
    (l_Lot___init__ : K.lookup f_Lot___init__ = some ⟨oc_Lot___init__, od_Lot___init__, .func (PySem.W.fnOf "__init__" "Lot.__init__" (defArgs s_Lot___init__) (defBody s_Lot___init__) (defScope s_Lot___init__) .none kV_Lot___init__ dc_Lot___init__ pm_Lot___init__ an_Lot___init__ cd_Lot___init__ ct_Lot___init__), sl_Lot___init__⟩)
    (c_Lot___init___ : PySem.W.codeIn K cd_Lot___init__ "Lot.__init__" = true)
    (k_Lot___init__ : PySem.W.keepIn K (.ref f_Lot___init__) = true)
    (g_Turn___init__ : PySem.W.findIn K (.ref c_Turn) "__init__" = some (some (.ref f_Turn___init__)))
    (i_Turn___init__ : PySem.W.isFn K (.ref f_Turn___init__) = true)
    (l_Turn___init__ : K.lookup f_Turn___init__ = some ⟨oc_Turn___init__, od_Turn___init__, .func (PySem.W.fnOf "__init__" "Turn.__init__" (defArgs s_Turn___init__) (defBody s_Turn___init__) (defScope s_Turn___init__) .none kV_Turn___init__ dc_Turn___init__ pm_Turn___init__ an_Turn___init__ cd_Turn___init__ ct_Turn___init__), sl_Turn___init__⟩)
    (c_Turn___init___ : PySem.W.codeIn K cd_Turn___init__ "Turn.__init__" = true)
    (k_Turn___init__ : PySem.W.keepIn K (.ref f_Turn___init__) = true)
    (g__collect : PySem.W.nsIn K mainGlobals "_collect" = some (some (.ref f__collect)))
    (i__collect : PySem.W.isFn K (.ref f__collect) = true)
    (l__collect : K.lookup f__collect = some ⟨oc__collect, od__collect, .func (PySem.W.fnOf "_collect" "_collect" (defArgs s__collect) (defBody s__collect) (defScope s__collect) .none kV__collect dc__collect pm__collect an__collect cd__collect ct__collect), sl__collect⟩)
    (c__collect_ : PySem.W.codeIn K cd__collect "_collect" = true)
    (k__collect : PySem.W.keepIn K (.ref f__collect) = true)
    (g_views_of : PySem.W.nsIn K mainGlobals "views_of" = some (some (.ref f_views_of)))
    (i_views_of : PySem.W.isFn K (.ref f_views_of) = true)
    (l_views_of : K.lookup f_views_of = some ⟨oc_views_of, od_views_of, .func (PySem.W.fnOf "views_of" "views_of" (defArgs s_views_of) (defBody s_views_of) (defScope s_views_of) .none kV_views_of dc_views_of pm_views_of an_views_of cd_views_of ct_views_of), sl_views_of⟩)
    (c_views_of_ : PySem.W.codeIn K cd_views_of "views_of" = true)
    (k_views_of : PySem.W.keepIn K (.ref f_views_of) = true)
    (g_Plan___init__ : PySem.W.findIn K (.ref c_Plan) "__init__" = some (some (.ref f_Plan___init__)))
    (i_Plan___init__ : PySem.W.isFn K (.ref f_Plan___init__) = true)
    (l_Plan___init__ : K.lookup f_Plan___init__ = some ⟨oc_Plan___init__, od_Plan___init__, .func (PySem.W.fnOf "__init__" "Plan.__init__" (defArgs s_Plan___init__) (defBody s_Plan___init__) (defScope s_Plan___init__) .none kV_Plan___init__ dc_Plan___init__ pm_Plan___init__ an_Plan___init__ cd_Plan___init__ ct_Plan___init__), sl_Plan___init__⟩)
    (c_Plan___init___ : PySem.W.codeIn K cd_Plan___init__ "Plan.__init__" = true)
    (k_Plan___init__ : PySem.W.keepIn K (.ref f_Plan___init__) = true)
    (g_Plan_entries : PySem.W.findIn K (.ref c_Plan) "entries" = some (some (.ref f_Plan_entries)))
    (i_Plan_entries : PySem.W.isFn K (.ref f_Plan_entries) = true)
    (l_Plan_entries : K.lookup f_Plan_entries = some ⟨oc_Plan_entries, od_Plan_entries, .func (PySem.W.fnOf "entries" "Plan.entries" (defArgs s_Plan_entries) (defBody s_Plan_entries) (defScope s_Plan_entries) .none kV_Plan_entries dc_Plan_entries pm_Plan_entries an_Plan_entries cd_Plan_entries ct_Plan_entries), sl_Plan_entries⟩)
    (c_Plan_entries_ : PySem.W.codeIn K cd_Plan_entries "Plan.entries" = true)
    (k_Plan_entries : PySem.W.keepIn K (.ref f_Plan_entries) = true)
    (g_pure : PySem.W.nsIn K mainGlobals "pure" = some (some (.ref f_pure)))
    (i_pure : PySem.W.isFn K (.ref f_pure) = true)
    (l_pure : K.lookup f_pure = some ⟨oc_pure, od_pure, .func (PySem.W.fnOf "pure" "pure" (defArgs s_pure) (defBody s_pure) (defScope s_pure) .none kV_pure dc_pure pm_pure an_pure cd_pure ct_pure), sl_pure⟩)
    (c_pure_ : PySem.W.codeIn K cd_pure "pure" = true)
    (k_pure : PySem.W.keepIn K (.ref f_pure) = true)
    (g_even : PySem.W.nsIn K mainGlobals "even" = some (some (.ref f_even)))
    (i_even : PySem.W.isFn K (.ref f_even) = true)
    (l_even : K.lookup f_even = some ⟨oc_even, od_even, .func (PySem.W.fnOf "even" "even" (defArgs s_even) (defBody s_even) (defScope s_even) .none kV_even dc_even pm_even an_even cd_even ct_even), sl_even⟩)
    (c_even_ : PySem.W.codeIn K cd_even "even" = true)
    (k_even : PySem.W.keepIn K (.ref f_even) = true)
    (g_fits : PySem.W.nsIn K mainGlobals "fits" = some (some (.ref f_fits)))
    (i_fits : PySem.W.isFn K (.ref f_fits) = true)
    (l_fits : K.lookup f_fits = some ⟨oc_fits, od_fits, .func (PySem.W.fnOf "fits" "fits" (defArgs s_fits) (defBody s_fits) (defScope s_fits) .none kV_fits dc_fits pm_fits an_fits cd_fits ct_fits), sl_fits⟩)
    (c_fits_ : PySem.W.codeIn K cd_fits "fits" = true)
    (k_fits : PySem.W.keepIn K (.ref f_fits) = true)
    (g__law_cell : PySem.W.nsIn K mainGlobals "_law_cell" = some (some (.ref f__law_cell)))
    (i__law_cell : PySem.W.isFn K (.ref f__law_cell) = true)
    (l__law_cell : K.lookup f__law_cell = some ⟨oc__law_cell, od__law_cell, .func (PySem.W.fnOf "_law_cell" "_law_cell" (defArgs s__law_cell) (defBody s__law_cell) (defScope s__law_cell) .none kV__law_cell dc__law_cell pm__law_cell an__law_cell cd__law_cell ct__law_cell), sl__law_cell⟩)
    (c__law_cell_ : PySem.W.codeIn K cd__law_cell "_law_cell" = true)
    (k__law_cell : PySem.W.keepIn K (.ref f__law_cell) = true)
    (g__law_row : PySem.W.nsIn K mainGlobals "_law_row" = some (some (.ref f__law_row)))
    (i__law_row : PySem.W.isFn K (.ref f__law_row) = true)
    (l__law_row : K.lookup f__law_row = some ⟨oc__law_row, od__law_row, .func (PySem.W.fnOf "_law_row" "_law_row" (defArgs s__law_row) (defBody s__law_row) (defScope s__law_row) .none kV__law_row dc__law_row pm__law_row an__law_row cd__law_row ct__law_row), sl__law_row⟩)
    (c__law_row_ : PySem.W.codeIn K cd__law_row "_law_row" = true)
    (k__law_row : PySem.W.keepIn K (.ref f__law_row) = true)
    (g__law_stages : PySem.W.nsIn K mainGlobals "_law_stages" = some (some (.ref f__law_stages)))
    (i__law_stages : PySem.W.isFn K (.ref f__law_stages) = true)
    (l__law_stages : K.lookup f__law_stages = some ⟨oc__law_stages, od__law_stages, .func (PySem.W.fnOf "_law_stages" "_law_stages" (defArgs s__law_stages) (defBody s__law_stages) (defScope s__law_stages) .none kV__law_stages dc__law_stages pm__law_stages an__law_stages cd__law_stages ct__law_stages), sl__law_stages⟩)
    (c__law_stages_ : PySem.W.codeIn K cd__law_stages "_law_stages" = true)
    (k__law_stages : PySem.W.keepIn K (.ref f__law_stages) = true)
    (g__law_paths : PySem.W.nsIn K mainGlobals "_law_paths" = some (some (.ref f__law_paths)))
    (i__law_paths : PySem.W.isFn K (.ref f__law_paths) = true)
    (l__law_paths : K.lookup f__law_paths = some ⟨oc__law_paths, od__law_paths, .func (PySem.W.fnOf "_law_paths" "_law_paths" (defArgs s__law_paths) (defBody s__law_paths) (defScope s__law_paths) .none kV__law_paths dc__law_paths pm__law_paths an__law_paths cd__law_paths ct__law_paths), sl__law_paths⟩)
    (c__law_paths_ : PySem.W.codeIn K cd__law_paths "_law_paths" = true)
    (k__law_paths : PySem.W.keepIn K (.ref f__law_paths) = true)
    (g__law_view : PySem.W.nsIn K mainGlobals "_law_view" = some (some (.ref f__law_view)))
    (i__law_view : PySem.W.isFn K (.ref f__law_view) = true)
    (l__law_view : K.lookup f__law_view = some ⟨oc__law_view, od__law_view, .func (PySem.W.fnOf "_law_view" "_law_view" (defArgs s__law_view) (defBody s__law_view) (defScope s__law_view) .none kV__law_view dc__law_view pm__law_view an__law_view cd__law_view ct__law_view), sl__law_view⟩)
    (c__law_view_ : PySem.W.codeIn K cd__law_view "_law_view" = true)
    (k__law_view : PySem.W.keepIn K (.ref f__law_view) = true)
    (g__law_asked : PySem.W.nsIn K mainGlobals "_law_asked" = some (some (.ref f__law_asked)))
    (i__law_asked : PySem.W.isFn K (.ref f__law_asked) = true)
    (l__law_asked : K.lookup f__law_asked = some ⟨oc__law_asked, od__law_asked, .func (PySem.W.fnOf "_law_asked" "_law_asked" (defArgs s__law_asked) (defBody s__law_asked) (defScope s__law_asked) .none kV__law_asked dc__law_asked pm__law_asked an__law_asked cd__law_asked ct__law_asked), sl__law_asked⟩)
    (c__law_asked_ : PySem.W.codeIn K cd__law_asked "_law_asked" = true)
    (k__law_asked : PySem.W.keepIn K (.ref f__law_asked) = true)
    (g__law_met : PySem.W.nsIn K mainGlobals "_law_met" = some (some (.ref f__law_met)))
    (i__law_met : PySem.W.isFn K (.ref f__law_met) = true)
    (l__law_met : K.lookup f__law_met = some ⟨oc__law_met, od__law_met, .func (PySem.W.fnOf "_law_met" "_law_met" (defArgs s__law_met) (defBody s__law_met) (defScope s__law_met) .none kV__law_met dc__law_met pm__law_met an__law_met cd__law_met ct__law_met), sl__law_met⟩)
    (c__law_met_ : PySem.W.codeIn K cd__law_met "_law_met" = true)
    (k__law_met : PySem.W.keepIn K (.ref f__law_met) = true)
    (g__law_node : PySem.W.nsIn K mainGlobals "_law_node" = some (some (.ref f__law_node)))
    (i__law_node : PySem.W.isFn K (.ref f__law_node) = true)
    (l__law_node : K.lookup f__law_node = some ⟨oc__law_node, od__law_node, .func (PySem.W.fnOf "_law_node" "_law_node" (defArgs s__law_node) (defBody s__law_node) (defScope s__law_node) .none kV__law_node dc__law_node pm__law_node an__law_node cd__law_node ct__law_node), sl__law_node⟩)
    (c__law_node_ : PySem.W.codeIn K cd__law_node "_law_node" = true)
    (k__law_node : PySem.W.keepIn K (.ref f__law_node) = true)
    (g__law_plans : PySem.W.nsIn K mainGlobals "_law_plans" = some (some (.ref f__law_plans)))
    (i__law_plans : PySem.W.isFn K (.ref f__law_plans) = true)
    (l__law_plans : K.lookup f__law_plans = some ⟨oc__law_plans, od__law_plans, .func (PySem.W.fnOf "_law_plans" "_law_plans" (defArgs s__law_plans) (defBody s__law_plans) (defScope s__law_plans) .none kV__law_plans dc__law_plans pm__law_plans an__law_plans cd__law_plans ct__law_plans), sl__law_plans⟩)
    (c__law_plans_ : PySem.W.codeIn K cd__law_plans "_law_plans" = true)
    (k__law_plans : PySem.W.keepIn K (.ref f__law_plans) = true)
    (g_law : PySem.W.nsIn K mainGlobals "law" = some (some (.ref f_law)))
    (i_law : PySem.W.isFn K (.ref f_law) = true)
    (l_law : K.lookup f_law = some ⟨oc_law, od_law, .func (PySem.W.fnOf "law" "law" (defArgs s_law) (defBody s_law) (defScope s_law) .none kV_law dc_law pm_law an_law cd_law ct_law), sl_law⟩)
    (c_law_ : PySem.W.codeIn K cd_law "law" = true)
    (k_law : PySem.W.keepIn K (.ref f_law) = true)
    (pg_Ratio : PySem.W.plainGet K c_Ratio Str.empty = true)
    (hd_Ratio : PySem.W.hasDictIn K c_Ratio = true)
    (po_Ratio : PySem.W.plainOver K c_Ratio = true)
    (sa_Ratio : PySem.W.findIn K (.ref c_Ratio) "__setattr__" = some (some (.builtin "object.__setattr__")))
    (mk_Ratio : PySem.W.makesIn K c_Ratio = true)
    (kc_Ratio : PySem.W.keepIn K (.ref c_Ratio) = true)
    (na_Ratio_num : PySem.W.findIn K (.ref c_Ratio) "num" = some none)
    (na_Ratio_den : PySem.W.findIn K (.ref c_Ratio) "den" = some none)
    (ha_Ratio : PySem.W.findIn K (.ref c_Ratio) "__class__" = some (some (.builtin "object.__class__")))
    (hn_Ratio : PySem.W.specialIn K (.builtin "object.__class__") "__get__" = some (some (.builtin "getset_descriptor.__get__")))
    (ht_Ratio : PySem.W.takesIn K (.builtin "object.__class__") = some true)
    (hm_Ratio : PySem.W.mroIn K c_Ratio (.type "object") = some true)
    (pg_End : PySem.W.plainGet K c_End Str.empty = true)
    (hd_End : PySem.W.hasDictIn K c_End = true)
    (po_End : PySem.W.plainOver K c_End = true)
    (sa_End : PySem.W.findIn K (.ref c_End) "__setattr__" = some (some (.builtin "object.__setattr__")))
    (mk_End : PySem.W.makesIn K c_End = true)
    (kc_End : PySem.W.keepIn K (.ref c_End) = true)
    (na_End_paid : PySem.W.findIn K (.ref c_End) "paid" = some none)
    (ha_End : PySem.W.findIn K (.ref c_End) "__class__" = some (some (.builtin "object.__class__")))
    (hn_End : PySem.W.specialIn K (.builtin "object.__class__") "__get__" = some (some (.builtin "getset_descriptor.__get__")))
    (ht_End : PySem.W.takesIn K (.builtin "object.__class__") = some true)
    (hm_End : PySem.W.mroIn K c_End (.type "object") = some true)
    (pg_Lot : PySem.W.plainGet K c_Lot Str.empty = true)
    (hd_Lot : PySem.W.hasDictIn K c_Lot = true)
    (po_Lot : PySem.W.plainOver K c_Lot = true)
    (sa_Lot : PySem.W.findIn K (.ref c_Lot) "__setattr__" = some (some (.builtin "object.__setattr__")))
    (mk_Lot : PySem.W.makesIn K c_Lot = true)
    (kc_Lot : PySem.W.keepIn K (.ref c_Lot) = true)
    (na_Lot_parts : PySem.W.findIn K (.ref c_Lot) "parts" = some none)
    (ha_Lot : PySem.W.findIn K (.ref c_Lot) "__class__" = some (some (.builtin "object.__class__")))
    (hn_Lot : PySem.W.specialIn K (.builtin "object.__class__") "__get__" = some (some (.builtin "getset_descriptor.__get__")))
    (ht_Lot : PySem.W.takesIn K (.builtin "object.__class__") = some true)
    (hm_Lot : PySem.W.mroIn K c_Lot (.type "object") = some true)
    (pg_Turn : PySem.W.plainGet K c_Turn Str.empty = true)
    (hd_Turn : PySem.W.hasDictIn K c_Turn = true)
    (po_Turn : PySem.W.plainOver K c_Turn = true)
    (sa_Turn : PySem.W.findIn K (.ref c_Turn) "__setattr__" = some (some (.builtin "object.__setattr__")))
    (mk_Turn : PySem.W.makesIn K c_Turn = true)
    (kc_Turn : PySem.W.keepIn K (.ref c_Turn) = true)
    (na_Turn_player : PySem.W.findIn K (.ref c_Turn) "player" = some none)
    (na_Turn_view : PySem.W.findIn K (.ref c_Turn) "view" = some none)
    (na_Turn_parts : PySem.W.findIn K (.ref c_Turn) "parts" = some none)
    (ha_Turn : PySem.W.findIn K (.ref c_Turn) "__class__" = some (some (.builtin "object.__class__")))
    (hn_Turn : PySem.W.specialIn K (.builtin "object.__class__") "__get__" = some (some (.builtin "getset_descriptor.__get__")))
    (ht_Turn : PySem.W.takesIn K (.builtin "object.__class__") = some true)
    (hm_Turn : PySem.W.mroIn K c_Turn (.type "object") = some true)
    (pg_Plan : PySem.W.plainGet K c_Plan Str.empty = true)
    (hd_Plan : PySem.W.hasDictIn K c_Plan = true)
    (po_Plan : PySem.W.plainOver K c_Plan = true)
    (sa_Plan : PySem.W.findIn K (.ref c_Plan) "__setattr__" = some (some (.builtin "object.__setattr__")))
    (mk_Plan : PySem.W.makesIn K c_Plan = true)
    (kc_Plan : PySem.W.keepIn K (.ref c_Plan) = true)
    (na_Plan_table : PySem.W.findIn K (.ref c_Plan) "table" = some none)
    (Cx_BadPlan : PySem.W.nsIn K mainGlobals "BadPlan" = some (some (.ref c_BadPlan)))
    (xL_BadPlan : K.lookup c_BadPlan = some (excClassObj en_BadPlan eq_BadPlan c_BadPlan eN_BadPlan ebs_BadPlan [.ref eG_BadPlan, .type "ValueError", .type "Exception", .type "BaseException", .type "object"] true esn_BadPlan esub_BadPlan eab_BadPlan ecol_BadPlan edd_BadPlan e0_BadPlan e1_BadPlan e2_BadPlan e3_BadPlan e5_BadPlan "ValueError.__new__"))
    (xsa_BadPlan : PySem.W.findIn K (.ref c_BadPlan) "__setattr__" = some (some (.builtin "object.__setattr__")))
    (xga_BadPlan : PySem.W.findIn K (.ref c_BadPlan) "__getattribute__" = some (some (.builtin "BaseException.__getattribute__")))
    (xgg_BadPlan : PySem.W.findIn K (.ref c_BadPlan) "__getattr__" = some none)
    (xhd_BadPlan : PySem.W.hasDictIn K c_BadPlan = true)
    (xno_BadPlan : PySem.W.findIn K (.ref c_BadPlan) "place" = some none)
    (xiC_BadPlan : PySem.W.findIn K (.ref c_BadPlan) "__init__" = some (some (.ref i_BadPlan)))
    (xtC_BadPlan : PySem.W.typeIn K (.ref i_BadPlan) = some (.type "function"))
    (xkC_BadPlan : PySem.W.keepIn K (.ref c_BadPlan) = true)
    (xex_BadPlan : PySem.W.subIn K (.ref c_BadPlan) (.type "BaseException") = some true)
    (xty_BadPlan : PySem.W.typeIn K (.ref c_BadPlan) = some (.type "type"))
    (xop_BadPlan : PySem.W.nsIn K cStatics "thirdparty.any" = some none)
    (ksx_BadPlan : PySem.W.ks_superIn K c_BadPlan c_BadPlan "__init__" = some (some (.builtin "ValueError.__init__")))
    (xve_BadPlan : PySem.W.subIn K (.ref c_BadPlan) (.type "ValueError") = some true)
    (xmc_BadPlan : PySem.W.mroIn K c_BadPlan (.ref c_BadPlan) = some true)
    (xsub_BadPlan : PySem.W.subIn K (.ref c_BadPlan) (.ref c_BadPlan) = some true)
    (xsu_BadPlan : PySem.W.nsIn K mainGlobals "super" = some none)
    (rflt_BadPlan : (P.main.scope.names.lookup ("super" : Str)).isSome = false)
    (xl_BadPlan : K.lookup i_BadPlan = some ⟨xoc_BadPlan, xod_BadPlan, .func (PySem.W.ksFn "__init__" "BadPlan.__init__" (defArgs (inClass (top 5) 0)) (defBody (inClass (top 5) 0)) (defScope (inClass (top 5) 0)) .none .none xdc_BadPlan xpm_BadPlan xan_BadPlan (.ref xda_BadPlan) xct_BadPlan xcc_BadPlan), xos_BadPlan⟩)
    (xc_BadPlan : PySem.W.codeIn K (.ref xda_BadPlan) "BadPlan.__init__" = true)
    (xda__BadPlan : K.lookup xda_BadPlan = some ⟨xccl_BadPlan, xcdd_BadPlan, .fields xvs_BadPlan, xccs_BadPlan⟩)
    (rflv_BadPlan : xvs_BadPlan[2]? = some (.str xfi_BadPlan xtf_BadPlan))
    (rflf_BadPlan : ((P.main.file : Str) == xfi_BadPlan) = true)
    (xicl_BadPlan : PySem.W.isClsIn K c_BadPlan = true)
    (xha_BadPlan : PySem.W.findIn K (.ref c_BadPlan) "__class__" = some (some (.builtin "object.__class__")))
    (xhn_BadPlan : PySem.W.specialIn K (.builtin "object.__class__") "__get__" = some (some (.builtin "getset_descriptor.__get__")))
    (xht_BadPlan : PySem.W.takesIn K (.builtin "object.__class__") = some true)
    (xhm_BadPlan : PySem.W.mroIn K c_BadPlan (.type "object") = some true)
    (xcc__BadPlan : K.lookup xcc_BadPlan = some ⟨xcl_BadPlan, xcld_BadPlan, .cell (some (.ref c_BadPlan)), xcs_BadPlan⟩)
    (ki_End_End : PySem.W.kitOne K (.ref c_End) (.ref c_End) = some true)
    (ki_End_Lot : PySem.W.kitOne K (.ref c_End) (.ref c_Lot) = some false)
    (ki_End_Turn : PySem.W.kitOne K (.ref c_End) (.ref c_Turn) = some false)
    (ki_Lot_End : PySem.W.kitOne K (.ref c_Lot) (.ref c_End) = some false)
    (ki_Lot_Lot : PySem.W.kitOne K (.ref c_Lot) (.ref c_Lot) = some true)
    (ki_Lot_Turn : PySem.W.kitOne K (.ref c_Lot) (.ref c_Turn) = some false)
    (ki_Turn_End : PySem.W.kitOne K (.ref c_Turn) (.ref c_End) = some false)
    (ki_Turn_Lot : PySem.W.kitOne K (.ref c_Turn) (.ref c_Lot) = some false)
    (ki_Turn_Turn : PySem.W.kitOne K (.ref c_Turn) (.ref c_Turn) = some true)
    (gf_gcd : PySem.W.nsIn K mainGlobals "gcd" = some (some (.builtin "math.gcd")))
    (gf_lcm : PySem.W.nsIn K mainGlobals "lcm" = some (some (.builtin "math.lcm")))
    (n_all : PySem.W.nsIn K mainGlobals "all" = some none)
    (n_sum : PySem.W.nsIn K mainGlobals "sum" = some none)
    (n_isinstance : PySem.W.nsIn K mainGlobals "isinstance" = some none)
    (n_str : PySem.W.nsIn K mainGlobals "str" = some none)
    (n_len : PySem.W.nsIn K mainGlobals "len" = some none)
    (n_enumerate : PySem.W.nsIn K mainGlobals "enumerate" = some none)
    (n_list : PySem.W.nsIn K mainGlobals "list" = some none)
    (n_zip : PySem.W.nsIn K mainGlobals "zip" = some none)
    (n_int : PySem.W.nsIn K mainGlobals "int" = some none)
    (n_range : PySem.W.nsIn K mainGlobals "range" = some none)
    (n_dict : PySem.W.nsIn K mainGlobals "dict" = some none)
    (n_bool : PySem.W.nsIn K mainGlobals "bool" = some none)
    (n_tuple : PySem.W.nsIn K mainGlobals "tuple" = some none) :
    ∃ fd : FuncData, (∀ (s : Shared) (v : Value), BindsTo s fd ⟨[v], []⟩ [("_law_script", v)]) ∧ ∀ base : Heap, K.In base → base.Ns mainGlobals mg → FnOk P w K mg base CX0 10 fa fd ["_law_script"] (sp_law K) := by
  have e := hfa.symm.trans (PySem.W.mg_of X G g_law)
  cases e
  have F_common := fun_mk (st := s_common) l_common c_common_ k_common
  have F_are_lots := fun_mk (st := s_are_lots) l_are_lots c_are_lots_ k_are_lots
  have F_Ratio___init__ : FunD K "__init__" "Ratio.__init__" (defArgs s_Ratio___init__) (defBody s_Ratio___init__) (defScope s_Ratio___init__) [V.int 1] [] f_Ratio___init__ _ := ⟨⟨_, _, _, _, _, _, _, _, _, _, rfl, l_Ratio___init__, c_Ratio___init___, .inr ⟨by simp, t_Ratio___init__, _, [.int 1 tk_one], _, rfl, t_Ratio___init___, rfl, (.cons ⟨_, rfl⟩ .nil)⟩, .inl rfl⟩, k_Ratio___init__⟩
  have F_Ratio___eq__ := fun_mk (st := s_Ratio___eq__) l_Ratio___eq__ c_Ratio___eq___ k_Ratio___eq__
  have F_End___init__ := fun_mk (st := s_End___init__) l_End___init__ c_End___init___ k_End___init__
  have F_Lot___init__ := fun_mk (st := s_Lot___init__) l_Lot___init__ c_Lot___init___ k_Lot___init__
  have F_Turn___init__ := fun_mk (st := s_Turn___init__) l_Turn___init__ c_Turn___init___ k_Turn___init__
  have F__collect := fun_mk (st := s__collect) l__collect c__collect_ k__collect
  have F_views_of := fun_mk (st := s_views_of) l_views_of c_views_of_ k_views_of
  have F_Plan___init__ := fun_mk (st := s_Plan___init__) l_Plan___init__ c_Plan___init___ k_Plan___init__
  have F_Plan_entries := fun_mk (st := s_Plan_entries) l_Plan_entries c_Plan_entries_ k_Plan_entries
  have F_pure := fun_mk (st := s_pure) l_pure c_pure_ k_pure
  have F_even := fun_mk (st := s_even) l_even c_even_ k_even
  have F_fits := fun_mk (st := s_fits) l_fits c_fits_ k_fits
  have F__law_cell := fun_mk (st := s__law_cell) l__law_cell c__law_cell_ k__law_cell
  have F__law_row := fun_mk (st := s__law_row) l__law_row c__law_row_ k__law_row
  have F__law_stages := fun_mk (st := s__law_stages) l__law_stages c__law_stages_ k__law_stages
  have F__law_paths := fun_mk (st := s__law_paths) l__law_paths c__law_paths_ k__law_paths
  have F__law_view := fun_mk (st := s__law_view) l__law_view c__law_view_ k__law_view
  have F__law_asked := fun_mk (st := s__law_asked) l__law_asked c__law_asked_ k__law_asked
  have F__law_met := fun_mk (st := s__law_met) l__law_met c__law_met_ k__law_met
  have F__law_node := fun_mk (st := s__law_node) l__law_node c__law_node_ k__law_node
  have F__law_plans := fun_mk (st := s__law_plans) l__law_plans c__law_plans_ k__law_plans
  have F_law := fun_mk (st := s_law) l_law c_law_ k_law
  have T : Txt P K mg ⟨f_common, _, f_are_lots, _, f_Ratio___init__, _, f_Ratio___eq__, _, f_End___init__, _, f_Lot___init__, _, f_Turn___init__, _, f__collect, _, f_views_of, _, f_Plan___init__, _, f_Plan_entries, _, f_pure, _, f_even, _, f_fits, _, f__law_cell, _, f__law_row, _, f__law_stages, _, f__law_paths, _, f__law_view, _, f__law_asked, _, f__law_met, _, f__law_node, _, f__law_plans, _, f_law, _, c_Ratio, c_End, c_Lot, c_Turn, c_Plan, c_BadPlan, i_BadPlan⟩ := ⟨F_common,
    (F_common.binds (ps := ["ratios"]) fun _ _ _ _ _ _ us hl => match us, hl with | [_], _ => rfl),
    (PySem.W.mg_of X G g_common),
    F_are_lots,
    (F_are_lots.binds (ps := ["ratios"]) fun _ _ _ _ _ _ us hl => match us, hl with | [_], _ => rfl),
    (PySem.W.mg_of X G g_are_lots),
    F_Ratio___init__,
    (F_Ratio___init__.binds1 (ps := ["self", "num", "den"]) 3 1 (by simp) rfl fun _ _ _ _ _ _ _ us its hu hi => match us, hu, its, hi with | [_, _, _], _, [_], _ => ⟨_, rfl, rfl⟩),
    (F_Ratio___init__.binds1 (ps := ["self", "num", "den"]) 2 0 (by simp) rfl fun _ _ _ _ _ _ _ us its hu hi => match us, hu, its, hi with | [_, _], _, [_], _ => ⟨_, rfl, rfl⟩),
    ⟨mk_Ratio, g_Ratio___init__, i_Ratio___init__, kc_Ratio⟩,
    F_Ratio___eq__,
    (F_Ratio___eq__.binds (ps := ["self", "other"]) fun _ _ _ _ _ _ us hl => match us, hl with | [_, _], _ => rfl),
    ⟨g_Ratio___eq__, i_Ratio___eq__, k_Ratio___eq__⟩,
    F_End___init__,
    (F_End___init__.binds (ps := ["self", "paid"]) fun _ _ _ _ _ _ us hl => match us, hl with | [_, _], _ => rfl),
    ⟨mk_End, g_End___init__, i_End___init__, kc_End⟩,
    F_Lot___init__,
    (F_Lot___init__.binds (ps := ["self", "parts"]) fun _ _ _ _ _ _ us hl => match us, hl with | [_, _], _ => rfl),
    ⟨mk_Lot, g_Lot___init__, i_Lot___init__, kc_Lot⟩,
    F_Turn___init__,
    (F_Turn___init__.binds (ps := ["self", "player", "view", "parts"]) fun _ _ _ _ _ _ us hl => match us, hl with | [_, _, _, _], _ => rfl),
    ⟨mk_Turn, g_Turn___init__, i_Turn___init__, kc_Turn⟩,
    F__collect,
    (F__collect.binds (ps := ["tree", "player", "found"]) fun _ _ _ _ _ _ us hl => match us, hl with | [_, _, _], _ => rfl),
    (PySem.W.mg_of X G g__collect),
    F_views_of,
    (F_views_of.binds (ps := ["tree", "player"]) fun _ _ _ _ _ _ us hl => match us, hl with | [_, _], _ => rfl),
    (PySem.W.mg_of X G g_views_of),
    F_Plan___init__,
    (F_Plan___init__.binds (ps := ["self", "entries"]) fun _ _ _ _ _ _ us hl => match us, hl with | [_, _], _ => rfl),
    ⟨mk_Plan, g_Plan___init__, i_Plan___init__, kc_Plan⟩,
    F_Plan_entries,
    (F_Plan_entries.binds (ps := ["self"]) fun _ _ _ _ _ _ us hl => match us, hl with | [_], _ => rfl),
    ⟨g_Plan_entries, i_Plan_entries, k_Plan_entries⟩,
    F_pure,
    (F_pure.binds (ps := ["views", "moves"]) fun _ _ _ _ _ _ us hl => match us, hl with | [_, _], _ => rfl),
    (PySem.W.mg_of X G g_pure),
    F_even,
    (F_even.binds (ps := ["views"]) fun _ _ _ _ _ _ us hl => match us, hl with | [_], _ => rfl),
    (PySem.W.mg_of X G g_even),
    F_fits,
    (F_fits.binds (ps := ["plan", "tree", "player"]) fun _ _ _ _ _ _ us hl => match us, hl with | [_, _, _], _ => rfl),
    (PySem.W.mg_of X G g_fits),
    F__law_cell,
    (F__law_cell.binds (ps := ["_law_script", "_law_k"]) fun _ _ _ _ _ _ us hl => match us, hl with | [_, _], _ => rfl),
    (PySem.W.mg_of X G g__law_cell),
    F__law_row,
    (F__law_row.binds (ps := ["_law_cell_here", "_law_count", "_law_size"]) fun _ _ _ _ _ _ us hl => match us, hl with | [_, _, _], _ => rfl),
    (PySem.W.mg_of X G g__law_row),
    F__law_stages,
    (F__law_stages.binds (ps := ["_law_script", "_law_most"]) fun _ _ _ _ _ _ us hl => match us, hl with | [_, _], _ => rfl),
    (PySem.W.mg_of X G g__law_stages),
    F__law_paths,
    (F__law_paths.binds (ps := ["_law_stages_here"]) fun _ _ _ _ _ _ us hl => match us, hl with | [_], _ => rfl),
    (PySem.W.mg_of X G g__law_paths),
    F__law_view,
    (F__law_view.binds (ps := ["_law_stages_here", "_law_path", "_law_player"]) fun _ _ _ _ _ _ us hl => match us, hl with | [_, _, _], _ => rfl),
    (PySem.W.mg_of X G g__law_view),
    F__law_asked,
    (F__law_asked.binds (ps := ["_law_stages_here", "_law_path"]) fun _ _ _ _ _ _ us hl => match us, hl with | [_, _], _ => rfl),
    (PySem.W.mg_of X G g__law_asked),
    F__law_met,
    (F__law_met.binds (ps := ["_law_stages_here", "_law_player"]) fun _ _ _ _ _ _ us hl => match us, hl with | [_, _], _ => rfl),
    (PySem.W.mg_of X G g__law_met),
    F__law_node,
    (F__law_node.binds (ps := ["_law_stages_here", "_law_paid", "_law_path"]) fun _ _ _ _ _ _ us hl => match us, hl with | [_, _, _], _ => rfl),
    (PySem.W.mg_of X G g__law_node),
    F__law_plans,
    (F__law_plans.binds (ps := ["_law_views", "_law_moves"]) fun _ _ _ _ _ _ us hl => match us, hl with | [_, _], _ => rfl),
    (PySem.W.mg_of X G g__law_plans),
    F_law,
    (F_law.binds (ps := ["_law_script"]) fun _ _ _ _ _ _ us hl => match us, hl with | [_], _ => rfl),
    (PySem.W.mg_of X G g_law),
    (PySem.W.mg_of X G C_Ratio),
    ⟨pg_Ratio, hd_Ratio, po_Ratio, sa_Ratio⟩,
    na_Ratio_num,
    na_Ratio_den,
    ⟨⟨pg_Ratio, hd_Ratio, po_Ratio, sa_Ratio⟩, ha_Ratio, hn_Ratio, ht_Ratio, hm_Ratio, by unfold PySem.W.kitOne; simp⟩,
    (PySem.W.mg_of X G C_End),
    ⟨pg_End, hd_End, po_End, sa_End⟩,
    na_End_paid,
    ⟨⟨pg_End, hd_End, po_End, sa_End⟩, ha_End, hn_End, ht_End, hm_End, by unfold PySem.W.kitOne; simp⟩,
    (PySem.W.mg_of X G C_Lot),
    ⟨pg_Lot, hd_Lot, po_Lot, sa_Lot⟩,
    na_Lot_parts,
    ⟨⟨pg_Lot, hd_Lot, po_Lot, sa_Lot⟩, ha_Lot, hn_Lot, ht_Lot, hm_Lot, by unfold PySem.W.kitOne; simp⟩,
    (PySem.W.mg_of X G C_Turn),
    ⟨pg_Turn, hd_Turn, po_Turn, sa_Turn⟩,
    na_Turn_player,
    na_Turn_view,
    na_Turn_parts,
    ⟨⟨pg_Turn, hd_Turn, po_Turn, sa_Turn⟩, ha_Turn, hn_Turn, ht_Turn, hm_Turn, by unfold PySem.W.kitOne; simp⟩,
    (PySem.W.mg_of X G C_Plan),
    ⟨pg_Plan, hd_Plan, po_Plan, sa_Plan⟩,
    na_Plan_table,
    (PySem.W.mg_of X G Cx_BadPlan),
    ⟨⟨_, _, _, _, _, _, _, _, _, _, _, _, _, _, _, xL_BadPlan, by rfl⟩, xsa_BadPlan, xno_BadPlan, xiC_BadPlan, xtC_BadPlan, xkC_BadPlan, xex_BadPlan, xty_BadPlan, xop_BadPlan, ksx_BadPlan, xve_BadPlan, xmc_BadPlan, (PySem.W.mg_none_of X G xsu_BadPlan), rflt_BadPlan, ⟨by decide, by decide, by decide, by decide, fun _ _ _ _ _ _ _ _ _ _ _ _ => rfl⟩, ⟨_, _, _, _, _, _, _, _, _, _, _, _, _, _, _, _, _, _, _, _, _, _, _, _, _, _, _, _, _, _, _, _, _, xl_BadPlan, xc_BadPlan, xda__BadPlan, rflv_BadPlan, rflf_BadPlan, xcc__BadPlan, _, fun _ => rfl⟩⟩,
    ⟨xga_BadPlan, xgg_BadPlan, xex_BadPlan, xhd_BadPlan⟩,
    (PySem.W.exm_ref xex_BadPlan xhd_BadPlan xty_BadPlan xsub_BadPlan),
    ⟨xicl_BadPlan, xga_BadPlan, xgg_BadPlan, xex_BadPlan, xha_BadPlan, xhn_BadPlan, xht_BadPlan, xhm_BadPlan⟩,
    ki_End_End,
    ki_End_Lot,
    ki_End_Turn,
    ki_Lot_End,
    ki_Lot_Lot,
    ki_Lot_Turn,
    ki_Turn_End,
    ki_Turn_Lot,
    ki_Turn_Turn,
    (PySem.W.mg_of X G gf_gcd),
    (PySem.W.mg_of X G gf_lcm),
    (PySem.W.mg_none_of X G n_all),
    (PySem.W.mg_none_of X G n_sum),
    (PySem.W.mg_none_of X G n_isinstance),
    (PySem.W.mg_none_of X G n_str),
    (PySem.W.mg_none_of X G n_len),
    (PySem.W.mg_none_of X G n_enumerate),
    (PySem.W.mg_none_of X G n_list),
    (PySem.W.mg_none_of X G n_zip),
    (PySem.W.mg_none_of X G n_int),
    (PySem.W.mg_none_of X G n_range),
    (PySem.W.mg_none_of X G n_dict),
    (PySem.W.mg_none_of X G n_bool),
    (PySem.W.mg_none_of X G n_tuple)⟩
  exact ⟨PySem.W.fnOf "law" "law" (defArgs s_law) (defBody s_law) (defScope s_law) .none kV_law dc_law pm_law an_law cd_law ct_law, fun s v => .of_eq rfl, fun base _ _ => G_law (P := P) (w := w) (base := base) T⟩
theorem walk {l : PySem.W.OpenLaw} {q : Program} {loose : List Str} {XP : (Str → Option Value) → Heap → Prop} {YP : World → Heap → Prop} {d : DefRec} {K : Params → PySem.W.Frag} (hn : l.most = some 63) (hdf : d.params.defaults = [])
    (hY : ∀ (w : World) (h : Heap), YP w h → (K w.params).In h)
    (F : ∀ (w : World) (mg : Str → Option Value) (fa : Addr) (h : Heap), (K w.params).In h → h.Ns mainGlobals mg → mg d.name = some (.ref fa) →
      ∃ fd : FuncData, (∀ (s : Shared) (u : Value), BindsTo s fd ⟨[u], []⟩ [("_law_script", u)]) ∧ ∀ base : Heap, (K w.params).In base → base.Ns mainGlobals mg → FnOk l.prog w (K w.params) mg base CX0 10 fa fd ["_law_script"] (sp_law (K w.params))) :
    PySem.W.WalkO q loose XP YP l.row.toRowW d [] (fun f vs => PySem.call f vs) :=
  L2.walk_of (n := 63) (k := 10) (x := "_law_script") (CX := fun _ => CX0) (sp := fun w => sp_law (K w.params)) hn (by decide) hdf ⟨rfl, by decide, by decide⟩ hY F (fun _ _ a ns hl _ hS => ⟨a, ns, rfl, hS, hl, fun _ => rfl⟩) fun _ _ _ _ _ z => z
end K42
open PySem PySem.W PyProof.Rows
set_option maxRecDepth 100000 in
set_option maxHeartbeats 0 in
theorem PySem.Challenge.cw_sureplay_k42_pure_and_even_plans_holds : PySem.Challenge.rw_sureplay_k42_pure_and_even_plans.Holds := by
  w_on; o_law; k_head; (case hw => w_witness2)
  k_fill
  refine K42.walk (l := PySem.Challenge.rw_sureplay_k42_pure_and_even_plans) rfl rfl (fun w h Y => PySem.W.kIn_of Y) ?F
  case F =>
    intro w mg fa h KX G hmg
    refine' K42.all_mk KX G hmg ?C_Ratio ?C_End ?C_Lot ?C_Turn ?C_Plan ?g_common ?i_common ?l_common ?c_common_ ?k_common ?g_are_lots ?i_are_lots ?l_are_lots ?c_are_lots_ ?k_are_lots ?g_Ratio___init__ ?i_Ratio___init__ ?l_Ratio___init__ ?t_Ratio___init___ ?c_Ratio___init___ ?k_Ratio___init__ ?g_Ratio___eq__ ?i_Ratio___eq__ ?l_Ratio___eq__ ?c_Ratio___eq___ ?k_Ratio___eq__ ?g_End___init__ ?i_End___init__ ?l_End___init__ ?c_End___init___ ?k_End___init__ ?g_Lot___init__ ?i_Lot___init__ ?l_Lot___init__ ?c_Lot___init___ ?k_Lot___init__ ?g_Turn___init__ ?i_Turn___init__ ?l_Turn___init__ ?c_Turn___init___ ?k_Turn___init__ ?g__collect ?i__collect ?l__collect ?c__collect_ ?k__collect ?g_views_of ?i_views_of ?l_views_of ?c_views_of_ ?k_views_of ?g_Plan___init__ ?i_Plan___init__ ?l_Plan___init__ ?c_Plan___init___ ?k_Plan___init__ ?g_Plan_entries ?i_Plan_entries ?l_Plan_entries ?c_Plan_entries_ ?k_Plan_entries ?g_pure ?i_pure ?l_pure ?c_pure_ ?k_pure ?g_even ?i_even ?l_even ?c_even_ ?k_even ?g_fits ?i_fits ?l_fits ?c_fits_ ?k_fits ?g__law_cell ?i__law_cell ?l__law_cell ?c__law_cell_ ?k__law_cell ?g__law_row ?i__law_row ?l__law_row ?c__law_row_ ?k__law_row ?g__law_stages ?i__law_stages ?l__law_stages ?c__law_stages_ ?k__law_stages ?g__law_paths ?i__law_paths ?l__law_paths ?c__law_paths_ ?k__law_paths ?g__law_view ?i__law_view ?l__law_view ?c__law_view_ ?k__law_view ?g__law_asked ?i__law_asked ?l__law_asked ?c__law_asked_ ?k__law_asked ?g__law_met ?i__law_met ?l__law_met ?c__law_met_ ?k__law_met ?g__law_node ?i__law_node ?l__law_node ?c__law_node_ ?k__law_node ?g__law_plans ?i__law_plans ?l__law_plans ?c__law_plans_ ?k__law_plans ?g_law ?i_law ?l_law ?c_law_ ?k_law ?pg_Ratio ?hd_Ratio ?po_Ratio ?sa_Ratio ?mk_Ratio ?kc_Ratio ?na_Ratio_num ?na_Ratio_den ?ha_Ratio ?hn_Ratio ?ht_Ratio ?hm_Ratio ?pg_End ?hd_End ?po_End ?sa_End ?mk_End ?kc_End ?na_End_paid ?ha_End ?hn_End ?ht_End ?hm_End ?pg_Lot ?hd_Lot ?po_Lot ?sa_Lot ?mk_Lot ?kc_Lot ?na_Lot_parts ?ha_Lot ?hn_Lot ?ht_Lot ?hm_Lot ?pg_Turn ?hd_Turn ?po_Turn ?sa_Turn ?mk_Turn ?kc_Turn ?na_Turn_player ?na_Turn_view ?na_Turn_parts ?ha_Turn ?hn_Turn ?ht_Turn ?hm_Turn ?pg_Plan ?hd_Plan ?po_Plan ?sa_Plan ?mk_Plan ?kc_Plan ?na_Plan_table ?Cx_BadPlan ?xL_BadPlan ?xsa_BadPlan ?xga_BadPlan ?xgg_BadPlan ?xhd_BadPlan ?xno_BadPlan ?xiC_BadPlan ?xtC_BadPlan ?xkC_BadPlan ?xex_BadPlan ?xty_BadPlan ?xop_BadPlan ?ksx_BadPlan ?xve_BadPlan ?xmc_BadPlan ?xsub_BadPlan ?xsu_BadPlan ?rflt_BadPlan ?xl_BadPlan ?xc_BadPlan ?xda__BadPlan ?rflv_BadPlan ?rflf_BadPlan ?xicl_BadPlan ?xha_BadPlan ?xhn_BadPlan ?xht_BadPlan ?xhm_BadPlan ?xcc__BadPlan ?ki_End_End ?ki_End_Lot ?ki_End_Turn ?ki_Lot_End ?ki_Lot_Lot ?ki_Lot_Turn ?ki_Turn_End ?ki_Turn_Lot ?ki_Turn_Turn ?gf_gcd ?gf_lcm ?n_all ?n_sum ?n_isinstance ?n_str ?n_len ?n_enumerate ?n_list ?n_zip ?n_int ?n_range ?n_dict ?n_bool ?n_tuple
    (case C_Ratio => k_is)
    (case C_End => k_is)
    (case C_Lot => k_is)
    (case C_Turn => k_is)
    (case C_Plan => k_is)
    (case g_common => k_is)
    (case i_common => k_is)
    (case l_common => k_is)
    (case c_common_ => k_is)
    (case k_common => k_is)
    (case g_are_lots => k_is)
    (case i_are_lots => k_is)
    (case l_are_lots => k_is)
    (case c_are_lots_ => k_is)
    (case k_are_lots => k_is)
    (case g_Ratio___init__ => k_is)
    (case i_Ratio___init__ => k_is)
    (case l_Ratio___init__ => k_is)
    (case t_Ratio___init___ => k_is)
    (case c_Ratio___init___ => k_is)
    (case k_Ratio___init__ => k_is)
    (case g_Ratio___eq__ => k_is)
    (case i_Ratio___eq__ => k_is)
    (case l_Ratio___eq__ => k_is)
    (case c_Ratio___eq___ => k_is)
    (case k_Ratio___eq__ => k_is)
    (case g_End___init__ => k_is)
    (case i_End___init__ => k_is)
    (case l_End___init__ => k_is)
    (case c_End___init___ => k_is)
    (case k_End___init__ => k_is)
    (case g_Lot___init__ => k_is)
    (case i_Lot___init__ => k_is)
    (case l_Lot___init__ => k_is)
    (case c_Lot___init___ => k_is)
    (case k_Lot___init__ => k_is)
    (case g_Turn___init__ => k_is)
    (case i_Turn___init__ => k_is)
    (case l_Turn___init__ => k_is)
    (case c_Turn___init___ => k_is)
    (case k_Turn___init__ => k_is)
    (case g__collect => k_is)
    (case i__collect => k_is)
    (case l__collect => k_is)
    (case c__collect_ => k_is)
    (case k__collect => k_is)
    (case g_views_of => k_is)
    (case i_views_of => k_is)
    (case l_views_of => k_is)
    (case c_views_of_ => k_is)
    (case k_views_of => k_is)
    (case g_Plan___init__ => k_is)
    (case i_Plan___init__ => k_is)
    (case l_Plan___init__ => k_is)
    (case c_Plan___init___ => k_is)
    (case k_Plan___init__ => k_is)
    (case g_Plan_entries => k_is)
    (case i_Plan_entries => k_is)
    (case l_Plan_entries => k_is)
    (case c_Plan_entries_ => k_is)
    (case k_Plan_entries => k_is)
    (case g_pure => k_is)
    (case i_pure => k_is)
    (case l_pure => k_is)
    (case c_pure_ => k_is)
    (case k_pure => k_is)
    (case g_even => k_is)
    (case i_even => k_is)
    (case l_even => k_is)
    (case c_even_ => k_is)
    (case k_even => k_is)
    (case g_fits => k_is)
    (case i_fits => k_is)
    (case l_fits => k_is)
    (case c_fits_ => k_is)
    (case k_fits => k_is)
    (case g__law_cell => k_is)
    (case i__law_cell => k_is)
    (case l__law_cell => k_is)
    (case c__law_cell_ => k_is)
    (case k__law_cell => k_is)
    (case g__law_row => k_is)
    (case i__law_row => k_is)
    (case l__law_row => k_is)
    (case c__law_row_ => k_is)
    (case k__law_row => k_is)
    (case g__law_stages => k_is)
    (case i__law_stages => k_is)
    (case l__law_stages => k_is)
    (case c__law_stages_ => k_is)
    (case k__law_stages => k_is)
    (case g__law_paths => k_is)
    (case i__law_paths => k_is)
    (case l__law_paths => k_is)
    (case c__law_paths_ => k_is)
    (case k__law_paths => k_is)
    (case g__law_view => k_is)
    (case i__law_view => k_is)
    (case l__law_view => k_is)
    (case c__law_view_ => k_is)
    (case k__law_view => k_is)
    (case g__law_asked => k_is)
    (case i__law_asked => k_is)
    (case l__law_asked => k_is)
    (case c__law_asked_ => k_is)
    (case k__law_asked => k_is)
    (case g__law_met => k_is)
    (case i__law_met => k_is)
    (case l__law_met => k_is)
    (case c__law_met_ => k_is)
    (case k__law_met => k_is)
    (case g__law_node => k_is)
    (case i__law_node => k_is)
    (case l__law_node => k_is)
    (case c__law_node_ => k_is)
    (case k__law_node => k_is)
    (case g__law_plans => k_is)
    (case i__law_plans => k_is)
    (case l__law_plans => k_is)
    (case c__law_plans_ => k_is)
    (case k__law_plans => k_is)
    (case g_law => k_is)
    (case i_law => k_is)
    (case l_law => k_is)
    (case c_law_ => k_is)
    (case k_law => k_is)
    (case pg_Ratio => k_is)
    (case hd_Ratio => k_is)
    (case po_Ratio => k_is)
    (case sa_Ratio => k_is)
    (case mk_Ratio => k_is)
    (case kc_Ratio => k_is)
    (case na_Ratio_num => k_is)
    (case na_Ratio_den => k_is)
    (case ha_Ratio => k_is)
    (case hn_Ratio => k_is)
    (case ht_Ratio => k_is)
    (case hm_Ratio => k_is)
    (case pg_End => k_is)
    (case hd_End => k_is)
    (case po_End => k_is)
    (case sa_End => k_is)
    (case mk_End => k_is)
    (case kc_End => k_is)
    (case na_End_paid => k_is)
    (case ha_End => k_is)
    (case hn_End => k_is)
    (case ht_End => k_is)
    (case hm_End => k_is)
    (case pg_Lot => k_is)
    (case hd_Lot => k_is)
    (case po_Lot => k_is)
    (case sa_Lot => k_is)
    (case mk_Lot => k_is)
    (case kc_Lot => k_is)
    (case na_Lot_parts => k_is)
    (case ha_Lot => k_is)
    (case hn_Lot => k_is)
    (case ht_Lot => k_is)
    (case hm_Lot => k_is)
    (case pg_Turn => k_is)
    (case hd_Turn => k_is)
    (case po_Turn => k_is)
    (case sa_Turn => k_is)
    (case mk_Turn => k_is)
    (case kc_Turn => k_is)
    (case na_Turn_player => k_is)
    (case na_Turn_view => k_is)
    (case na_Turn_parts => k_is)
    (case ha_Turn => k_is)
    (case hn_Turn => k_is)
    (case ht_Turn => k_is)
    (case hm_Turn => k_is)
    (case pg_Plan => k_is)
    (case hd_Plan => k_is)
    (case po_Plan => k_is)
    (case sa_Plan => k_is)
    (case mk_Plan => k_is)
    (case kc_Plan => k_is)
    (case na_Plan_table => k_is)
    (case Cx_BadPlan => k_is)
    (case xL_BadPlan => k_is)
    (case xsa_BadPlan => k_is)
    (case xga_BadPlan => k_is)
    (case xgg_BadPlan => k_is)
    (case xhd_BadPlan => k_is)
    (case xno_BadPlan => k_is)
    (case xiC_BadPlan => k_is)
    (case xtC_BadPlan => k_is)
    (case xkC_BadPlan => k_is)
    (case xex_BadPlan => k_is)
    (case xty_BadPlan => k_is)
    (case xop_BadPlan => k_is)
    (case ksx_BadPlan => ks_is)
    (case xve_BadPlan => k_is)
    (case xmc_BadPlan => k_is)
    (case xsub_BadPlan => k_is)
    (case xsu_BadPlan => k_is)
    (case rflt_BadPlan => first | rfl | decide +kernel | kernel_rfl)
    (case xl_BadPlan => k_is)
    (case xc_BadPlan => k_is)
    (case xda__BadPlan => k_is)
    (case rflv_BadPlan => first | rfl | decide +kernel | kernel_rfl)
    (case rflf_BadPlan => first | rfl | decide +kernel | kernel_rfl)
    (case xicl_BadPlan => k_is)
    (case xha_BadPlan => k_is)
    (case xhn_BadPlan => k_is)
    (case xht_BadPlan => k_is)
    (case xhm_BadPlan => k_is)
    (case xcc__BadPlan => k_is)
    (case ki_End_End => kit_is)
    (case ki_End_Lot => kit_is)
    (case ki_End_Turn => kit_is)
    (case ki_Lot_End => kit_is)
    (case ki_Lot_Lot => kit_is)
    (case ki_Lot_Turn => kit_is)
    (case ki_Turn_End => kit_is)
    (case ki_Turn_Lot => kit_is)
    (case ki_Turn_Turn => kit_is)
    (case gf_gcd => k_is)
    (case gf_lcm => k_is)
    (case n_all => k_is)
    (case n_sum => k_is)
    (case n_isinstance => k_is)
    (case n_str => k_is)
    (case n_len => k_is)
    (case n_enumerate => k_is)
    (case n_list => k_is)
    (case n_zip => k_is)
    (case n_int => k_is)
    (case n_range => k_is)
    (case n_dict => k_is)
    (case n_bool => k_is)
    (case n_tuple => k_is)
#print axioms PySem.Challenge.cw_sureplay_k42_pure_and_even_plans_holds
