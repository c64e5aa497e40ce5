import PyProof.Rows.All
import Wide.All
import OpenK.AllK
import Wide.FinOn
import HandS.ForMost
import HandS.More
import HandS.Wide
import HandS.Steps
import HandS.TupAny
import HandS.IsInst
import HandS.Defaults
import HandS.Head0
import HandS.Head1
import HandS.Head2
import HandS.HeadEnd
import HandS.HeadHook1
import HandS.HeadHook2
import HandS.Property
import HandS.Style
import KE.GoesMore
import KE.GoesEnum
import KE.KIntText
import PyProof.Rows.StrOr
import HandS.Codes
import HandS.Text
import PySem.Challenge.RW_formsalike_k05_layout_of_numbers
set_option Elab.async false
set_option linter.all false
set_option maxRecDepth 100000
set_option maxHeartbeats 4000000
namespace Fa
open PySem PySem.Spec PyProof.Rows L2
abbrev FnP (K : PySem.W.Frag) (x qual : Str) (st : Stmt) (f : Addr) (fd : FuncData) : Prop := FunD K x qual (defArgs st) (defBody st) (defScope st) [] [] f fd
/-! ### a def that is called by its name -/
structure Cal (P : Program) (w : World) (K : PySem.W.Frag) (mg : Str → Option Value) (base : Heap) (k : Nat) (x : Str) (sp : Sp) : Prop where
  ex : ∃ (f : Addr) (fd : FuncData) (ps : List Str), FnOk P w K mg base CX0 k f fd ps sp ∧ mg x = some (.ref f) ∧ PySem.W.keepIn K (.ref f) = true ∧ Binds K fd ps []
section
variable {X : Cx} {k : Nat} {x : Str} {sp : Sp} {p pos : Pos} {e : Expr} {es : List Expr} {t : TA}
theorem pe_callC (c : Cal X.prog X.w X.K X.mg X.base k x sp) (hr : Room k X.A) (hg : Gl X x) (ha : PA X (e :: es) t) (hdb : (x == ("__debug__" : Str)) = false := by decide) (he : starEach (e :: es) X.env = (false, eval e X.env) :: starEach es X.env := by rfl) (hpl : (backTo pos (starEach es X.env)).any (·.1) = false := by rfl) :
    PE X (.Call (.Name x p) (e :: es) [] pos) (tCall sp [] E0 t) := by
  obtain ⟨f, fd, ps, F, m, kp, b⟩ := c.ex
  exact pe_call F hr hg m kp b .nil pass0 ha hdb he hpl
theorem pe_callC0 (c : Cal X.prog X.w X.K X.mg X.base k x sp) (hr : Room k X.A) (hg : Gl X x) (hdb : (x == ("__debug__" : Str)) = false := by decide) :
    PE X (.Call (.Name x p) [] [] pos) (tCall sp [] E0 tNil) := by
  obtain ⟨f, fd, ps, F, m, kp, b⟩ := c.ex
  exact pe_call0 F hr hg m kp b .nil pass0 hdb
theorem pe_globI {i : Int} (hg : Gl X x) (hm : ∃ t, X.mg x = some (.int i t)) (hd : (x == ("__debug__" : Str)) = false := by decide) : PE X (.Name x pos) (tC (.int i)) := by
  obtain ⟨t, m⟩ := hm
  exact pe_glob hg m ⟨t, rfl⟩ hd
theorem pe_globS {i : Str} (hg : Gl X x) (hm : ∃ t, X.mg x = some (.str i t)) (hd : (x == ("__debug__" : Str)) = false := by decide) : PE X (.Name x pos) (tC (.str i)) := by
  obtain ⟨t, m⟩ := hm
  exact pe_glob hg m ⟨t, rfl⟩ hd
theorem pe_globR {a : Addr} (hg : Gl X x) (m : X.mg x = some (.ref a)) (hd : (x == ("__debug__" : Str)) = false := by decide) : PE X (.Name x pos) (tC (.ref a)) := pe_glob hg m rfl hd
end
/-! ### operations by names -/
def rAddI : R2 := rI0 fun i j => .int (i + j)
def rSubI : R2 := rI0 fun i j => .int (i - j)
def rMulI : R2 := rI CMul fun i j => .int (i * j)
def rMulW : R2 := rI CMulW fun i j => .int (i * j)
def rDivI : R2 := rI CDiv fun i j => .int (i / j)
def rDivW : R2 := rI CDivW fun i j => .int (i / j)
def rModI : R2 := rI (fun _ j => 0 < j) fun i j => .int (i % j)
def rPowI : R2 := rI CPow fun i j => .int (i ^ j.toNat)
def rShlI : R2 := rI CPow fun i j => .int (i * 2 ^ j.toNat)
def rShrI : R2 := rI (fun _ j => 0 ≤ j) fun i j => .int (i / 2 ^ j.toNat)
def rAndI : R2 := rI0 fun i j => .int (Builtin.bitAnd i j)
def rLtI : R2 := rI0 fun i j => .bl (decide (i < j))
def rLeI : R2 := rI0 fun i j => .bl (decide (i ≤ j))
def rGtI : R2 := rI0 fun i j => .bl (decide (j < i))
def rGeI : R2 := rI0 fun i j => .bl (decide (j ≤ i))
def rNegI : V → Hp → VK → Prop := rU fun i => .int (-i)
def rAddS : R2 := fun x y H Q => ∃ i j, x = .str i ∧ y = .str j ∧ i.length + j.length ≤ sizeLine ∧ Q (.str (i ++ j)) H
def rLtS : R2 := fun x y H Q => ∃ i j, x = .str i ∧ y = .str j ∧ Q (.bl (decide (i.cps.toList < j.cps.toList))) H
def rAbs : List V → Hp → VK → Prop := fun xs H Q => ∃ i, xs = [.int i] ∧ Q (.int (if i < 0 then -i else i)) H
def rInt1 : List V → Hp → VK → Prop := fun xs H Q => (∃ i, xs = [.int i] ∧ Q (.int i) H) ∨ ∃ k, xs = [.bl k] ∧ Q (.int (if k then 1 else 0)) H
def rBool1 : List V → Hp → VK → Prop := fun xs H Q => (∃ i, xs = [.int i] ∧ Q (.bl (i != 0)) H) ∨ ∃ k, xs = [.bl k] ∧ Q (.bl k) H
def rStrI : List V → Hp → VK → Prop := fun xs H Q => ∃ i, xs = [.int i] ∧ i.natAbs.log2 < 1920 ∧ Q (.str (toString i)) H
def rOrd : List V → Hp → VK → Prop := fun xs H Q => ∃ x, xs = [.str x] ∧ x.length = 1 ∧ Q (.int (x.cps.getD 0 0 : Nat)) H
def rChr : List V → Hp → VK → Prop := fun xs H Q => ∃ i, xs = [.int i] ∧ 0 ≤ i ∧ i ≤ 1114111 ∧ Q (.str ⟨#[i.toNat]⟩) H
def rMax2 : List V → Hp → VK → Prop := fun xs H Q => ∃ i j, xs = [.int i, .int j] ∧ Q (.int (if j > i then j else i)) H
def rMin2 : List V → Hp → VK → Prop := fun xs H Q => ∃ i j, xs = [.int i, .int j] ∧ Q (.int (if j < i then j else i)) H
def rLenQ (K : PySem.W.Frag) : List V → Hp → VK → Prop := fun xs H Q => ∃ p ys, xs = [.ref p] ∧ (SqL K H p ys ∨ SqT K H p ys) ∧ Q (.int ys.length) H
def rLenS : List V → Hp → VK → Prop := fun xs H Q => ∃ z, xs = [.str z] ∧ z.length ≤ sizeLine ∧ Q (.int z.length) H
def rListOf (K : PySem.W.Frag) : List V → Hp → VK → Prop := fun xs H Q => ∃ p ys, xs = [.ref p] ∧ (SqL K H p ys ∨ SqT K H p ys) ∧ ∀ l, H l = none → Q (.ref l) (upd H l (.lst ys))
def rTupOf (K : PySem.W.Frag) : List V → Hp → VK → Prop := fun xs H Q => ∃ p ys, xs = [.ref p] ∧ ((SqL K H p ys ∧ ∀ l, H l = none → Q (.ref l) (upd H l (.tup ys))) ∨ (SqT K H p ys ∧ Q (.ref p) H))
/-! ### heaps -/
/-- all that was tracked, but for what stands in S, is as it was -/
def Keep (S : List Addr) (H H1 : Hp) : Prop := ∀ a o, a ∉ S → H a = some o → H1 a = some o
theorem Keep.refl {S : List Addr} (H : Hp) : Keep S H H := fun _ _ _ h => h
theorem Keep.trans {S : List Addr} {H H1 H2 : Hp} (a : Keep S H H1) (b : Keep S H1 H2) : Keep S H H2 := fun x o n h => b x o n (a x o n h)
theorem Keep.mono {S S' : List Addr} {H H1 : Hp} (a : Keep S H H1) (h : ∀ x, x ∈ S → x ∈ S') : Keep S' H H1 := fun x o n e => a x o (fun z => n (h x z)) e
theorem Keep.all {S : List Addr} {H H1 : Hp} (a : Keep [] H H1) : Keep S H H1 := a.mono (fun _ h => by cases h)
theorem Keep.new {S : List Addr} {H : Hp} {p : Addr} {o : HO} (h : H p = none) : Keep S H (upd H p o) := fun a u _ e => by
  rw [upd_ne (ne_of_none e h)]
  exact e
theorem Keep.put {S : List Addr} {H H1 : Hp} {p : Addr} {o : HO} (k : Keep S H H1) (h : p ∈ S ∨ H p = none) : Keep S H (upd H1 p o) := fun a u n e => by
  rcases h with h | h
  · rw [upd_ne (fun z => n (by rw [z]; exact h))]
    exact k a u n e
  · rw [upd_ne (ne_of_none e h)]
    exact k a u n e
theorem Keep.rd {S : List Addr} {H H1 : Hp} {a : Addr} {u : HO} (k : Keep S H H1) (n : a ∉ S) (h : Rd H a u) : Rd H1 a u := by
  rcases h with h | ⟨o, h⟩
  · exact .inl (k a _ n h)
  · exact .inr ⟨o, k a _ n h⟩
theorem Keep.sqL {S : List Addr} {K : PySem.W.Frag} {H H1 : Hp} {a : Addr} {xs : List V} (k : Keep S H H1) (n : a ∉ S) (h : SqL K H a xs) : SqL K H1 a xs := by
  rcases h with h | h
  · exact .inl (k.rd n h)
  · exact .inr h
theorem Keep.sqT {S : List Addr} {K : PySem.W.Frag} {H H1 : Hp} {a : Addr} {xs : List V} (k : Keep S H H1) (n : a ∉ S) (h : SqT K H a xs) : SqT K H1 a xs := by
  rcases h with h | h
  · exact .inl (k.rd n h)
  · exact .inr h
theorem Keep.fresh {S : List Addr} {H H1 : Hp} {a : Addr} (k : Keep S H H1) (n : a ∉ S) (h : H1 a = none) : H a = none := by
  cases e : H a with
  | none => rfl
  | some o =>
    rw [k a o n e] at h
    cases h
/-! ### to read a term forwards: one rule a construct -/
section
variable {K : PySem.W.Frag} {σ : L2.St} {H : Hp} {Q : VK} {D : Ends} {t u : TS} {te ta tb tc : TE} {tt tt2 : TT} {i j : Int} {n : Nat} {v x y : V} {r r2 : R2} {b : Bool} {ar : TA} {A B : Prop} {QT : Bool → Hp → Prop} {QA : List V → Hp → Prop}
theorem i_seq (h : t { D with nx := u D } σ H) : tSeq t u D σ H := h
theorem i_asg (h : te σ H fun x H1 => D.nx (σ.set n (some x)) H1) : tAsg te (gName n) D σ H := h
theorem i_asgG {g : TG} (h : te σ H fun x H1 => g x σ H1 D.nx) : tAsg te g D σ H := h
theorem i_ret (h : te σ H D.rt) : tRet te D σ H := h
theorem i_retN (h : D.rt .non H) : tRetN D σ H := h
theorem i_drop (h : te σ H fun _ H1 => D.nx σ H1) : tDrop te D σ H := h
theorem i_ifS (h : tt σ H fun b H1 => if b = true then t D σ H1 else u D σ H1) : tIfS tt t u D σ H := h
theorem i_next (h : D.nx σ H) : tNext D σ H := h
theorem i_cont (h : D.ct σ H) : tCont D σ H := h
theorem i_break (h : D.bk σ H) : tBreak D σ H := h
theorem i_var (e : σ[n]? = some (some v)) (h : Q v H) : tVar n σ H Q := ⟨v, e, h⟩
theorem i_c (h : Q v H) : tC v σ H Q := h
theorem i_op (h : ta σ H fun x H1 => tb σ H1 fun y H2 => r x y H2 Q) : tOp r ta tb σ H Q := h
theorem i_un {f : V → Hp → VK → Prop} (h : ta σ H fun x H1 => f x H1 Q) : tUn f ta σ H Q := h
theorem i_nil (h : QA [] H) : tNil σ H QA := h
theorem i_cons (h : ta σ H fun x H1 => ar σ H1 fun xs H2 => QA (x :: xs) H2) : tCons ta ar σ H QA := h
theorem i_call {sp : Sp} {E : XK} (h : ar σ H fun vs H1 => sp vs H1 Q E) : tCall sp [] E ar σ H Q := by
  show ar σ H fun vs H1 => sp (vs ++ []) H1 Q E
  simpa only [List.append_nil] using h
theorem i_cb {f : List V → Hp → VK → Prop} (h : ar σ H fun vs H1 => f vs H1 Q) : tCB f ar σ H Q := h
theorem i_test (h : ta σ H fun x H' => ∃ k, x = .bl k ∧ QT k H') : tTest ta σ H QT := h
theorem i_tB (h : ta σ H fun x H' => ∃ k, x = .bl k ∧ QT k H') : tB ta σ H QT := h
theorem i_bl (h : QT b H) : ∃ k, V.bl b = .bl k ∧ QT k H := ⟨b, rfl, h⟩
theorem i_and (h : tt σ H fun c H1 => if c = true then tt2 σ H1 QT else QT false H1) : tAnd tt tt2 σ H QT := h
theorem i_or (h : tt σ H fun c H1 => if c = true then QT true H1 else tt2 σ H1 QT) : tOr tt tt2 σ H QT := h
theorem i_not (h : tt σ H fun c H1 => QT (!c) H1) : tNot tt σ H QT := h
theorem i_andV (h : ta σ H fun x H1 => ∃ c, x = .bl c ∧ if c = true then tb σ H1 Q else Q (.bl false) H1) : tAndV ta tb σ H Q := h
theorem i_orV (h : ta σ H fun x H1 => ∃ c, x = .bl c ∧ if c = true then Q (.bl true) H1 else tb σ H1 Q) : tOrV ta tb σ H Q := h
theorem i_notV (h : ta σ H fun x H1 => ∃ c, x = .bl c ∧ Q (.bl (!c)) H1) : tNotV ta σ H Q := h
theorem i_chain (h : ta σ H fun x H1 => tb σ H1 fun y H2 => r x y H2 fun z H3 => ∃ k, z = .bl k ∧ (if k = true then tc σ H3 fun w' H4 => r2 y w' H4 Q else Q (.bl false) H3)) : tChain r r2 ta tb tc σ H Q := h
theorem i_if (h : tt σ H fun c H1 => if c = true then ta σ H1 Q else tb σ H1 Q) : tIf tt ta tb σ H Q := h
theorem i_ex {P : Bool → Prop} (h : P b) : ∃ c, V.bl b = .bl c ∧ P c := ⟨b, rfl, h⟩
theorem i_T (h : A) : if true = true then A else B := iteT h
theorem i_F (h : B) : if false = true then A else B := iteF h
theorem i_NT (h : B) : if (!true) = true then A else B := iteF h
theorem i_NF (h : A) : if (!false) = true then A else B := iteT h
theorem i_NN {c : Bool} (h : if c = true then A else B) : if (!!c) = true then A else B := by rw [Bool.not_not]; exact h
theorem i_NDT {c : Prop} [Decidable c] (h : ¬ c) (h1 : A) : if (!decide c) = true then A else B := by rw [decide_eq_false h]; exact iteT h1
theorem i_NDF {c : Prop} [Decidable c] (h : c) (h1 : B) : if (!decide c) = true then A else B := by rw [decide_eq_true h]; exact iteF h1
theorem i_D {c : Prop} [Decidable c] (h1 : c → A) (h2 : ¬ c → B) : if decide c = true then A else B := by
  by_cases h : c
  · rw [decide_eq_true h]; exact i_T (h1 h)
  · rw [decide_eq_false h]; exact i_F (h2 h)
theorem i_ND {c : Prop} [Decidable c] (h1 : ¬ c → A) (h2 : c → B) : if (!decide c) = true then A else B := by
  by_cases h : c
  · rw [decide_eq_true h]; exact i_F (h2 h)
  · rw [decide_eq_false h]; exact i_T (h1 h)
theorem i_DT {c : Prop} [Decidable c] (h : c) (h1 : A) : if decide c = true then A else B := by rw [decide_eq_true h]; exact i_T h1
theorem i_DF {c : Prop} [Decidable c] (h : ¬ c) (h1 : B) : if decide c = true then A else B := by rw [decide_eq_false h]; exact i_F h1
theorem i_B (c : Bool) (h1 : c = true → A) (h2 : c = false → B) : if c = true then A else B := by
  cases c
  · exact i_F (h2 rfl)
  · exact i_T (h1 rfl)
theorem i_add (h : Q (.int (i + j)) H) : rAddI (.int i) (.int j) H Q := ⟨i, j, rfl, rfl, h⟩
theorem i_sub (h : Q (.int (i - j)) H) : rSubI (.int i) (.int j) H Q := ⟨i, j, rfl, rfl, h⟩
theorem i_mul (c : CMul i j) (h : Q (.int (i * j)) H) : rMulI (.int i) (.int j) H Q := ⟨i, j, rfl, rfl, c, h⟩
theorem i_mulL (c : -(2 ^ 64) < i ∧ i < 2 ^ 64) (h : Q (.int (i * j)) H) : rMulI (.int i) (.int j) H Q := ⟨i, j, rfl, rfl, .inl c, h⟩
theorem i_mulR (c : -(2 ^ 64) < j ∧ j < 2 ^ 64) (h : Q (.int (i * j)) H) : rMulI (.int i) (.int j) H Q := ⟨i, j, rfl, rfl, .inr c, h⟩
theorem i_mulW (c : CMulW i j) (h : Q (.int (i * j)) H) : rMulW (.int i) (.int j) H Q := ⟨i, j, rfl, rfl, c, h⟩
theorem i_div (c : 0 < j ∧ j < 1073741824) (h : Q (.int (i / j)) H) : rDivI (.int i) (.int j) H Q := ⟨i, j, rfl, rfl, c, h⟩
theorem i_divW (c : CDivW i j) (h : Q (.int (i / j)) H) : rDivW (.int i) (.int j) H Q := ⟨i, j, rfl, rfl, c, h⟩
theorem i_mod (c : 0 < j) (h : Q (.int (i % j)) H) : rModI (.int i) (.int j) H Q := ⟨i, j, rfl, rfl, c, h⟩
theorem i_pow (c : 0 ≤ j ∧ j ≤ 1000000 ∧ i.natAbs < 2 ^ 64) (h : Q (.int (i ^ j.toNat)) H) : rPowI (.int i) (.int j) H Q := ⟨i, j, rfl, rfl, c, h⟩
theorem i_shl (c : 0 ≤ j ∧ j ≤ 1000000 ∧ i.natAbs < 2 ^ 64) (h : Q (.int (i * 2 ^ j.toNat)) H) : rShlI (.int i) (.int j) H Q := ⟨i, j, rfl, rfl, c, h⟩
theorem i_shr (c : 0 ≤ j) (h : Q (.int (i / 2 ^ j.toNat)) H) : rShrI (.int i) (.int j) H Q := ⟨i, j, rfl, rfl, c, h⟩
theorem i_band (h : Q (.int (Builtin.bitAnd i j)) H) : rAndI (.int i) (.int j) H Q := ⟨i, j, rfl, rfl, h⟩
theorem i_lt (h : Q (.bl (decide (i < j))) H) : rLtI (.int i) (.int j) H Q := ⟨i, j, rfl, rfl, h⟩
theorem i_le (h : Q (.bl (decide (i ≤ j))) H) : rLeI (.int i) (.int j) H Q := ⟨i, j, rfl, rfl, h⟩
theorem i_gt (h : Q (.bl (decide (j < i))) H) : rGtI (.int i) (.int j) H Q := ⟨i, j, rfl, rfl, h⟩
theorem i_ge (h : Q (.bl (decide (j ≤ i))) H) : rGeI (.int i) (.int j) H Q := ⟨i, j, rfl, rfl, h⟩
theorem i_neg (h : Q (.int (-i)) H) : rNegI (.int i) H Q := ⟨i, rfl, h⟩
theorem dV {i j : Int} : decide (V.int i = V.int j) = decide (i = j) := by
  rw [dec_int]
  exact Bool.beq_eq_decide_eq i j
theorem i_eqI (h : Q (.bl (decide (i = j))) H) : rEq (.int i) (.int j) H Q := ⟨rfl, by rw [dV]; exact h⟩
theorem i_neI (h : Q (.bl (!decide (i = j))) H) : rNe (.int i) (.int j) H Q := ⟨rfl, by rw [dV]; exact h⟩
theorem i_eqS {i j : Str} (h : Q (.bl (decide (i = j))) H) : rEq (.str i) (.str j) H Q := ⟨rfl, by
  have e : decide (V.str i = V.str j) = decide (i = j) := by
    by_cases q : i = j
    · rw [decide_eq_true q, decide_eq_true (congrArg V.str q)]
    · rw [decide_eq_false q, decide_eq_false fun z => q (V.str.inj z)]
  rw [e]; exact h⟩
theorem i_neS {i j : Str} (h : Q (.bl (!decide (i = j))) H) : rNe (.str i) (.str j) H Q := ⟨rfl, by
  have e : decide (V.str i = V.str j) = decide (i = j) := by
    by_cases q : i = j
    · rw [decide_eq_true q, decide_eq_true (congrArg V.str q)]
    · rw [decide_eq_false q, decide_eq_false fun z => q (V.str.inj z)]
  rw [e]; exact h⟩
theorem i_neB {i j : Bool} (h : Q (.bl (!decide (i = j))) H) : rNe (.bl i) (.bl j) H Q := ⟨rfl, by
  have e : decide (V.bl i = V.bl j) = decide (i = j) := by cases i <;> cases j <;> rfl
  rw [e]; exact h⟩
theorem i_eqB {i j : Bool} (h : Q (.bl (decide (i = j))) H) : rEq (.bl i) (.bl j) H Q := ⟨rfl, by
  have e : decide (V.bl i = V.bl j) = decide (i = j) := by cases i <;> cases j <;> rfl
  rw [e]; exact h⟩
theorem i_isN (h : Q (.bl (decide (v = .non))) H) : rIsN v .non H Q := ⟨rfl, h⟩
theorem i_notN (h : Q (.bl (!decide (v = .non))) H) : rNotN v .non H Q := ⟨rfl, h⟩
theorem i_abs (h : Q (.int (if i < 0 then -i else i)) H) : rAbs [.int i] H Q := ⟨i, rfl, h⟩
theorem i_int1 (h : Q (.int i) H) : rInt1 [.int i] H Q := .inl ⟨i, rfl, h⟩
theorem i_int1b (h : Q (.int (if b then 1 else 0)) H) : rInt1 [.bl b] H Q := .inr ⟨b, rfl, h⟩
theorem i_max2 (h : Q (.int (if j > i then j else i)) H) : rMax2 [.int i, .int j] H Q := ⟨i, j, rfl, h⟩
theorem i_strI (c : i.natAbs.log2 < 1920) (h : Q (.str (toString i)) H) : rStrI [.int i] H Q := ⟨i, rfl, c, h⟩
theorem i_lenL {p : Addr} {ys : List V} (c : SqL K H p ys) (h : Q (.int ys.length) H) : rLenQ K [.ref p] H Q := ⟨p, ys, rfl, .inl c, h⟩
theorem i_lenT {p : Addr} {ys : List V} (c : SqT K H p ys) (h : Q (.int ys.length) H) : rLenQ K [.ref p] H Q := ⟨p, ys, rfl, .inr c, h⟩
theorem i_ixL {p : Addr} {ys : List V} (c : SqL K H p ys) (a : atI ys i = some v) (h : Q v H) : rIxL K (.ref p) (.int i) H Q := ⟨p, ys, i, v, rfl, rfl, c, a, h⟩
theorem i_ixT {p : Addr} {ys : List V} (c : SqT K H p ys) (a : atI ys i = some v) (h : Q v H) : rIxT K (.ref p) (.int i) H Q := ⟨p, ys, i, v, rfl, rfl, c, a, h⟩
/-- a new object stands at p, all else is as it was -/
structure NewAt (H : Hp) (p : Addr) (o : HO) (H1 : Hp) : Prop where
  free : H p = none
  at_ : H1 p = some o
  keep : ∀ S, Keep S H H1
theorem NewAt.mk' {p : Addr} {o : HO} (h : H p = none) : NewAt H p o (upd H p o) := ⟨h, upd_same, fun _ => .new h⟩
theorem NewAt.sqL {p : Addr} {xs : List V} {H1 : Hp} (h : NewAt H p (.lst xs) H1) : SqL K H1 p xs := SqL.of h.at_
theorem NewAt.sqT {p : Addr} {xs : List V} {H1 : Hp} (h : NewAt H p (.tup xs) H1) : SqT K H1 p xs := SqT.of h.at_
def NewL (xs : List V) (H : Hp) (Q : VK) : Prop := xs.length ≤ sizeLine ∧ ∀ p, H p = none → Q (.ref p) (upd H p (.lst xs))
def NewT (xs : List V) (H : Hp) (Q : VK) : Prop := xs.length ≤ sizeLine ∧ ∀ p, H p = none → Q (.ref p) (upd H p (.tup xs))
theorem i_lst (h : ar σ H fun xs H1 => NewL xs H1 Q) : tLst ar σ H Q := h
theorem i_tup (h : ar σ H fun xs H1 => NewT xs H1 Q) : tTup ar σ H Q := h
theorem small_of {n : Nat} (h : n ≤ 1000000) : n ≤ sizeLine := Nat.le_trans h (by decide)
theorem small_lt {n : Nat} (h : n < 1000000) : n < sizeLine := Nat.lt_of_lt_of_le h (by decide)
theorem i_newL {xs : List V} (c : xs.length ≤ 1000000) (h : ∀ p H1, NewAt H p (.lst xs) H1 → Q (.ref p) H1) : NewL xs H Q := ⟨small_of c, fun p np => h p _ (.mk' np)⟩
theorem i_newT {xs : List V} (c : xs.length ≤ 1000000) (h : ∀ p H1, NewAt H p (.tup xs) H1 → Q (.ref p) H1) : NewT xs H Q := ⟨small_of c, fun p np => h p _ (.mk' np)⟩
theorem i_append {to : TE} (h : to σ H fun o H1 => tyV K "list" o H1 ∧ ar σ H1 fun ys H2 => rAppend o ys H2 Q) : tBM K "list" rAppend to ar σ H Q := h
theorem i_app {p : Addr} {xs : List V} (e : H p = some (.lst xs)) (c : xs.length < 1000000) (h : Q .non (upd H p (.lst (xs ++ [v])))) : rAppend (.ref p) [v] H Q := ⟨p, xs, v, rfl, rfl, e, small_lt c, h⟩
theorem i_extend {to : TE} (h : to σ H fun o H1 => tyV K "list" o H1 ∧ ar σ H1 fun ys H2 => rExtend o ys H2 Q) : tBM K "list" rExtend to ar σ H Q := h
theorem i_ext {p q : Addr} {xs zs : List V} (e : H p = some (.lst xs)) (e2 : H q = some (.lst zs)) (c : xs.length + zs.length ≤ 1000000) (h : Q .non (upd H p (.lst (xs ++ zs)))) : rExtend (.ref p) [.ref q] H Q := ⟨p, q, xs, zs, rfl, rfl, e, e2, small_of c, h⟩
theorem i_cat {p q : Addr} {xs zs : List V} (e : H p = some (.lst xs)) (e2 : H q = some (.lst zs)) (c : xs.length + zs.length ≤ 1000000) (h : ∀ r H1, NewAt H r (.lst (xs ++ zs)) H1 → Q (.ref r) H1) : rCat (.ref p) (.ref q) H Q := ⟨p, q, xs, zs, rfl, rfl, e, e2, small_of c, fun r nr => h r _ (.mk' nr)⟩
theorem i_tupL {p : Addr} {xs : List V} (e : SqL K H p xs) (h : ∀ r H1, NewAt H r (.tup xs) H1 → Q (.ref r) H1) : rTupOf K [.ref p] H Q := ⟨p, xs, rfl, .inl ⟨e, fun r nr => h r _ (.mk' nr)⟩⟩
theorem i_lstOf {p : Addr} {xs : List V} (e : SqL K H p xs ∨ SqT K H p xs) (h : ∀ r H1, NewAt H r (.lst xs) H1 → Q (.ref r) H1) : rListOf K [.ref p] H Q := ⟨p, xs, rfl, e, fun r nr => h r _ (.mk' nr)⟩
theorem i_lenQ {p : Addr} {ys : List V} (c : SqL K H p ys ∨ SqT K H p ys) (h : Q (.int ys.length) H) : rLenQ K [.ref p] H Q := ⟨p, ys, rfl, c, h⟩
theorem i_sl {f : V → Option Int → Option Int → Hp → VK → Prop} {tl th : TO} (h : te σ H fun x H1 => tl σ H1 fun l H2 => th σ H2 fun u H3 => f x l u H3 Q) : tSl f te tl th σ H Q := h
theorem i_noPart {QO : Option Int → Hp → Prop} (h : QO none H) : tNoPart σ H QO := h
theorem i_part {QO : Option Int → Hp → Prop} (h : te σ H fun x H1 => ∃ i, x = .int i ∧ QO (some i) H1) : tPart te σ H QO := h
theorem i_partI {P : Int → Prop} (h : P i) : ∃ j, V.int i = .int j ∧ P j := ⟨i, rfl, h⟩
theorem i_slL {p : Addr} {xs : List V} {lo hi : Option Int} (e : SqL K H p xs) (h : ∀ r H1, NewAt H r (.lst (cutV xs lo hi)) H1 → Q (.ref r) H1) : rSlL K (.ref p) lo hi H Q := ⟨p, xs, rfl, e, fun r nr => h r _ (.mk' nr)⟩
theorem cutV_to (xs : List V) (k : Nat) : cutV xs none (some (k : Int)) = xs.take k := by
  unfold cutV
  rw [HT.sIx_none, HT.sIx_nat]
  rw [List.drop_zero, Nat.sub_zero]
  by_cases c : k ≤ xs.length
  · rw [Nat.min_eq_left c]
  · rw [Nat.min_eq_right (by omega), List.take_length, List.take_of_length_le (by omega)]
theorem cutV_from (xs : List V) (k : Nat) : cutV xs (some (k : Int)) none = xs.drop k := by
  unfold cutV
  rw [HT.sIx_none, HT.sIx_nat]
  by_cases c : k ≤ xs.length
  · rw [Nat.min_eq_left c, List.take_of_length_le (by rw [List.length_drop]; omega)]
  · rw [Nat.min_eq_right (by omega), List.drop_length, List.drop_of_length_le (by omega)]
    simp
theorem i_max1 {a : Addr} {x y : Int} (h : SqL K H a [.int x, .int y]) (hq : Q (.int (max x y)) H) : rMax K [.ref a] H Q := by
  refine ⟨a, [x, y], rfl, h, Nat.succ_pos _, fun m hm hy => ?_⟩
  have h1 := hy x (by simp)
  have h2 := hy y (by simp)
  have e : m = max x y := by
    simp at hm
    omega
  rw [e]
  exact hq
theorem i_min1 {a : Addr} {x y : Int} (h : SqL K H a [.int x, .int y]) (hq : Q (.int (min x y)) H) : rMin K [.ref a] H Q := by
  refine ⟨a, [x, y], rfl, h, Nat.succ_pos _, fun m hm hy => ?_⟩
  have h1 := hy x (by simp)
  have h2 := hy y (by simp)
  have e : m = min x y := by
    simp at hm
    omega
  rw [e]
  exact hq
theorem i_gSub {to ti : TE} {ts : TSet} {QS : L2.St → Hp → Prop} (h : to σ H fun o H1 => ti σ H1 fun i H2 => ts o i v H2 fun H3 => QS σ H3) : gSub to ti ts v σ H QS := h
theorem i_gName {QS : L2.St → Hp → Prop} (h : QS (σ.set n (some v)) H) : gName n v σ H QS := h
theorem i_setL {p : Addr} {xs : List V} {k : Int} {j : Nat} {QH : Hp → Prop} (e : H p = some (.lst xs)) (c : ixN xs.length k = some j) (h : QH (upd H p (.lst (xs.set j v)))) : rSetL (.ref p) (.int k) v H QH := ⟨p, xs, k, j, rfl, rfl, e, c, h⟩
theorem ty_lst {p : Addr} {xs : List V} (e : H p = some (.lst xs)) : tyV K "list" (.ref p) H := .inl ⟨rfl, _, SqL.of e⟩
end
/-! ### loops -/
section
variable {K : PySem.W.Frag} {σ : L2.St} {H : Hp} {Q : VK} {D : Ends} {g : TG} {tb : TS} {ar : TA} {te tl : TE} {wi : TI} {tt : TT} {vs : List Nat} {a : Addr} {xs : List V}
def ForK (J : It) (g : TG) (tb : TS) (D : Ends) (σ : L2.St) (H1 : Hp) : Prop := ∃ W : Nat → Nat → L2.St → Hp → Prop, (∃ m, W 0 m σ H1) ∧ ∀ i m σ H, W i m σ H →
  (J.stop i H ∧ D.nx σ H) ∨ (J.go i H ∧ ∃ N : L2.St → Hp → Prop, (∀ σ' H', N σ' H' → ∃ m', m' < m ∧ W (i + 1) m' σ' H') ∧ ∀ x H', J.yld i H x H' → g x σ H' fun σ2 H2 => tb { D with nx := N, ct := N, bk := D.nx } σ2 H2)
theorem i_for (h : wi σ H fun J H1 => ForK J g tb D σ H1) : tFor wi g tb D σ H := h
def RngK1 (vs : List V) (H : Hp) (R : It → Hp → Prop) : Prop := ∃ j : Int, vs = [.int j] ∧ -(2 ^ 62) ≤ j ∧ j < 2 ^ 62 ∧ R (Itr 0 j.toNat) H
def RngK2 (vs : List V) (H : Hp) (R : It → Hp → Prop) : Prop := ∃ i j : Int, vs = [.int i, .int j] ∧ (-(2 ^ 62) ≤ i ∧ i < 2 ^ 62 ∧ -(2 ^ 62) ≤ j ∧ j < 2 ^ 62) ∧ R (Itr i (j - i).toNat) H
theorem i_rng1 {R : It → Hp → Prop} (h : ar σ H fun vs H1 => RngK1 vs H1 R) : iRng1 ar σ H R := h
theorem i_rng2 {R : It → Hp → Prop} (h : ar σ H fun vs H1 => RngK2 vs H1 R) : iRng2 ar σ H R := h
theorem i_rngK1 {R : It → Hp → Prop} {j : Int} (c : -(2 ^ 62) ≤ j ∧ j < 2 ^ 62) (h : R (Itr 0 j.toNat) H) : RngK1 [.int j] H R := ⟨j, rfl, c.1, c.2, h⟩
theorem i_rngK2 {R : It → Hp → Prop} {i j : Int} (c : -(2 ^ 62) ≤ i ∧ i < 2 ^ 62 ∧ -(2 ^ 62) ≤ j ∧ j < 2 ^ 62) (h : R (Itr i (j - i).toNat) H) : RngK2 [.int i, .int j] H R := ⟨i, j, rfl, c, h⟩
def ListK (K : PySem.W.Frag) (x : V) (H : Hp) (R : It → Hp → Prop) : Prop := ∃ a, x = .ref a ∧ (∃ xs, SqL K H a xs) ∧ R (Itl K a) H
def TupK (K : PySem.W.Frag) (x : V) (H : Hp) (R : It → Hp → Prop) : Prop := ∃ a, x = .ref a ∧ (∃ xs, SqT K H a xs) ∧ R (Itt K a) H
theorem i_list {R : It → Hp → Prop} (h : tl σ H fun x H1 => ListK K x H1 R) : iList K tl σ H R := h
theorem i_tupI {R : It → Hp → Prop} (h : tl σ H fun x H1 => TupK K x H1 R) : iTup K tl σ H R := h
theorem i_listK {R : It → Hp → Prop} (c : SqL K H a xs) (h : R (Itl K a) H) : ListK K (.ref a) H R := ⟨a, rfl, ⟨xs, c⟩, h⟩
theorem i_tupK {R : It → Hp → Prop} (c : SqT K H a xs) (h : R (Itt K a) H) : TupK K (.ref a) H R := ⟨a, rfl, ⟨xs, c⟩, h⟩
/-- for k in range(n) -/
theorem f_rng {n : Nat} (Pv : Nat → L2.St → Hp → Prop) (h0 : Pv 0 σ H)
    (hs : ∀ i σ H, i < n → Pv i σ H → g (.int (i : Int)) σ H fun σ2 H2 => tb { D with nx := Pv (i + 1), ct := Pv (i + 1), bk := D.nx } σ2 H2) (hd : ∀ σ H, Pv n σ H → D.nx σ H) : ForK (Itr 0 n) g tb D σ H :=
  for_range (lo := 0) Pv h0 (fun i σ H hi hp => by have z := hs i σ H hi hp; simpa using z) hd
theorem f_rngL {lo : Int} {n : Nat} (Pv : Nat → L2.St → Hp → Prop) (h0 : Pv 0 σ H)
    (hs : ∀ i σ H, i < n → Pv i σ H → g (.int (lo + i)) σ H fun σ2 H2 => tb { D with nx := Pv (i + 1), ct := Pv (i + 1), bk := D.nx } σ2 H2) (hd : ∀ σ H, Pv n σ H → D.nx σ H) : ForK (Itr lo n) g tb D σ H :=
  for_range (lo := lo) Pv h0 hs hd
theorem f_list (Pv : Nat → L2.St → Hp → Prop) (h0 : Pv 0 σ H) (hl : ∀ i σ H, i ≤ xs.length → Pv i σ H → SqL K H a xs)
    (hs : ∀ i x σ H, xs[i]? = some x → Pv i σ H → g x σ H fun σ2 H2 => tb { D with nx := Pv (i + 1), ct := Pv (i + 1), bk := D.nx } σ2 H2) (hd : ∀ σ H, Pv xs.length σ H → D.nx σ H) : ForK (Itl K a) g tb D σ H :=
  for_list (xs := xs) Pv h0 hl hs hd
theorem f_tup (Pv : Nat → L2.St → Hp → Prop) (h0 : Pv 0 σ H) (hl : ∀ i σ H, i ≤ xs.length → Pv i σ H → SqT K H a xs)
    (hs : ∀ i x σ H, xs[i]? = some x → Pv i σ H → g x σ H fun σ2 H2 => tb { D with nx := Pv (i + 1), ct := Pv (i + 1), bk := D.nx } σ2 H2) (hd : ∀ σ H, Pv xs.length σ H → D.nx σ H) : ForK (Itt K a) g tb D σ H :=
  for_tup (xs := xs) Pv h0 hl hs hd
/-- a comprehension; Pv: the turn, the list so far, the heap -/
def LcK (J : It) (g : TG) (tt : TT) (te : TE) (vs : List Nat) (σ : L2.St) (H1 : Hp) (Q : VK) : Prop := ∀ D, H1 D = none → ∃ W : Nat → Nat → Hp → Prop, (∃ m, W 0 m (upd H1 D (.lst []))) ∧ ∀ i m H, W i m H →
  (J.stop i H ∧ Q (.ref D) H) ∨ (J.go i H ∧ ∃ Nx : Hp → Prop, (∀ H', Nx H' → ∃ m', m' < m ∧ W (i + 1) m' H') ∧ ∀ x H', J.yld i H x H' → g x (wipe σ vs) H' fun σ2 H2 => wipe σ2 vs = wipe σ vs ∧ tt σ2 H2 fun b H3 =>
    if b = true then te σ2 H3 fun y H4 => ∃ acc, H4 D = some (.lst acc) ∧ acc.length < sizeLine ∧ Nx (upd H4 D (.lst (acc ++ [y]))) else Nx H3)
theorem i_lc (h : wi σ H fun J H1 => LcK J g tt te vs σ H1 Q) : tLc wi g tt te vs σ H Q := h
theorem i_yes {QT : Bool → Hp → Prop} (h : QT true H) : tYes σ H QT := h
/-- the end of a turn of a comprehension -/
theorem i_lcN {D : Addr} {acc : List V} {y : V} {N : Hp → Prop} (e : H D = some (.lst acc)) (c : acc.length < 1000000) (h : N (upd H D (.lst (acc ++ [y])))) : ∃ acc, H D = some (.lst acc) ∧ acc.length < sizeLine ∧ N (upd H D (.lst (acc ++ [y]))) := ⟨acc, e, small_lt c, h⟩
theorem c_rng {n : Nat} (Pv : Addr → Nat → Hp → Prop) (h0 : ∀ D, H D = none → Pv D 0 (upd H D (.lst [])))
    (hs : ∀ D i H1, H D = none → i < n → Pv D i H1 → g (.int (i : Int)) (wipe σ vs) H1 fun σ2 H2 => wipe σ2 vs = wipe σ vs ∧ tt σ2 H2 fun b H3 =>
      if b = true then te σ2 H3 fun y H4 => ∃ acc, H4 D = some (.lst acc) ∧ acc.length < sizeLine ∧ Pv D (i + 1) (upd H4 D (.lst (acc ++ [y]))) else Pv D (i + 1) H3)
    (hd : ∀ D H1, H D = none → Pv D n H1 → Q (.ref D) H1) : LcK (Itr 0 n) g tt te vs σ H Q := fun D hD =>
  lc_range (lo := 0) (Pv D) (h0 D hD) (fun i H1 hi hp => by
    have z := hs D i H1 hD hi hp
    have e : (0 : Int) + (i : Int) = i := by omega
    rw [e]
    exact z) (fun H1 hp => hd D H1 hD hp)
theorem c_list (Pv : Addr → Nat → Hp → Prop) (h0 : ∀ D, H D = none → Pv D 0 (upd H D (.lst []))) (hl : ∀ D i H1, H D = none → i ≤ xs.length → Pv D i H1 → SqL K H1 a xs)
    (hs : ∀ D i x H1, H D = none → xs[i]? = some x → Pv D i H1 → g x (wipe σ vs) H1 fun σ2 H2 => wipe σ2 vs = wipe σ vs ∧ tt σ2 H2 fun b H3 =>
      if b = true then te σ2 H3 fun y H4 => ∃ acc, H4 D = some (.lst acc) ∧ acc.length < sizeLine ∧ Pv D (i + 1) (upd H4 D (.lst (acc ++ [y]))) else Pv D (i + 1) H3)
    (hd : ∀ D H1, H D = none → Pv D xs.length H1 → Q (.ref D) H1) : LcK (Itl K a) g tt te vs σ H Q := fun D hD =>
  lc_list (xs := xs) (Pv D) (h0 D hD) (fun i H1 hi hp => hl D i H1 hD hi hp) (fun i x H1 hi hp => hs D i x H1 hD hi hp) (fun H1 hp => hd D H1 hD hp)
theorem c_tup (Pv : Addr → Nat → Hp → Prop) (h0 : ∀ D, H D = none → Pv D 0 (upd H D (.lst []))) (hl : ∀ D i H1, H D = none → i ≤ xs.length → Pv D i H1 → SqT K H1 a xs)
    (hs : ∀ D i x H1, H D = none → xs[i]? = some x → Pv D i H1 → g x (wipe σ vs) H1 fun σ2 H2 => wipe σ2 vs = wipe σ vs ∧ tt σ2 H2 fun b H3 =>
      if b = true then te σ2 H3 fun y H4 => ∃ acc, H4 D = some (.lst acc) ∧ acc.length < sizeLine ∧ Pv D (i + 1) (upd H4 D (.lst (acc ++ [y]))) else Pv D (i + 1) H3)
    (hd : ∀ D H1, H D = none → Pv D xs.length H1 → Q (.ref D) H1) : LcK (Itt K a) g tt te vs σ H Q := fun D hD =>
  lc_tup (xs := xs) (Pv D) (h0 D hD) (fun i H1 hi hp => hl D i H1 hD hi hp) (fun i x H1 hi hp => hs D i x H1 hD hi hp) (fun H1 hp => hd D H1 hD hp)
end

/-! ### the head's facts: any that a program decides over the written part -/
abbrev Fx : Type := PySem.W.Frag → Bool
/-- a def: where it stands, its name, qualified name, parameters, body, scope, defaults -/
structure DefX where
  adr : PySem.W.Frag → Addr
  name : Str
  qual : Str
  params : Arguments
  body : List Stmt
  scope : Scope
  dfl : List He.Dv := []
def dX (adr : PySem.W.Frag → Addr) (name qual : Str) (st : Stmt) (dfl : List He.Dv := []) : DefX := ⟨adr, name, qual, defArgs st, defBody st, defScope st, dfl⟩
def fnX (K : PySem.W.Frag) (a : Addr) : He.FnW := match K.lookup a with
  | some ⟨_, _, .func fd, _⟩ => some (fd.name, fd.qualname, fd.params, fd.body, fd.scope, fd.globals, fd.closure, fd.builtins)
  | _ => none
def DefX.val (d : DefX) : He.FnW := some (d.name, d.qual, d.params, .stmts d.body, d.scope, mainGlobals, [], builtinsNs)
def DefX.dvs (K : PySem.W.Frag) (d : DefX) : List V := d.dfl.map (He.Dv.v K)
def DefX.ok (K : PySem.W.Frag) (d : DefX) : Bool := PySem.W.keepIn K (.ref (d.adr K)) && (match K.lookup (d.adr K) with
  | some ⟨_, _, .func fd, _⟩ => PySem.W.codeIn K fd.code d.qual && He.dflB K fd.defaults (d.dvs K)
  | _ => false)
theorem DefX.funD {K : PySem.W.Frag} {d : DefX} (e : fnX K (d.adr K) = d.val) (c : d.ok K = true) : ∃ fd, FunD K d.name d.qual d.params d.body d.scope (d.dvs K) [] (d.adr K) fd := by
  obtain ⟨kp, c2⟩ := He.ba c
  unfold fnX at e
  cases q : K.lookup (d.adr K) with
  | none =>
    rw [q] at c2
    cases c2
  | some o =>
    obtain ⟨oc, od, dt, osl⟩ := o
    rw [q] at c2 e
    cases dt with
    | func fd =>
      obtain ⟨n1, n2, n3, n4, n5, n6, n7, n8, n9, n10, n11, n12, n13, n14, n15⟩ := fd
      have e2 : (some (n1, n2, n3, n4, n5, n6, n7, n15) : He.FnW) = some (d.name, d.qual, d.params, .stmts d.body, d.scope, mainGlobals, [], builtinsNs) := e
      simp only [Option.some.injEq, Prod.mk.injEq] at e2
      obtain ⟨h1, h2, h3, h4, h5, h6, h7, h8⟩ := e2
      subst h1 h2 h3 h4 h5 h6 h7 h8
      obtain ⟨k1, k2⟩ := He.ba (show (PySem.W.codeIn K n13 d.qual && He.dflB K n8 (d.dvs K)) = true from c2)
      exact ⟨_, ⟨oc, od, n8, n9, n10, n11, n12, n13, n14, osl, rfl, q, k1, He.dflB_ok k2, .inl rfl⟩, kp⟩
    | _ => cases c2
abbrev AlX : Type := Bool × List He.FnW
def obsX (fs : List Fx) (fn : List DefX) (K : PySem.W.Frag) : AlX := ((fs.all fun f => f K) && fn.all fun d => d.ok K, fn.map fun d => fnX K (d.adr K))
def valX (fn : List DefX) : AlX := (true, fn.map DefX.val)
def SaysX (fs : List Fx) (fn : List DefX) (K : PySem.W.Frag) : Prop := obsX fs fn K = valX fn
/-- what the module's names reach, and the statics -/
def asX (n : Nat) (g : Addr → Option Obj) : List Addr := He.asD g n ++ [cStatics]
def obsXG (n : Nat) (fs : List Fx) (fn : List DefX) (g : Addr → Option Obj) : AlX := obsX fs fn (He.frG g (asX n g))
def hookX (n : Nat) (fs : List Fx) (fn : List DefX) : PySem.W.Hook where
  α := AlX
  obs := fun s => obsXG n fs fn s.heap.get?
  val := fun _ => valX fn
  says := fun _ h => ∃ K : PySem.W.Frag, K.In h ∧ SaysX fs fn K
  of := fun _ _ e => ⟨_, He.frG_in, e⟩
  keeps := fun _ _ _ ⟨K, hK, c⟩ k => ⟨K, PySem.W.Frag.In.keeps hK k, c⟩
theorem obsXG_eq {n : Nat} {fs : List Fx} {fn : List DefX} {g : Addr → Option Obj} {s : Shared} (h : ∀ a, g a = s.heap.get? a) : obsXG n fs fn g = (hookX n fs fn).obs s := by
  have e : g = s.heap.get? := funext h
  rw [e] <;> rfl
section
variable {fs : List Fx} {fn : List DefX} {K : PySem.W.Frag}
theorem SaysX.fact (c : SaysX fs fn K) (i : Nat) {f : Fx} (h : fs[i]? = some f := by rfl) : f K = true := by
  have c1 := (He.ba (show ((fs.all fun f => f K) && fn.all fun d => d.ok K) = true from congrArg (fun z : AlX => z.1) c)).1
  exact List.all_eq_true.mp c1 f (List.mem_of_getElem? h)
theorem SaysX.def_ (c : SaysX fs fn K) (i : Nat) {d : DefX} (h : fn[i]? = some d := by rfl) : ∃ fd, FunD K d.name d.qual d.params d.body d.scope (d.dvs K) [] (d.adr K) fd := by
  have c2 := (He.ba (show ((fs.all fun f => f K) && fn.all fun d => d.ok K) = true from congrArg (fun z : AlX => z.1) c)).2
  have e : fn.map (fun d => fnX K (d.adr K)) = fn.map DefX.val := congrArg (fun z : AlX => z.2) c
  have e2 : (fn.map fun d => fnX K (d.adr K))[i]? = (fn.map DefX.val)[i]? := by rw [e]
  rw [List.getElem?_map, List.getElem?_map, h] at e2
  exact DefX.funD (Option.some.inj e2) (List.all_eq_true.mp c2 d (List.mem_of_getElem? h))
end
/-! ### facts -/
def fFa (f : He.Fa) : Fx := fun K => f.ok K
def gA (x : Str) : PySem.W.Frag → Addr := fun K => He.ga K x
def mA (C m : Str) : PySem.W.Frag → Addr := fun K => He.ma K (He.ga K C) m
/-- the getter of a property -/
def pA (C m : Str) : PySem.W.Frag → Addr := fun K => match PySem.W.recIn K (mA C m K) "property" with
  | some (.ref g :: _) => g
  | _ => 0
def propB (C m : Str) : Fx := fun K => decide (PySem.W.findIn K (.ref (gA C K)) m = some (some (.ref (mA C m K)))) && (decide (PySem.W.specialIn K (.ref (mA C m K)) "__get__" = some (some (.builtin "property.__get__"))) && (decide (PySem.W.takesIn K (.ref (mA C m K)) = some true) &&
  (match PySem.W.recIn K (mA C m K) "property" with
  | some (.ref _ :: _) => true
  | _ => false)))
theorem propB_ok {K : PySem.W.Frag} {C m : Str} (h : propB C m K = true) : PropOf K (gA C K) m (mA C m K) (pA C m K) := by
  obtain ⟨h1, h⟩ := He.ba h
  obtain ⟨h2, h⟩ := He.ba h
  obtain ⟨h3, h4⟩ := He.ba h
  refine ⟨of_decide_eq_true h1, of_decide_eq_true h2, of_decide_eq_true h3, ?_⟩
  unfold pA
  cases q : PySem.W.recIn K (mA C m K) "property" with
  | none =>
    rw [q] at h4
    cases h4
  | some l =>
    rw [q] at h4
    match l, h4 with
    | .ref g :: r, _ => exact ⟨r, rfl⟩
/-! ### written constants: tuples at any depth -/
inductive Lit where
  | non | bl (b : Bool) | int (i : Int) | str (x : Str) | tup (ls : List Lit)
mutual
def litB (K : PySem.W.Frag) : Value → Lit → Bool
  | .none, .non => true
  | .bool b, .bl c => b == c
  | .int i _, .int j => decide (i = j)
  | .str x _, .str y => decide (x = y)
  | .ref a, .tup ls => (match K.lookup a with
    | some ⟨.type c, _, .seq its _, _⟩ => decide (c = "tuple") && (decide (its.size ≤ sizeLine) && litsB K its.toList ls)
    | _ => false)
  | _, _ => false
def litsB (K : PySem.W.Frag) : List Value → List Lit → Bool
  | [], [] => true
  | v :: vs, l :: ls => litB K v l && litsB K vs ls
  | _, _ => false
end
mutual
/-- v is, in the written part, the constant -/
def LitIs (K : PySem.W.Frag) : V → Lit → Prop
  | v, .non => v = .non
  | v, .bl b => v = .bl b
  | v, .int i => v = .int i
  | v, .str x => v = .str x
  | v, .tup ls => ∃ a xs, v = .ref a ∧ (∀ H, SqT K H a xs) ∧ LitsAre K xs ls
def LitsAre (K : PySem.W.Frag) : List V → List Lit → Prop
  | xs, [] => xs = []
  | xs, l :: ls => ∃ y ys, xs = y :: ys ∧ LitIs K y l ∧ LitsAre K ys ls
end
mutual
theorem litB_ok {K : PySem.W.Frag} : ∀ {l : Lit} {u : Value}, litB K u l = true → ∃ v, RelV v u ∧ LitIs K v l
  | .non, u, h => by
    cases u <;> first | exact ⟨.non, rfl, rfl⟩ | (simp [litB] at h)
  | .bl b, u, h => by
    cases u with
    | bool c =>
      have e : c = b := by simpa [litB] using h
      subst e
      exact ⟨.bl c, rfl, rfl⟩
    | _ => simp [litB] at h
  | .int i, u, h => by
    cases u with
    | int c t =>
      have e : c = i := by simpa [litB] using h
      subst e
      exact ⟨.int c, ⟨t, rfl⟩, rfl⟩
    | _ => simp [litB] at h
  | .str i, u, h => by
    cases u with
    | str c t =>
      have e : c = i := by simpa [litB] using h
      subst e
      exact ⟨.str c, ⟨t, rfl⟩, rfl⟩
    | _ => simp [litB] at h
  | .tup ls, u, h => by
    cases u with
    | ref a =>
      unfold litB at h
      cases q : K.lookup a with
      | none =>
        rw [q] at h
        cases h
      | some o =>
        obtain ⟨oc, od, dt, osl⟩ := o
        rw [q] at h
        cases oc with
        | type c =>
          cases dt with
          | seq its n =>
            obtain ⟨h1, h2⟩ := He.ba (show (decide (c = "tuple") && (decide (its.size ≤ sizeLine) && litsB K its.toList ls)) = true from h)
            obtain ⟨h3, h4⟩ := He.ba h2
            obtain ⟨xs, hv, hl⟩ := litsB_ok h4
            refine ⟨.ref a, rfl, a, xs, rfl, fun H => .inr ⟨_, its, n, q, congrArg Value.type (of_decide_eq_true h1), rfl, ?_⟩, hl⟩
            first | exact ⟨of_decide_eq_true h3, hv⟩ | exact ⟨rfl, of_decide_eq_true h3, hv⟩
          | _ => cases h
        | _ => cases dt <;> cases h
    | _ => simp [litB] at h
theorem litsB_ok {K : PySem.W.Frag} : ∀ {ls : List Lit} {us : List Value}, litsB K us ls = true → ∃ vs, Vals vs us ∧ LitsAre K vs ls
  | [], us, h => by
    cases us with
    | nil => exact ⟨[], .nil, rfl⟩
    | cons => simp [litsB] at h
  | l :: ls, us, h => by
    cases us with
    | nil => simp [litsB] at h
    | cons u us =>
      obtain ⟨h1, h2⟩ := He.ba (show (litB K u l && litsB K us ls) = true by simpa [litsB] using h)
      obtain ⟨v, r, i⟩ := litB_ok h1
      obtain ⟨vs, rs, is⟩ := litsB_ok h2
      exact ⟨v :: vs, .cons r rs, v, vs, rfl, i, is⟩
end
/-- the module's name x stands for the constant -/
def constB (x : Str) (l : Lit) : Fx := fun K => match PySem.W.nsIn K mainGlobals x with
  | some (some u) => litB K u l
  | _ => false
theorem const_ok {K : PySem.W.Frag} {h : Heap} {mg : Str → Option Value} (X : K.In h) (G : h.Ns mainGlobals mg) {x : Str} {l : Lit} (c : constB x l K = true) : ∃ v u, mg x = some u ∧ RelV v u ∧ LitIs K v l := by
  unfold constB at c
  cases q : PySem.W.nsIn K mainGlobals x with
  | none =>
    rw [q] at c
    cases c
  | some o =>
    rw [q] at c
    cases o with
    | none => cases c
    | some u =>
      obtain ⟨v, r, i⟩ := litB_ok (show litB K u l = true from c)
      exact ⟨v, u, PySem.W.mg_of X G q, r, i⟩

/-! ### classes: the attributes' names in order, a row of values -/
structure Kls (K : PySem.W.Frag) (x : Str) (ns : List Str) : Prop where
  cl : Cls K (gA x K)
  na : ∀ f ∈ ns, NoAttr K (gA x K) f
  nd : ns.Nodup
def klsB (x : Str) (ns : List Str) : Fx := fun K => (He.Fa.cls x).ok K && ((ns.all fun f => (He.Fa.noat x f).ok K) && decide ns.Nodup)
theorem klsB_ok {K : PySem.W.Frag} {x : Str} {ns : List Str} (h : klsB x ns K = true) : Kls K x ns := by
  obtain ⟨h1, h⟩ := He.ba h
  obtain ⟨h2, h3⟩ := He.ba h
  exact ⟨He.cls_ok h1, fun f hf => He.noat_ok (List.all_eq_true.mp h2 f hf), of_decide_eq_true h3⟩
structure CalA (P : Program) (w : World) (K : PySem.W.Frag) (mg : Str → Option Value) (base : Heap) (k : Nat) (a : Addr) (sp : Sp) : Prop where
  ex : ∃ (fd : FuncData) (ps : List Str), FnOk P w K mg base CX0 k a fd ps sp ∧ Binds K fd ps []
theorem zip_lookup {x : Str} {v : V} : ∀ {ns : List Str} {vs : List V} {i : Nat}, ns.Nodup → ns[i]? = some x → vs[i]? = some v → (ns.zip vs).lookup x = some v
  | [], _, _, _, h, _ => by simp at h
  | n :: ns, [], i, _, _, h => by simp at h
  | n :: ns, u :: vs, 0, hn, h, e => by
    obtain rfl : n = x := by simpa using h
    obtain rfl : u = v := by simpa using e
    simp [List.lookup]
  | n :: ns, u :: vs, i + 1, hn, h, e => by
    obtain ⟨h1, h2⟩ := List.nodup_cons.mp hn
    have h' : ns[i]? = some x := by simpa using h
    have ne : (x == n) = false := beq_eq_false_iff_ne.mpr fun z => h1 (z ▸ List.mem_of_getElem? h')
    show (match x == n with
      | true => some u
      | false => (ns.zip vs).lookup x) = some v
    rw [ne]
    exact zip_lookup h2 h' (by simpa using e)
theorem zip_none {x : Str} : ∀ {ns : List Str} {vs : List V}, x ∉ ns → (ns.zip vs).lookup x = none
  | [], _, _ => by simp
  | n :: ns, [], _ => by simp
  | n :: ns, u :: vs, h => by
    have ne : (x == n) = false := beq_eq_false_iff_ne.mpr fun z => h (by simp [z])
    show (match x == n with
      | true => some u
      | false => (ns.zip vs).lookup x) = none
    rw [ne]
    exact zip_none fun z => h (by simp [z])
theorem zip_put {x : Str} {v : V} : ∀ {ns : List Str} {vs : List V} {i : Nat}, ns.Nodup → ns[i]? = some x → i < vs.length → putF x v (ns.zip vs) = ns.zip (vs.set i v)
  | [], _, _, _, h, _ => by simp at h
  | n :: ns, [], i, _, _, h => by simp at h
  | n :: ns, u :: vs, 0, hn, h, e => by
    obtain rfl : n = x := by simpa using h
    simp [putF]
  | n :: ns, u :: vs, i + 1, hn, h, e => by
    obtain ⟨h1, h2⟩ := List.nodup_cons.mp hn
    have h' : ns[i]? = some x := by simpa using h
    have ne : ¬ n = x := fun z => h1 (by rw [z]; exact List.mem_of_getElem? h')
    show (if n = x then (n, v) :: ns.zip vs else (n, u) :: putF x v (ns.zip vs)) = _
    rw [if_neg ne, zip_put h2 h' (by simpa using e)]
    rfl
theorem zip_add {x : Str} {v : V} : ∀ {ns : List Str} {vs : List V}, ns.Nodup → ns[vs.length]? = some x → putF x v (ns.zip vs) = ns.zip (vs ++ [v])
  | [], _, _, h => by simp at h
  | n :: ns, [], hn, h => by
    obtain rfl : n = x := by simpa using h
    simp [putF]
  | n :: ns, u :: vs, hn, h => by
    obtain ⟨h1, h2⟩ := List.nodup_cons.mp hn
    have h' : ns[vs.length]? = some x := by simpa using h
    have ne : ¬ n = x := fun z => h1 (by rw [z]; exact List.mem_of_getElem? h')
    show (if n = x then (n, v) :: ns.zip vs else (n, u) :: putF x v (ns.zip vs)) = _
    rw [if_neg ne, zip_add h2 h']
    rfl
section
variable {K : PySem.W.Frag} {σ : L2.St} {H : Hp} {Q : VK} {D : Ends} {ta tv : TE} {ar : TA} {x f m : Str} {ns : List Str} {vs : List V} {v y : V} {p dx C : Addr} {sp : Sp}
def FldK (K : PySem.W.Frag) (x : V) (f : Str) (H1 : Hp) (Q : VK) : Prop := ∃ a C dx fs v, x = .ref a ∧ H1 a = some (.ins C dx fs) ∧ Cls K C ∧ NoAttr K C f ∧ fs.lookup f = some v ∧ Q v H1
theorem i_fld (h : ta σ H fun x H1 => FldK K x f H1 Q) : tFld K ta f σ H Q := h
theorem i_fldK (k : Kls K x ns) (e : H p = some (.ins (gA x K) dx (ns.zip vs))) (i : Nat) (hf : ns[i]? = some f) (hv : vs[i]? = some v) (h : Q v H) : FldK K (.ref p) f H Q :=
  ⟨p, _, dx, _, v, rfl, e, k.cl, k.na f (List.mem_of_getElem? hf), zip_lookup k.nd hf hv, h⟩
def PutK (K : PySem.W.Frag) (x y : V) (f : Str) (H2 : Hp) (R : Hp → Prop) : Prop := ∃ a C dx fs, x = .ref a ∧ H2 a = some (.ins C dx fs) ∧ Cls K C ∧ NoAttr K C f ∧ fs.length < 1000 ∧ R (upd H2 a (.ins C dx (putF f y fs)))
theorem i_sfld (h : tv σ H fun y H1 => ta σ H1 fun x H2 => PutK K x y f H2 fun H3 => D.nx σ H3) : sFld K ta tv f D σ H := h
theorem i_putK {R : Hp → Prop} (k : Kls K x ns) (e : H p = some (.ins (gA x K) dx (ns.zip vs))) (i : Nat) (hf : ns[i]? = some f) (hi : i < vs.length) (hl : ns.length ≤ 900) (h : R (upd H p (.ins (gA x K) dx (ns.zip (vs.set i y))))) : PutK K (.ref p) y f H R := by
  refine ⟨p, _, dx, _, rfl, e, k.cl, k.na f (List.mem_of_getElem? hf), ?_, ?_⟩
  · rw [List.length_zip]; omega
  · rw [zip_put k.nd hf hi]; exact h
theorem i_putN {R : Hp → Prop} (k : Kls K x ns) (e : H p = some (.ins (gA x K) dx (ns.zip vs))) (hf : ns[vs.length]? = some f) (hl : ns.length ≤ 900) (h : R (upd H p (.ins (gA x K) dx (ns.zip (vs ++ [y]))))) : PutK K (.ref p) y f H R := by
  refine ⟨p, _, dx, _, rfl, e, k.cl, k.na f (List.mem_of_getElem? hf), ?_, ?_⟩
  · rw [List.length_zip]; omega
  · rw [zip_add k.nd hf]; exact h
def MethK (C : Addr) (m : Str) (sp : Sp) (x : V) (ar : TA) (σ : L2.St) (H1 : Hp) (Q : VK) : Prop := ∃ a dx fs, x = .ref a ∧ H1 a = some (.ins C dx fs) ∧ fs.lookup m = none ∧ ar σ H1 fun vs H2 => sp (x :: (vs ++ [])) H2 Q E0
theorem i_meth (h : ta σ H fun x H1 => MethK C m sp x ar σ H1 Q) : tMeth C m sp [] E0 ta ar σ H Q := h
theorem i_methK (e : H p = some (.ins C dx (ns.zip vs))) (hm : m ∉ ns) (h : ar σ H fun vs H2 => sp (.ref p :: vs) H2 Q E0) : MethK C m sp (.ref p) ar σ H Q :=
  ⟨p, dx, _, rfl, e, zip_none hm, by simpa only [List.append_nil] using h⟩
theorem i_prop (h : ta σ H fun x H1 => ∃ a dx fs, x = .ref a ∧ H1 a = some (.ins C dx fs) ∧ sp [.ref a] H1 Q E0) : tProp C sp [] E0 ta σ H Q := h
theorem i_propK {fs : List (Str × V)} (e : H p = some (.ins C dx fs)) (h : sp [.ref p] H Q E0) : ∃ a dx fs, V.ref p = .ref a ∧ H a = some (.ins C dx fs) ∧ sp [.ref a] H Q E0 := ⟨p, dx, fs, rfl, e, h⟩
def MakeK (C : Addr) (sp : Sp) (vs : List V) (H1 : Hp) (Q : VK) : Prop := ∀ x dx, H1 x = none → H1 dx = none → dx ≠ x → sp (.ref x :: vs) (upd (upd H1 dx (.own x)) x (.ins C dx [])) (fun v H2 => v = .non ∧ Q (.ref x) H2) E0
theorem i_make (h : ar σ H fun vs H1 => MakeK C sp vs H1 Q) : tMake C sp [] E0 ar σ H Q := by
  show ar σ H fun vs H1 => MakeK C sp (vs ++ []) H1 Q
  simpa only [List.append_nil] using h
/-- a new instance: what was stands -/
theorem i_makeK {us : List V} (ns : List Str) (h : ∀ p dx H1, H p = none → H1 p = some (.ins C dx (ns.zip [])) → (∀ S, Keep S H H1) → sp (.ref p :: us) H1 (fun v H2 => v = .non ∧ Q (.ref p) H2) E0) : MakeK C sp us H Q := fun p dx hp hdx ne => by
  refine h p dx _ hp (by rw [upd_same, List.zip_nil_right]) fun S => ?_
  exact ((Keep.refl H).put (.inr hdx)).put (.inr hp)
/-! targets of several names -/
theorem i_gTup {n : Nat} {t : TGs} {QS : L2.St → Hp → Prop} (c : SqT K H p vs) (hl : vs.length = n) (h : t vs σ H QS) : gTup K n t (.ref p) σ H QS := ⟨p, vs, rfl, c, hl, h⟩
theorem i_gCons {t : TG} {u : TGs} {QS : L2.St → Hp → Prop} (h : t v σ H fun σ' H' => u vs σ' H' QS) : gCons t u (v :: vs) σ H QS := ⟨v, vs, rfl, h⟩
theorem i_gNil {QS : L2.St → Hp → Prop} (h : QS σ H) : gNil [] σ H QS := ⟨rfl, h⟩
theorem i_isB {a b : Bool} (h : Q (.bl (decide (a = b))) H) : rIsB (.bl a) (.bl b) H Q := ⟨a, b, rfl, rfl, h⟩
theorem i_notB {a b : Bool} (h : Q (.bl (!decide (a = b))) H) : rNotB (.bl a) (.bl b) H Q := ⟨a, b, rfl, rfl, h⟩
end
theorem const_tup {K : PySem.W.Frag} {h : Heap} {mg : Str → Option Value} (X : K.In h) (G : h.Ns mainGlobals mg) {x : Str} {ls : List Lit} (c : constB x (.tup ls) K = true) : mg x = some (.ref (He.ga K x)) ∧ LitIs K (.ref (He.ga K x)) (.tup ls) := by
  unfold constB at c
  cases q : PySem.W.nsIn K mainGlobals x with
  | none =>
    rw [q] at c
    cases c
  | some o =>
    rw [q] at c
    cases o with
    | none => cases c
    | some u =>
      obtain ⟨v, r, i⟩ := litB_ok (show litB K u (.tup ls) = true from c)
      obtain ⟨a, xs, e, h1, h2⟩ := id i
      subst e
      obtain rfl : u = Value.ref a := r
      have e : He.ga K x = a := by unfold He.ga; rw [q]
      rw [e]
      exact ⟨PySem.W.mg_of X G q, i⟩

/-! ### enumerate over a tuple; a list or a tuple walked -/
set_option maxHeartbeats 2000000 in
theorem meets_enum1 {v : Value} {ob : Obj} {Hc : Heap → Prop} (B : Begins v ob Hc) :
    Meets (Builtin.«enumerate.__new__» ⟨[.type "enumerate", v], []⟩) (fun _ R s => Hc s.heap ∧
      R (.ok (.ret (.ref (s.heap.push ob).objs.size))) { s with heap := (s.heap.push ob).push { cls := .type "enumerate", data := .fields #[.none, .bool false, .ref s.heap.objs.size, rawInt 0, .none, .none] } }) :=
  .of_wp fun pr wd A R s hh => by
    obtain ⟨hp, g, d, tk, os⟩ := s
    obtain ⟨hc, hh⟩ := hh
    have hsub := sub_enumerate
    have go : ∀ {A' : Around} {E : Value → Shared → Prop} {Q : Value → Shared → Prop}, Q (.ref hp.objs.size) ⟨hp.push ob, g, d, tk, os⟩ → wpAny (model pr wd) A' (pyIter v) Q E ⟨hp, g, d, tk, os⟩ := fun q => B.iter pr wd _ _ ⟨hp, g, d, tk, os⟩ _ hc q
    wp_walk using go
    refine wpAny_stack_any fun st => wpAny_pure ?_
    split
    · rename_i cc _ _ _ _ _
      cases (cc == Value.type "enumerate") <;> (wp_walk using go; exact ⟨_, rfl, hh⟩)
    · (wp_walk using go; exact ⟨_, rfl, hh⟩)
theorem call_enum1 {prog : Program} {w : World} {A : Around} {E : Value → Shared → Prop} {s : Shared} {v : Value} {ob : Obj} {Hc : Heap → Prop} {Q : Value → Shared → Prop} (B : Begins v ob Hc) (hc : Hc s.heap)
    (k : ∀ h', IsEnum h' (s.heap.objs.size + 1) s.heap.objs.size 0 .none → h'.get? s.heap.objs.size = some ob → (∀ b u, s.heap.get? b = some u → h'.get? b = some u) → Q (.ref (s.heap.objs.size + 1)) { s with heap := h' }) :
    wpAny (model prog w) A (call (.type "enumerate") [v]) Q E s := by
  refine callType_new F.called_enumerate (by decide) (F.typeCall_enumerate_1 _) (F.newCall_enumerate_1 _) (fun z => F.args_object_init_2 z _) F.entry_enumerate_new (meets_enum1 B) ⟨hc, ?_⟩
  have sz : (s.heap.push ob).objs.size = s.heap.objs.size + 1 := Heap.size_push ..
  show _ ∧ _
  rw [sz]
  have en : IsEnum ((s.heap.push ob).push { cls := .type "enumerate", data := .fields #[.none, .bool false, .ref s.heap.objs.size, rawInt 0, .none, .none] }) (s.heap.objs.size + 1) s.heap.objs.size 0 .none := by
    have z := Heap.get?_push_size (s.heap.push ob) (o := { cls := .type "enumerate", data := .fields #[.none, .bool false, .ref s.heap.objs.size, rawInt 0, .none, .none] }) rfl
    rw [sz] at z
    exact z
  exact ⟨⟨_, en, rfl⟩, k _ en (Heap.get?_push_of_some _ (Heap.get?_push_size _ B.free)) fun b u x => Heap.get?_push_of_some _ (Heap.get?_push_of_some _ x)⟩
theorem enum_endT {prog : Program} {w : World} {A : Around} {E : Value → Shared → Prop} {s : Shared} {e it a : Addr} {c : Int} {i : Nat} {its : Array Value} {old : Value} {Q : Option Value → Shared → Prop} (hh : A.handled = none) (he : IsEnum s.heap e it c old)
    (hit : s.heap.IsTupleIter it a i) (ht : s.heap.IsTuple a its) (hx : its[i]? = none) (k : ∀ h', Heap.ExtBut it s.heap h' → Q none { s with heap := h' }) : wpAny (model prog w) A (pyNext (.ref e)) Q E s := by
  have ty : s.TypeIs (.ref e) "enumerate" := ⟨_, he, rfl⟩
  unfold pyNext
  refine wpAny_bind (wpAny_attempt (wpAny_callSpecial?_slot (name := Str.ofString "__next__") ty F.slot_enumerate_next (wpAny_call_entry F.slot_enumerate_next ty F.entry_enumerate_next ?_ (F.args_enumerate_next_1 _))))
  show wpAny _ _ (field (.ref e) 2 >>= _) _ _ _
  refine wpAny_bind (wpAny_field he rfl (x := .ref it) rfl (wpAny_bind (wpAny_nextOf_tuple_end hh hit ht hx fun h' z ex st => ?_)))
  obtain ⟨o, ho, hc⟩ := st
  exact wpAny_bind (wpAny_isInstance (T := "StopIteration") (b := true) ⟨o, ho, hc⟩ isSubtype_stop (wpAny_pure (k _ ex)))
/-- the tuple at a as it stands at each turn, each item in a new pair -/
def IteT (K : PySem.W.Frag) (a : Addr) : It :=
  ⟨fun i H => ∃ (xs : List V) (x : V), SqT K H a xs ∧ xs[i]? = some x, fun i H v H' => ∃ T x, v = .ref T ∧ H T = none ∧ H' = upd H T (.tup [.int (i : Nat), x]) ∧ ∀ xs, SqT K H a xs → xs[i]? = some x, fun i H => ∃ xs : List V, SqT K H a xs ∧ xs.length ≤ i⟩
theorem turn_enumT {P : Program} {w : World} {K : PySem.W.Frag} {elts : List Expr} {kk : Nat} {tpos : Pos} (a e it : Addr) (hae : a ≠ e) (hai : a ≠ it) :
    Turn P w K (.Tuple elts kk tpos) (IteT K a) [e, it] e (fun i h => (∃ old, IsEnum h e it ((i : Nat) : Int) old) ∧ h.IsTupleIter it a i ∧ e ≠ it) where
  mem := by simp
  obj := fun i h st b hb => by
    obtain ⟨⟨old, he⟩, ⟨o, ho, hc, hd⟩, _⟩ := st
    rcases (show b = e ∨ b = it by simpa using hb) with rfl | rfl
    · exact ⟨_, he, fun v q => nomatch q⟩
    · exact ⟨o, ho, fun v q => by rw [hd] at q; cases q⟩
  keep := fun i h h' st k => by
    obtain ⟨⟨old, he⟩, hi, hne⟩ := st
    exact ⟨⟨old, k e (by simp) _ he⟩, hi.at fun o q => k it (by simp) o q, hne⟩
  item := by
    intro X hP hw hK hc i pins s σ H E I hf st hg
    subst hP hw hK
    obtain ⟨⟨old, he⟩, hit, hne⟩ := st
    obtain ⟨xs, x, hq, hx⟩ := hg
    obtain ⟨its, rv, p, hz⟩ := I.tuple hq
    obtain ⟨u, hu, ru⟩ := rv.get hx
    have tup : s.heap.IsTuple a its.toArray := p
    have lte : e < s.heap.objs.size := Heap.lt_size he
    have lti : it < s.heap.objs.size := by obtain ⟨_, q, _⟩ := hit; exact Heap.lt_size q
    have hlt : i < its.toArray.size := by
      have z := (List.getElem?_eq_some_iff.mp hu).1
      simpa using z
    refine wpAny_pyNext_enum_itemD (Draws.tuple (A := X.A.in1) (I.ok.hd hc) it a hai its.toArray) he ⟨hit, tup⟩ hlt hne (by simp [hne, hae.symm]) fun x' h' tk hx' ho st' hT hsz hk => ?_
    obtain rfl : x' = u := by
      have z : its[i]? = some x' := by simpa using hx'
      rw [hu] at z
      exact (Option.some.inj z).symm
    refine ⟨_, rfl, wpAny_letOwnedTupleGo_enum (s := { s with heap := h', toks := tk + 1 }) ho fun h'' he' sb => ?_⟩
    have hT2 := (sb.2 _ (Nat.ne_of_gt lte)).trans hT
    have new : ObjOk X.prog X.w (upd H s.heap.objs.size (.tup [.int (i : Nat), x])) h'' s.heap.objs.size (.tup [.int (i : Nat), x]) :=
      ⟨small_of (by show 2 ≤ 1000000; decide), _, .cons ⟨_, rfl⟩ (.cons ru .nil), ⟨_, hT2, rfl, _, rfl⟩⟩
    have far : ∀ b, b ∈ [e, it] → b < s.heap.objs.size := fun b hb => by
      rcases (show b = e ∨ b = it by simpa using hb) with rfl | rfl
      · exact lte
      · exact lti
    have I1 : Inv X pins σ (upd H s.heap.objs.size (.tup [.int (i : Nat), x])) { s with heap := h'', toks := tk + 1 } :=
      I.turnedNew (ch := [e, it]) (fun b ob hb q => (sb.2 b (fun z => hb (by simp [z]))).trans (hk b ob (fun z => hb (by simp [z])) (fun z => hb (by simp [z])) q)) hf (Nat.le_refl _) new
    refine ⟨.ref s.heap.objs.size, _, I1, rfl, ⟨_, x, rfl, I.hok.fresh (Nat.le_refl _), rfl, fun ys hy => by rw [I.tuple_inj hy hq]; exact hx⟩, ⟨⟨x', ?_⟩, st'.1.at fun o q => (sb.2 it (Ne.symm hne)).trans q, hne⟩, fun b hb => ?_⟩
    · have z : ((i + 1 : Nat) : Int) = (i : Int) + 1 := by omega
      rw [z]
      exact he'
    · rw [upd_ne (Nat.ne_of_lt (far b hb))]
      exact (hf b hb).1
  done := by
    intro X hP hw hK hc i pins s σ H E I hf st hg
    subst hP hw hK
    obtain ⟨⟨old, he⟩, hit, hne⟩ := st
    obtain ⟨xs, hq, hx⟩ := hg
    obtain ⟨its, rv, p, hz⟩ := I.tuple hq
    have tup : s.heap.IsTuple a its.toArray := p
    obtain ⟨f0, f1, f2, f3, f4, f5⟩ := hf it (by simp)
    have hl := rv.length
    exact enum_endT (I.ok.hd hc) he hit tup (by simp; omega) fun h' eb => ⟨rfl, I.turned (t' := s.toks) (fun b o hb q => eb b o hb q) f0 f1 f3 f4 f5⟩
  self := fun A i s Q E st h => let ⟨⟨_, he⟩, _⟩ := st; wpAny_pyIter_enum he h
/-- what a for walks: one way or another -/
theorem PI.or {X : Cx} {tg e : Expr} {wi wj : TI} (h1 : PI X tg e wi) (h2 : PI X tg e wj) : PI X tg e (fun σ H R => wi σ H R ∨ wj σ H R) := ⟨fun pins s σ H R I h => by
  rcases h with h | h
  · exact h1.run pins s σ H R I h
  · exact h2.run pins s σ H R I h⟩
def iSeq (K : PySem.W.Frag) (tl : TE) : TI := fun σ H R => iList K tl σ H R ∨ iTup K tl σ H R
theorem pi_seq {X : Cx} {tg l : Expr} {tl : TE} (hl : PE X l tl) : PI X tg l (iSeq X.K tl) := PI.or (pi_list hl) (pi_tup hl)
def iEnumT (K : PySem.W.Frag) (ta : TA) : TI := fun σ H R => ta σ H fun vs H1 => ∃ a xs, vs = [.ref a] ∧ SqT K H1 a xs ∧ R (IteT K a) H1
theorem pi_enumT {X : Cx} {e : Expr} {ta : TA} {p pos tpos : Pos} {elts : List Expr} {kk : Nat} (hg : Gl X "enumerate") (hm : X.mg "enumerate" = none) (ha : PA X [e] ta) (hs : starEach [e] X.env = [(false, eval e X.env)] := by rfl) :
    PI X (.Tuple elts kk tpos) (.Call (.Name "enumerate" p) [e] [] pos) (iEnumT X.K ta) := by
  refine ⟨fun pins s σ H R I h => ?_⟩
  refine Call_ (ld_blt I hg hm boot_enumerate (PyProof.Rows.callWith_type1 (thn (ha.run pos pins s σ H _ I h) fun us s1 ⟨vs, H1, I1, r1, a, xs, ex, hq, q⟩ => ?_) hs rfl))
  subst ex
  cases r1 with
  | cons r rr =>
    cases rr
    cases r
    obtain ⟨its, rv, p', hz⟩ := I1.tuple hq
    have tup : s1.heap.IsTuple a its.toArray := p'
    have lta : a < s1.heap.objs.size := by obtain ⟨_, q, _⟩ := tup; exact Heap.lt_size q
    refine call_enum1 (begins_tuple a its.toArray) tup fun h' he hit hk => wpAny_pyIter_enum he ?_
    have I2 : Inv X pins σ H1 { s1 with heap := h' } := I1.kept (t' := s1.toks) hk
    refine ⟨s1.heap.objs.size + 1, [s1.heap.objs.size + 1, s1.heap.objs.size], _, _, H1, rfl, I2, turn_enumT a (s1.heap.objs.size + 1) s1.heap.objs.size (Nat.ne_of_lt (Nat.lt_succ_of_lt lta)) (Nat.ne_of_lt lta), ⟨⟨.none, he⟩, ⟨_, hit, rfl, rfl⟩, Nat.succ_ne_self _⟩, fun b hb => ?_, q⟩
    have le : s1.heap.objs.size ≤ b := by
      rcases (show b = s1.heap.objs.size + 1 ∨ b = s1.heap.objs.size by simpa using hb) with z | z
      · rw [z]; exact Nat.le_add_right _ _
      · rw [z]; exact Nat.le_refl _
    exact I1.fpOk le (I1.hok.fresh le)
def iEnumQ (K : PySem.W.Frag) (ta : TA) : TI := fun σ H R => iEnum K ta σ H R ∨ iEnumT K ta σ H R
theorem pi_enumQ {X : Cx} {e : Expr} {ta : TA} {p pos tpos : Pos} {elts : List Expr} {kk : Nat} (hg : Gl X "enumerate") (hm : X.mg "enumerate" = none) (ha : PA X [e] ta) (hs : starEach [e] X.env = [(false, eval e X.env)] := by rfl) :
    PI X (.Tuple elts kk tpos) (.Call (.Name "enumerate" p) [e] [] pos) (iEnumQ X.K ta) := PI.or (pi_enum hg hm ha hs) (pi_enumT hg hm ha hs)
section
variable {K : PySem.W.Frag} {σ : L2.St} {H H0 : Hp} {D : Ends} {g : TG} {tb : TS} {a : Addr} {xs : List V} {S : List Addr} {n : Nat}
/-- a walk of a list or a tuple that stays -/
theorem i_seqFor (e : σ[n]? = some (some (.ref a))) (hq : SqL K H0 a xs ∨ SqT K H0 a xs) (na : a ∉ S) (Pv : Nat → L2.St → Hp → Prop) (hk : ∀ i σ H1, Pv i σ H1 → Keep S H0 H1) (h0 : Pv 0 σ H)
    (hs : ∀ i x σ H1, xs[i]? = some x → Pv i σ H1 → g x σ H1 fun σ2 H2 => tb { D with nx := Pv (i + 1), ct := Pv (i + 1), bk := D.nx } σ2 H2) (hd : ∀ σ H1, Pv xs.length σ H1 → D.nx σ H1) : tFor (iSeq K (tVar n)) g tb D σ H := by
  rcases hq with h | h
  · exact .inl ⟨_, e, a, rfl, ⟨xs, (hk 0 σ H h0).sqL na h⟩, for_list Pv h0 (fun i σ H1 _ hp => (hk i σ H1 hp).sqL na h) hs hd⟩
  · exact .inr ⟨_, e, a, rfl, ⟨xs, (hk 0 σ H h0).sqT na h⟩, for_tup Pv h0 (fun i σ H1 _ hp => (hk i σ H1 hp).sqT na h) hs hd⟩
theorem i_enumFor (e : σ[n]? = some (some (.ref a))) (hq : SqL K H0 a xs ∨ SqT K H0 a xs) (na : a ∉ S) (Pv : Nat → L2.St → Hp → Prop) (hk : ∀ i σ H1, Pv i σ H1 → Keep S H0 H1) (h0 : Pv 0 σ H)
    (hs : ∀ i x σ H1 T H2, xs[i]? = some x → Pv i σ H1 → NewAt H1 T (.tup [.int (i : Nat), x]) H2 → g (.ref T) σ H2 fun σ2 H3 => tb { D with nx := Pv (i + 1), ct := Pv (i + 1), bk := D.nx } σ2 H3) (hd : ∀ σ H1, Pv xs.length σ H1 → D.nx σ H1) : tFor (iEnumQ K (tCons (tVar n) tNil)) g tb D σ H := by
  rcases hq with h | h
  · refine .inl ⟨_, e, a, xs, rfl, (hk 0 σ H h0).sqL na h, ?_⟩
    refine ⟨fun i m σ H1 => m = xs.length - i ∧ i ≤ xs.length ∧ Pv i σ H1, ⟨xs.length, by simp, Nat.zero_le _, h0⟩, ?_⟩
    rintro i m σ H1 ⟨rfl, hi, p⟩
    have q := (hk i σ H1 p).sqL na h
    by_cases hlt : i < xs.length
    · refine .inr ⟨⟨xs, xs[i], q, by simp [hlt]⟩, Pv (i + 1), fun σ' H' p' => ⟨xs.length - (i + 1), by omega, rfl, hlt, p'⟩, fun x H' y => ?_⟩
      obtain ⟨T, z, rfl, hT, rfl, hz⟩ := y
      exact hs i z σ H1 T _ (hz xs q) p (.mk' hT)
    · obtain rfl : i = xs.length := by omega
      exact .inl ⟨⟨xs, q, Nat.le_refl _⟩, hd σ H1 p⟩
  · refine .inr ⟨_, e, a, xs, rfl, (hk 0 σ H h0).sqT na h, ?_⟩
    refine ⟨fun i m σ H1 => m = xs.length - i ∧ i ≤ xs.length ∧ Pv i σ H1, ⟨xs.length, by simp, Nat.zero_le _, h0⟩, ?_⟩
    rintro i m σ H1 ⟨rfl, hi, p⟩
    have q := (hk i σ H1 p).sqT na h
    by_cases hlt : i < xs.length
    · refine .inr ⟨⟨xs, xs[i], q, by simp [hlt]⟩, Pv (i + 1), fun σ' H' p' => ⟨xs.length - (i + 1), by omega, rfl, hlt, p'⟩, fun x H' y => ?_⟩
      obtain ⟨T, z, rfl, hT, rfl, hz⟩ := y
      exact hs i z σ H1 T _ (hz xs q) p (.mk' hT)
    · obtain rfl : i = xs.length := by omega
      exact .inl ⟨⟨xs, q, Nat.le_refl _⟩, hd σ H1 p⟩
end

local macro_rules | `(tactic| walk_at "s1") => `(tactic| first
  | with_reducible refine i_seq ?_
  | with_reducible refine i_asg ?_
  | ((with_reducible refine i_var (v := ?kv) ?ke ?kh); (case ke => rfl))
  | with_reducible refine i_c ?_
  | with_reducible refine i_op ?_
  | with_reducible refine i_un ?_
  | with_reducible refine i_cons ?_
  | with_reducible refine i_nil ?_
  | with_reducible refine i_call ?_
  | with_reducible refine i_cb ?_
  | with_reducible refine i_test ?_
  | with_reducible refine i_tB ?_
  | with_reducible refine i_ex ?_
  | with_reducible refine i_ifS ?_
  | with_reducible refine i_T ?_
  | with_reducible refine i_F ?_
  | with_reducible refine i_NT ?_
  | with_reducible refine i_NF ?_
  | with_reducible refine i_NN ?_
  | with_reducible refine i_ret ?_
  | with_reducible refine i_retN ?_
  | with_reducible refine i_drop ?_
  | with_reducible refine i_next ?_
  | with_reducible refine i_and ?_
  | with_reducible refine i_or ?_
  | with_reducible refine i_not ?_
  | with_reducible refine i_andV ?_
  | with_reducible refine i_orV ?_
  | with_reducible refine i_notV ?_
  | with_reducible refine i_chain ?_
  | with_reducible refine i_if ?_
  | with_reducible refine i_lst ?_
  | with_reducible refine i_tup ?_
  | with_reducible refine i_append ?_
  | with_reducible refine i_extend ?_
  | with_reducible refine i_sl ?_
  | with_reducible refine i_noPart ?_
  | with_reducible refine i_part ?_
  | with_reducible refine i_partI ?_
  | with_reducible refine i_asgG ?_
  | with_reducible refine i_gSub ?_
  | with_reducible refine i_for ?_
  | with_reducible refine i_rng1 ?_
  | with_reducible refine i_rng2 ?_
  | with_reducible refine i_list ?_
  | with_reducible refine i_tupI ?_
  | with_reducible refine i_lc ?_
  | with_reducible refine i_yes ?_
  | ((with_reducible refine i_rngK1 ?_ ?_); (first | decide | omega))
  | ((with_reducible refine i_rngK2 ?_ ?_); (first | decide | omega))
  | with_reducible refine i_gName ?_
  | with_reducible refine i_add ?_
  | with_reducible refine i_sub ?_
  | with_reducible refine i_lt ?_
  | with_reducible refine i_le ?_
  | with_reducible refine i_gt ?_
  | with_reducible refine i_ge ?_
  | with_reducible refine i_neg ?_
  | with_reducible refine i_eqI ?_
  | with_reducible refine i_neI ?_
  | with_reducible refine i_neB ?_
  | with_reducible refine i_eqB ?_
  | with_reducible refine i_eqS ?_
  | with_reducible refine i_neS ?_
  | with_reducible refine i_isN ?_
  | with_reducible refine i_notN ?_
  | with_reducible refine i_abs ?_
  | with_reducible refine i_int1 ?_
  | with_reducible refine i_int1b ?_
  | with_reducible refine i_max2 ?_
  | with_reducible refine i_band ?_
  | ((with_reducible refine i_div ?_ ?_); (first | decide | omega))
  | ((with_reducible refine i_mod ?_ ?_); (first | decide | omega))
  | ((with_reducible refine i_pow ?_ ?_); (first | decide | omega))
  | ((with_reducible refine i_mulL ?_ ?_); (first | decide | omega))
  | ((with_reducible refine i_mulR ?_ ?_); (first | decide | omega))
  | ((with_reducible refine i_newL ?_ ?_); (exact Nat.le_of_ble_eq_true rfl))
  | ((with_reducible refine i_newT ?_ ?_); (exact Nat.le_of_ble_eq_true rfl)))
local macro_rules | `(tactic| walk_at "go") => `(tactic| repeat (walk_at "s1"))
local macro_rules | `(tactic| walk_at "D") => `(tactic| first
  | ((with_reducible apply i_D); all_goals intro)
  | ((with_reducible apply i_ND); all_goals intro)
  | ((with_reducible apply i_B); all_goals intro))
local macro_rules | `(tactic| walk_at "s1") => `(tactic| first
  | with_reducible refine i_fld ?_
  | with_reducible refine i_sfld ?_
  | with_reducible refine i_meth ?_
  | with_reducible refine i_prop ?_
  | with_reducible refine i_make ?_
  | with_reducible refine i_gCons ?_
  | with_reducible refine i_gNil ?_
  | with_reducible refine i_isB ?_
  | with_reducible refine i_notB ?_)
/-! ### the law's draws -/
def sp__law_cell (K : PySem.W.Frag) : Sp := fun vs H Q _ => ∃ (a : Addr) (ns : List Int) (k : Int), vs = [.ref a, .int k] ∧ SqL K H a (ns.map V.int) ∧ 0 ≤ k ∧ ∀ z, Q (.int z) H
def sp__law_numbers (K : PySem.W.Frag) : Sp := fun vs H Q _ => ∃ (c : Int) (m : Nat), vs = [.int c, .int m] ∧ m ≤ 1000 ∧ ∀ (p : Addr) (ns : List Int) (H1 : Hp), ns.length = m → NewAt H p (.lst (ns.map V.int)) H1 → Q (.ref p) H1
/-- the law's own state: its list, the list of its numbers, the script -/
structure Pst where
  p : Addr
  nl : Addr
  sc : Addr
instance : Coe Pst Addr := ⟨Pst.p⟩
/-- the script stands -/
def Scr (K : PySem.W.Frag) (p : Pst) (ns : List Int) (H : Hp) : Prop := (Rd H p.sc (.lst (ns.map V.int)) ∧ p.sc ≠ p.p) ∨ ∀ H', SqL K H' p.sc (ns.map V.int)
theorem Scr.sq {K : PySem.W.Frag} {p : Pst} {ns : List Int} {H : Hp} (h : Scr K p ns H) : SqL K H p.sc (ns.map V.int) := by
  rcases h with h | h
  · exact .inl h.1
  · exact h H
theorem Scr.keep {K : PySem.W.Frag} {p : Pst} {ns : List Int} {H H1 : Hp} (h : Scr K p ns H) (k : Keep [p] H H1) : Scr K p ns H1 := by
  rcases h with h | h
  · exact .inl ⟨k.rd (by simpa using h.2) h.1, h.2⟩
  · exact .inr h
/-- the law's own state stands at p -/
structure Dr (K : PySem.W.Frag) (p : Pst) (left last : Int) (H : Hp) : Prop where
  ex : ∃ (at_ : Int) (nums ns : List Int), H p = some (.lst [.ref p.nl, .int at_, .int left, .ref p.sc, .int last]) ∧ 0 ≤ at_ ∧ H p.nl = some (.lst (nums.map V.int)) ∧ nums.length = 120 ∧ p.nl ≠ p ∧ Scr K p ns H
def sp__law_state (K : PySem.W.Frag) : Sp := fun vs H Q _ => ∃ (a : Addr) (ns : List Int) (left : Int), vs = [.ref a, .int left] ∧ SqL K H a (ns.map V.int) ∧ ∀ (p : Pst) H1, H p = none → (∀ S, Keep S H H1) → Dr K p left 3 H1 → Q (.ref p) H1
def sp__law_next (K : PySem.W.Frag) : Sp := fun vs H Q _ => ∃ (p : Pst) (left last m : Int), vs = [.ref p, .int m] ∧ 0 < m ∧ Dr K p left last H ∧ ∀ r H1, 0 ≤ r → r < m → Dr K p left last H1 → Keep [p] H H1 → Q (.int r) H1
def sp__law_big (K : PySem.W.Frag) : Sp := sp__law_next K
/-! _law_cell(_law_script, _law_k) : _law_script=0 _law_k=1 -/
def N__law_cell : List Str := ["_law_script", "_law_k"]
-- sp__law_cell
def t__law_cell_0a_0 (K : PySem.W.Frag) : TS := (tRet (tOp (rIxL K) (tVar 0) (tVar 1)))
def t__law_cell_1 (K : PySem.W.Frag) : TS := (tRet (tC (.int 0)))
def t__law_cell_0 (K : PySem.W.Frag) : TS := tSeq (tIfS (tTest (tOp rLtI (tVar 1) (tCB (rLenQ K) (tCons (tVar 0) tNil)))) (t__law_cell_0a_0 K) tNext) (t__law_cell_1 K)
/-! _law_numbers(_law_cell_here, _law_many) : _law_cell_here=0 _law_many=1 _law_rest=2 _law_size=3 _law_numbers_here=4 _law_k=5 _law_mixed=6 -/
def N__law_numbers : List Str := ["_law_cell_here", "_law_many", "_law_rest", "_law_size", "_law_numbers_here", "_law_k", "_law_mixed"]
-- sp__law_numbers
def t__law_numbers_3a_0a_1 (K : PySem.W.Frag) : TS := (tAsg (tOp rDivI (tVar 2) (tC (.int 1000))) (gName 2))
def t__law_numbers_3a_0a_0 (K : PySem.W.Frag) : TS := tSeq (tDrop (tBM K "list" rAppend (tVar 4) (tCons (tOp rModI (tCB rInt1 (tCons (tVar 2) tNil)) (tC (.int 1000))) tNil))) (t__law_numbers_3a_0a_1 K)
def t__law_numbers_3a_0b_2 (K : PySem.W.Frag) : TS := (tDrop (tBM K "list" rAppend (tVar 4) (tCons (tOp rModI (tCB rInt1 (tCons (tOp rDivI (tVar 6) (tC (.int 7))) tNil)) (tC (.int 1000))) tNil)))
def t__law_numbers_3a_0b_1 (K : PySem.W.Frag) : TS := tSeq (tAsg (tOp rModI (tCB rInt1 (tCons (tOp rAddI (tOp rAddI (tOp rMulI (tVar 6) (tVar 6)) (tOp rMulI (tC (.int 40692)) (tVar 5))) (tC (.int 3))) tNil)) (tC (.int 2147483629))) (gName 6)) (t__law_numbers_3a_0b_2 K)
def t__law_numbers_3a_0b_0 (K : PySem.W.Frag) : TS := tSeq (tAsg (tOp rModI (tCB rInt1 (tCons (tOp rAddI (tOp rAddI (tOp rMulI (tVar 3) (tC (.int 48271))) (tOp rMulI (tVar 5) (tC (.int 69621)))) (tC (.int 11))) tNil)) (tC (.int 2147483647))) (gName 6)) (t__law_numbers_3a_0b_1 K)
def t__law_numbers_3a_0 (K : PySem.W.Frag) : TS := (tIfS (tAnd (tTest (tOp rGeI (tVar 3) (tOp rPowI (tC (.int 10)) (tC (.int 18))))) (tTest (tOp rGtI (tVar 2) (tC (.int 0))))) (t__law_numbers_3a_0a_0 K) (t__law_numbers_3a_0b_0 K))
def t__law_numbers_4 (K : PySem.W.Frag) : TS := (tRet (tVar 4))
def t__law_numbers_3 (K : PySem.W.Frag) : TS := tSeq (tFor (iRng1 (tCons (tVar 1) tNil)) (gName 5) (t__law_numbers_3a_0 K)) (t__law_numbers_4 K)
def t__law_numbers_2 (K : PySem.W.Frag) : TS := tSeq (tAsg (tLst tNil) (gName 4)) (t__law_numbers_3 K)
def t__law_numbers_1 (K : PySem.W.Frag) : TS := tSeq (tAsg (tVar 2) (gName 3)) (t__law_numbers_2 K)
def t__law_numbers_0 (K : PySem.W.Frag) : TS := tSeq (tAsg (tCB rAbs (tCons (tVar 0) tNil)) (gName 2)) (t__law_numbers_1 K)
/-! _law_state(_law_script, _law_left) : _law_script=0 _law_left=1 _law_numbers_here=2 _law_parted=3 _law_k=4 -/
def N__law_state : List Str := ["_law_script", "_law_left", "_law_numbers_here", "_law_parted", "_law_k"]
-- sp__law_state
def t__law_state_2a_2 (K : PySem.W.Frag) : TS := (tDrop (tBM K "list" rAppend (tVar 2) (tCons (tOp (rIxL K) (tOp (rIxL K) (tVar 3) (tC (.int 2))) (tVar 4)) tNil)))
def t__law_state_2a_1 (K : PySem.W.Frag) : TS := tSeq (tDrop (tBM K "list" rAppend (tVar 2) (tCons (tOp (rIxL K) (tOp (rIxL K) (tVar 3) (tC (.int 1))) (tVar 4)) tNil))) (t__law_state_2a_2 K)
def t__law_state_2a_0 (K : PySem.W.Frag) : TS := tSeq (tDrop (tBM K "list" rAppend (tVar 2) (tCons (tOp (rIxL K) (tOp (rIxL K) (tVar 3) (tC (.int 0))) (tVar 4)) tNil))) (t__law_state_2a_1 K)
def t__law_state_3 (K : PySem.W.Frag) : TS := (tRet (tLst (tCons (tVar 2) (tCons (tC (.int 0)) (tCons (tVar 1) (tCons (tVar 0) (tCons (tC (.int 3)) tNil)))))))
def t__law_state_2 (K : PySem.W.Frag) : TS := tSeq (tFor (iRng1 (tCons (tC (.int 40)) tNil)) (gName 4) (t__law_state_2a_0 K)) (t__law_state_3 K)
def t__law_state_1 (K : PySem.W.Frag) : TS := tSeq (tAsg (tLc (iRng1 (tCons (tC (.int 3)) tNil)) (gName 4) tYes (tCall (sp__law_numbers K) [] E0 (tCons (tCall (sp__law_cell K) [] E0 (tCons (tVar 0) (tCons (tVar 4) tNil))) (tCons (tC (.int 40)) tNil))) [4]) (gName 3)) (t__law_state_2 K)
def t__law_state_0 (K : PySem.W.Frag) : TS := tSeq (tAsg (tLst tNil) (gName 2)) (t__law_state_1 K)
/-! _law_next(_law_state_here, _law_many) : _law_state_here=0 _law_many=1 _law_at=2 -/
def N__law_next : List Str := ["_law_state_here", "_law_many", "_law_at"]
-- sp__law_next
def t__law_next_2 (K : PySem.W.Frag) : TS := (tRet (tOp rModI (tCB rInt1 (tCons (tOp rAddI (tOp (rIxL K) (tOp (rIxL K) (tVar 0) (tC (.int 0))) (tOp rModI (tVar 2) (tC (.int 120)))) (tOp rMulI (tC (.int 7)) (tOp rDivI (tVar 2) (tC (.int 120))))) tNil)) (tVar 1)))
def t__law_next_1 (K : PySem.W.Frag) : TS := tSeq (tAsg (tOp rAddI (tVar 2) (tC (.int 1))) (gSub (tVar 0) (tC (.int 1)) rSetL)) (t__law_next_2 K)
def t__law_next_0 (K : PySem.W.Frag) : TS := tSeq (tAsg (tOp (rIxL K) (tVar 0) (tC (.int 1))) (gName 2)) (t__law_next_1 K)
/-! _law_big(_law_state_here, _law_many) : _law_state_here=0 _law_many=1 _law_cell_here=2 -/
def N__law_big : List Str := ["_law_state_here", "_law_many", "_law_cell_here"]
-- sp__law_big
def t__law_big_1 (K : PySem.W.Frag) : TS := (tRet (tOp rModI (tCB rInt1 (tCons (tOp rAddI (tOp rMulI (tVar 2) (tC (.int 1009))) (tCall (sp__law_next K) [] E0 (tCons (tVar 0) (tCons (tC (.int 1000)) tNil)))) tNil)) (tVar 1)))
def t__law_big_0 (K : PySem.W.Frag) : TS := tSeq (tAsg (tCB rAbs (tCons (tCall (sp__law_cell K) [] E0 (tCons (tOp (rIxL K) (tVar 0) (tC (.int 3))) (tCons (tOp rAddI (tC (.int 3)) (tCall (sp__law_next K) [] E0 (tCons (tVar 0) (tCons (tC (.int 30)) tNil)))) tNil))) tNil)) (gName 2)) (t__law_big_1 K)
section
variable {K : PySem.W.Frag}
theorem Dr.keep {p : Pst} {left last : Int} {H H1 : Hp} (h : Dr K p left last H) (k : Keep [] H H1) : Dr K p left last H1 := by
  obtain ⟨at_, nums, ns, hp, ha, hn, hl, nn, hs⟩ := h
  exact ⟨at_, nums, ns, k _ _ (by simp) hp, ha, k _ _ (by simp) hn, hl, nn, hs.keep k.all⟩
theorem Dr.new {p : Pst} {q : Addr} {o : HO} {left last : Int} {H H1 : Hp} (h : Dr K p left last H) (n : NewAt H q o H1) : Dr K p left last H1 := h.keep (n.keep [])
theorem Dr.at_ {p : Pst} {left last : Int} {H : Hp} (h : Dr K p left last H) : ∃ xs, H p = some (.lst xs) := by
  obtain ⟨at_, nums, ns, hp, _⟩ := h
  exact ⟨_, hp⟩
theorem Dr.ne {p : Pst} {q : Addr} {o : HO} {left last : Int} {H H1 : Hp} (h : Dr K p left last H) (n : NewAt H q o H1) : p.p ≠ q := by
  obtain ⟨xs, hp⟩ := h.at_
  exact ne_of_none hp n.free
theorem Dr.neT {p : Pst} {q : Addr} {xs : List V} {left last : Int} {H : Hp} (h : Dr K p left last H) (n : H q = some (.tup xs)) : q ≠ p.p := by
  obtain ⟨ys, e⟩ := h.at_
  exact ne_of n e (by intro z; cases z)
/-- what was not there when the state stood may be written -/
theorem Dr.upd {p : Pst} {P : Addr} {o : HO} {l l' t t' : Int} {H0 H : Hp} (h0 : Dr K p l t H0) (hP : H0 P = none) (h : Dr K p l' t' H) : Dr K p l' t' (upd H P o) := by
  obtain ⟨at0, nums0, ns0, hp0, ha0, hn0, hl0, nn0, hs0⟩ := h0
  obtain ⟨at_, nums, ns, hp, ha, hn, hl, nn, hs⟩ := h
  have n1 : p.p ≠ P := ne_of_none hp0 hP
  have n2 : p.nl ≠ P := ne_of_none hn0 hP
  rcases hs0 with ⟨r, _⟩ | r
  · refine ⟨at_, nums, ns, by rw [upd_ne n1]; exact hp, ha, by rw [upd_ne n2]; exact hn, hl, nn, ?_⟩
    rcases hs with ⟨q, e⟩ | q
    · have n3 : p.sc ≠ P := by rcases r with r | ⟨_, r⟩ <;> exact ne_of_none r hP
      refine .inl ⟨?_, e⟩
      rcases q with q | ⟨u, q⟩
      · exact .inl (by rw [upd_ne n3]; exact q)
      · exact .inr ⟨u, by rw [upd_ne n3]; exact q⟩
    · exact .inr q
  · exact ⟨at_, nums, ns0, by rw [upd_ne n1]; exact hp, ha, by rw [upd_ne n2]; exact hn, hl, nn, .inr r⟩
theorem atI_map {ns : List Int} {j : Nat} (h : j < ns.length) : atI (ns.map V.int) (j : Int) = some (.int (ns[j]'h)) := atI_nat (by simp [h])
theorem len__law_cell {vs : List V} {H : Hp} {Q : VK} {E : XK} (h : sp__law_cell K vs H Q E) : vs.length = 2 := by obtain ⟨_, _, _, rfl, _⟩ := h; rfl
theorem r__law_cell {vs : List V} {H : Hp} {Q : VK} {E : XK} (h : sp__law_cell K vs H Q E) : t__law_cell_0 K { nx := fun _ H' => Q .non H', rt := Q } (start N__law_cell vs) H := by
  obtain ⟨a, ns, k, rfl, hs, hk, hq⟩ := h
  obtain ⟨j, rfl⟩ : ∃ j : Nat, k = j := ⟨k.toNat, by omega⟩
  unfold t__law_cell_0
  walk_at "go"
  refine i_lenL hs ?_
  walk_at "go"
  walk_at "D"
  all_goals rename_i h
  · unfold t__law_cell_0a_0
    walk_at "go"
    have h' : j < ns.length := by simpa using h
    exact i_ixL hs (atI_map h') (hq _)
  · walk_at "go"
    unfold t__law_cell_1
    walk_at "go"
    exact hq 0
theorem len__law_next {vs : List V} {H : Hp} {Q : VK} {E : XK} (h : sp__law_next K vs H Q E) : vs.length = 2 := by obtain ⟨_, _, _, _, rfl, _⟩ := h; rfl
theorem r__law_next {vs : List V} {H : Hp} {Q : VK} {E : XK} (h : sp__law_next K vs H Q E) : t__law_next_0 K { nx := fun _ H' => Q .non H', rt := Q } (start N__law_next vs) H := by
  obtain ⟨p, left, last, m, rfl, hm, ⟨at_, nums, ns, hp, ha, hn, hl, nn, hs⟩, hq⟩ := h
  unfold t__law_next_0
  walk_at "go"
  refine i_ixL (SqL.of hp) rfl ?_
  unfold t__law_next_1
  walk_at "go"
  refine i_setL hp rfl ?_
  have k1 : Keep [p] H (upd H p (.lst [.ref p.nl, .int (at_ + 1), .int left, .ref p.sc, .int last])) := Keep.put (.refl H) (.inl (by simp))
  have nn' : p.nl ∉ [p.p] := by simpa using nn
  have hn1 := k1 _ _ nn' hn
  have hs1 := hs.keep k1
  unfold t__law_next_2
  walk_at "go"
  refine i_ixL (SqL.of upd_same) rfl ?_
  walk_at "go"
  obtain ⟨j, hj, hj2⟩ : ∃ j : Nat, at_ % 120 = j ∧ j < nums.length := ⟨(at_ % 120).toNat, by omega, by omega⟩
  rw [hj]
  refine i_ixL (SqL.of hn1) (atI_map hj2) ?_
  walk_at "go"
  refine hq _ _ (Int.emod_nonneg _ (by omega)) (Int.emod_lt_of_pos _ hm) ⟨at_ + 1, nums, ns, upd_same, by omega, hn1, hl, nn, hs1⟩ k1
theorem len__law_big {vs : List V} {H : Hp} {Q : VK} {E : XK} (h : sp__law_big K vs H Q E) : vs.length = 2 := by obtain ⟨_, _, _, _, rfl, _⟩ := h; rfl
theorem r__law_big {vs : List V} {H : Hp} {Q : VK} {E : XK} (h : sp__law_big K vs H Q E) : t__law_big_0 K { nx := fun _ H' => Q .non H', rt := Q } (start N__law_big vs) H := by
  obtain ⟨p, left, last, m, rfl, hm, hd, hq⟩ := h
  obtain ⟨at_, nums, ns, hp, ha, hn, hl, nn, hs⟩ := id hd
  unfold t__law_big_0
  walk_at "go"
  refine i_ixL (SqL.of hp) rfl ?_
  walk_at "go"
  refine ⟨p, left, last, 30, rfl, by decide, hd, fun r H1 r0 r1 hd1 k1 => ?_⟩
  walk_at "go"
  refine ⟨p.sc, ns, 3 + r, rfl, (hs.keep k1).sq, by omega, fun z => ?_⟩
  walk_at "go"
  unfold t__law_big_1
  walk_at "go"
  refine ⟨p, left, last, 1000, rfl, by decide, hd1, fun r2 H2 r20 r21 hd2 k2 => ?_⟩
  walk_at "go"
  exact hq _ _ (Int.emod_nonneg _ (by omega)) (Int.emod_lt_of_pos _ hm) hd2 (k1.trans k2)

theorem len__law_numbers {vs : List V} {H : Hp} {Q : VK} {E : XK} (h : sp__law_numbers K vs H Q E) : vs.length = 2 := by obtain ⟨_, _, rfl, _⟩ := h; rfl
theorem r__law_numbers {vs : List V} {H : Hp} {Q : VK} {E : XK} (h : sp__law_numbers K vs H Q E) : t__law_numbers_0 K { nx := fun _ H' => Q .non H', rt := Q } (start N__law_numbers vs) H := by
  obtain ⟨c, m, rfl, hm, hq⟩ := h
  unfold t__law_numbers_0
  walk_at "go"
  generalize (if c < 0 then -c else c) = s
  unfold t__law_numbers_1
  walk_at "go"
  unfold t__law_numbers_2
  walk_at "go"
  intro p H1 new
  walk_at "go"
  unfold t__law_numbers_3
  walk_at "go"
  refine f_rng (fun i σ H2 => ∃ (r : Int) (ns : List Int) (k mx : Option V), σ = [some (.int c), some (.int m), some (.int r), some (.int s), some (.ref p), k, mx] ∧ ns.length = i ∧ NewAt H p (.lst (ns.map V.int)) H2)
    ⟨s, [], none, none, rfl, rfl, new⟩ ?_ ?_
  · rintro i σ H2 hi ⟨r, ns, k, mx, rfl, hl, new2⟩
    have hi' : i < m := by simpa using hi
    walk_at "go"
    unfold t__law_numbers_3a_0
    have up : ∀ v : Int, NewAt H p (.lst ((ns ++ [v]).map V.int)) (upd H2 p (.lst (ns.map V.int ++ [.int v]))) := fun v => ⟨new2.free, by rw [upd_same, List.map_append]; rfl, fun S => (new2.keep S).put (.inr new2.free)⟩
    walk_at "go"
    have two : t__law_numbers_3a_0b_0 K { nx := fun σ H2 => ∃ (r : Int) (ns : List Int) (k mx : Option V), σ = [some (.int c), some (.int m), some (.int r), some (.int s), some (.ref p), k, mx] ∧ ns.length = i + 1 ∧ NewAt H p (.lst (ns.map V.int)) H2, rt := Q, bk := t__law_numbers_4 K { nx := fun _ H' => Q .non H', rt := Q }, ct := fun σ H2 => ∃ (r : Int) (ns : List Int) (k mx : Option V), σ = [some (.int c), some (.int m), some (.int r), some (.int s), some (.ref p), k, mx] ∧ ns.length = i + 1 ∧ NewAt H p (.lst (ns.map V.int)) H2 } [some (.int c), some (.int m), some (.int r), some (.int s), some (.ref p), some (.int i), mx] H2 := by
      unfold t__law_numbers_3a_0b_0
      walk_at "go"
      generalize hz : ((s * 48271 + (i : Int) * 69621 + 11) % 2147483647) = z
      have z0 : 0 ≤ z ∧ z < 2147483647 := by omega
      unfold t__law_numbers_3a_0b_1
      walk_at "go"
      generalize ((z * z + 40692 * (i : Int) + 3) % 2147483629) = y
      unfold t__law_numbers_3a_0b_2
      walk_at "go"
      refine ⟨ty_lst new2.at_, ?_⟩
      walk_at "go"
      refine i_app new2.at_ (by simp; omega) ?_
      exact ⟨r, ns ++ [y / 7 % 1000], _, _, rfl, by simp [hl], up _⟩
    walk_at "D"
    · walk_at "go"
      walk_at "D"
      · unfold t__law_numbers_3a_0a_0
        walk_at "go"
        refine ⟨ty_lst new2.at_, ?_⟩
        walk_at "go"
        refine i_app new2.at_ (by simp; omega) ?_
        unfold t__law_numbers_3a_0a_1
        walk_at "go"
        exact ⟨r / 1000, ns ++ [r % 1000], _, _, rfl, by simp [hl], up _⟩
      · exact two
    · walk_at "go"
      exact two
  · rintro σ H2 ⟨r, ns, k, mx, rfl, hl, new2⟩
    unfold t__law_numbers_4
    walk_at "go"
    exact hq _ ns _ (by simpa using hl) new2
theorem len__law_state {vs : List V} {H : Hp} {Q : VK} {E : XK} (h : sp__law_state K vs H Q E) : vs.length = 2 := by obtain ⟨_, _, _, rfl, _⟩ := h; rfl
theorem r__law_state {vs : List V} {H : Hp} {Q : VK} {E : XK} (h : sp__law_state K vs H Q E) : t__law_state_0 K { nx := fun _ H' => Q .non H', rt := Q } (start N__law_state vs) H := by
  obtain ⟨a, ns, left, rfl, hs, hq⟩ := h
  unfold t__law_state_0
  walk_at "go"
  intro nl H1 new
  walk_at "go"
  unfold t__law_state_1
  walk_at "go"
  -- the three rows
  have hs1 := (new.keep []).sqL (K := K) (by simp) hs
  refine c_rng (fun D i H2 => ∃ rows : List (Addr × List Int), H2 D = some (.lst (rows.map fun r => V.ref r.1)) ∧ rows.length = i ∧ (∀ r ∈ rows, H2 r.1 = some (.lst (r.2.map V.int)) ∧ r.2.length = 40 ∧ H r.1 = none ∧ r.1 ≠ nl ∧ r.1 ≠ D) ∧ ∀ S, Keep S H1 H2) ?_ ?_ ?_
  · intro D hD
    exact ⟨[], upd_same, rfl, by simp, fun S => .new hD⟩
  · rintro D i H2 hD hi ⟨rows, hDl, hl, hr, kp⟩
    walk_at "go"
    refine ⟨rfl, ?_⟩
    walk_at "go"
    refine ⟨a, ns, i, rfl, (kp []).sqL (by simp) hs1, by omega, fun z => ?_⟩
    walk_at "go"
    refine ⟨z, 40, rfl, by decide, fun p ms H3 hm n3 => ?_⟩
    have hD3 := n3.keep [] _ _ (by simp) hDl
    have hi3 : i < 3 := by simpa using hi
    have nDp : D ≠ p := ne_of_none hDl n3.free
    refine ⟨_, hD3, small_lt (by simp; omega), rows ++ [(p, ms)], by rw [upd_same]; simp, by simp [hl], fun r hr' => ?_, fun S => ((kp S).trans (n3.keep S)).put (.inr hD)⟩
    rcases List.mem_append.mp hr' with h | h
    · obtain ⟨e1, e2, e3, e4, e5⟩ := hr r h
      exact ⟨by rw [upd_ne e5]; exact n3.keep [] _ _ (by simp) e1, e2, e3, e4, e5⟩
    · obtain rfl : r = (p, ms) := by simpa using h
      have f0 : H1 p = none := (kp []).fresh (by simp) n3.free
      exact ⟨by rw [upd_ne nDp.symm]; exact n3.at_, hm, (new.keep []).fresh (by simp) f0, (ne_of_none new.at_ f0).symm, nDp.symm⟩
  · rintro D H2 hD ⟨rows, hDl, hl, hr, kp⟩
    have hl3 : rows.length = 3 := by simpa using hl
    obtain ⟨r0, r1, r2, rfl⟩ : ∃ r0 r1 r2, rows = [r0, r1, r2] := by
      match rows, hl3 with
      | [r0, r1, r2], _ => exact ⟨r0, r1, r2, rfl⟩
    have q0 := hr r0 (by simp)
    have q1 := hr r1 (by simp)
    have q2 := hr r2 (by simp)
    have nlD : nl ≠ D := ne_of_none new.at_ hD
    walk_at "go"
    unfold t__law_state_2
    walk_at "go"
    have hnl : H2 nl = some (.lst []) := kp [] _ _ (by simp) new.at_
    have kp0 : ∀ S, Keep S H H2 := fun S => (new.keep S).trans (kp S)
    refine f_rng (fun i σ H3 => ∃ (nums : List Int) (k : Option V), σ = [some (.ref a), some (.int left), some (.ref nl), some (.ref D), k] ∧ nums.length = 3 * i ∧ H3 nl = some (.lst (nums.map V.int)) ∧ Keep [nl] H2 H3) ⟨[], none, rfl, rfl, hnl, .refl _⟩ ?_ ?_
    · rintro i σ H3 hi ⟨nums, k, rfl, hn, h3, k3⟩
      have hi40 : i < 40 := by simpa using hi
      walk_at "go"
      unfold t__law_state_2a_0
      walk_at "go"
      have put : ∀ (H4 : Hp) (o : HO), Keep [nl] H2 H4 → Keep [nl] H2 (upd H4 nl o) := fun H4 o k => k.put (.inl (by simp))
      have gD : ∀ H4, Keep [nl] H2 H4 → SqL K H4 D [.ref r0.1, .ref r1.1, .ref r2.1] := fun H4 k => SqL.of (k _ _ (by simpa using nlD.symm) (by simpa using hDl))
      have gr : ∀ H4 (r : Addr × List Int), Keep [nl] H2 H4 → (H2 r.1 = some (.lst (r.2.map V.int)) ∧ r.2.length = 40 ∧ H r.1 = none ∧ r.1 ≠ nl ∧ r.1 ≠ D) → SqL K H4 r.1 (r.2.map V.int) := fun H4 r k q => SqL.of (k _ _ (by simpa using q.2.2.2.1) q.1)
      refine ⟨ty_lst h3, ?_⟩
      walk_at "go"
      refine i_ixL (gD _ k3) rfl ?_
      walk_at "go"
      refine i_ixL (gr _ r0 k3 q0) (atI_map (by omega)) ?_
      walk_at "go"
      refine i_app h3 (by simp; omega) ?_
      unfold t__law_state_2a_1
      walk_at "go"
      refine ⟨ty_lst upd_same, ?_⟩
      have k4 := put H3 (.lst (nums.map V.int ++ [.int (r0.2[i]'(by omega))])) k3
      walk_at "go"
      refine i_ixL (gD _ k4) rfl ?_
      walk_at "go"
      refine i_ixL (gr _ r1 k4 q1) (atI_map (by omega)) ?_
      walk_at "go"
      refine i_app upd_same (by simp; omega) ?_
      have k5 := put _ (.lst (nums.map V.int ++ [.int (r0.2[i]'(by omega))] ++ [.int (r1.2[i]'(by omega))])) k4
      unfold t__law_state_2a_2
      walk_at "go"
      refine ⟨ty_lst upd_same, ?_⟩
      walk_at "go"
      refine i_ixL (gD _ k5) rfl ?_
      walk_at "go"
      refine i_ixL (gr _ r2 k5 q2) (atI_map (by omega)) ?_
      walk_at "go"
      refine i_app upd_same (by simp; omega) ?_
      refine ⟨nums ++ [r0.2[i]'(by omega)] ++ [r1.2[i]'(by omega)] ++ [r2.2[i]'(by omega)], _, rfl, by simp; omega, by rw [upd_same]; simp, put _ _ k5⟩
    · rintro σ H3 ⟨nums, k, rfl, hn, h3, k3⟩
      unfold t__law_state_3
      walk_at "go"
      have kH : ∀ S, Keep S H H3 := fun S x o n e => k3 x o (by simpa using ne_of_none e new.free) ((kp0 S) x o n e)
      intro p H4 n4
      refine hq ⟨p, nl, a⟩ H4 ((kH []).fresh (by simp) n4.free) (fun S => (kH S).trans (n4.keep S)) ⟨0, nums, ns, n4.at_, by decide, n4.keep [] _ _ (by simp) h3, by simpa using hn, ne_of_none h3 n4.free, ?_⟩
      rcases hs with h | ⟨o, its, n, h1, h2, h3, h4⟩
      · have h' := (kH []).rd (by simp) h
        refine .inl ⟨(n4.keep []).rd (by simp) h', ?_⟩
        rcases h' with h' | ⟨_, h'⟩ <;> exact ne_of_none h' n4.free
      · exact .inr fun H' => .inr ⟨o, its, n, h1, h2, h3, h4⟩
end
/-! ### str(int) and int(text), long ones -/
section
open PySem.Calls PySem.NumText
variable {X : Cx}
theorem ns_none {K : PySem.W.Frag} {h : Heap} {ns : Addr} {mc : Str → Option Value} {n : Str} (X : K.In h) (G : h.Ns ns mc) (e : PySem.W.nsIn K ns n = some none) : mc n = none := by
  obtain ⟨o, es, ep, ho, hd, _, hf⟩ := G
  unfold PySem.W.nsIn at e
  split at e
  · rename_i c d es' n' sl q
    have := X _ _ q
    rw [ho] at this
    cases this
    cases hd
    split at e
    · cases e
    · rename_i he
      rw [← hf]
      unfold nsFind findBy
      rw [← Array.find?_toList, he]
      rfl
  · cases e
theorem noDigits_of {pins : List (Addr × Obj)} {σ : L2.St} {H : Hp} {s : Shared} (hs : PySem.W.nsIn X.K cStatics "sys.int_max_str_digits" = some none) (I : L2.Inv X pins σ H s) : s.heap.NoDigits := by
  obtain ⟨mc, h1, _⟩ := I.nolimit
  exact ⟨mc, h1, ns_none I.kIn h1 hs⟩
theorem call_strW (hc : X.calm = true) (hs : PySem.W.nsIn X.K cStatics "sys.int_max_str_digits" = some none) : CallR X (.type "str") (fun xs H Q => ∃ i : Int, xs = [.int i] ∧ i.natAbs < 10 ^ 4300 ∧ Q (.str (toString i)) H) := by
  intro pins s σ H xs us Q I r h
  obtain ⟨i, rfl, hz, q⟩ := h
  obtain ⟨u, rfl, t, rfl⟩ := vals1 r
  exact str_of_int_or (I.ok.hd hc) (noDigits_of hs I) (fun _ => ⟨.str _, H, I.tok _, ⟨_, rfl⟩, q⟩) (fun hge => absurd hge (Nat.not_le.mpr hz))
theorem wp_limit {M : Model} {A : Around} {E : Value → Shared → Prop} {s : Shared} {Q : Nat → Shared → Prop} (hn : s.heap.NoDigits) (h : Q 4300 s) : wpAny M A Builtin.intMaxStrDigits Q E s := by
  obtain ⟨mc, hns, hnone⟩ := hn
  unfold Builtin.intMaxStrDigits
  refine wpAny_bind (wpAny_nsGet hns ?_)
  rw [hnone]
  exact wpAny_pure h
theorem wp_textW {M : Model} {A : Around} {E : Value → Shared → Prop} {s : Shared} {Q : Value → Shared → Prop} {v : Value} {text : List Nat} {n : Int}
    (hn : s.heap.NoDigits) (hs : ¬ (text.takeWhile (· != 0)).length ≤ 640) (hr : (int_private% "readNumeral") 4300 10 (text.takeWhile (· != 0)) = (int_private% "Numeral.value") n)
    (ha : ((text.takeWhile (· != 0)).length == text.length) = true) (h : Q (.int n s.toks) { s with toks := s.toks + 1 }) :
    wpAny M A ((int_private% "intFromText") v text 10) Q E s := by
  obtain ⟨hp, g, d, tk, os⟩ := s
  repeat (any_goals (first
    | assumption
    | (with_reducible refine wpAny_ite_false (decide_eq_false hs) ?_)
    | (with_reducible refine wpAny_ite_true (decide_eq_true ha) ?_)
    | (with_reducible refine wp_limit hn ?_)
    | wp_step))
  all_goals (try rw [hr])
  all_goals (try dsimp only)
  repeat (any_goals (first
    | assumption
    | (with_reducible refine wpAny_ite_false (decide_eq_false hs) ?_)
    | (with_reducible refine wpAny_ite_true (decide_eq_true ha) ?_)
    | wp_step))
structure Hid2 (p : Prop) : Prop where
  out : p
theorem meets_textW {x : Str} {u : Tok} {n : Int} (hl : 640 < (numSeenOf x).length) (hz : x.length ≤ sizeLine) (hn : PySem.intText? x = some n) :
    Meets (Builtin.«int.__new__» ⟨[.type "int", .str x u], []⟩) (fun _ R s => s.heap.NoDigits ∧ R (.ok (.ret (.int n s.toks))) { s with toks := s.toks + 1 }) := by
  intro prog w A R s hh
  obtain ⟨hnd, h⟩ := hh
  obtain ⟨hp, g, d, tk, os⟩ := s
  have f1 := F.conv_sub_int
  have f2 := F.madeHere_int
  have f3 := PySem.W.KIN.str_int
  have f4 := PySem.W.KIN.str_idx
  have f5 := PySem.W.KIN.str_trunc
  have f6 : typeOf (.str x u) = pure (.type "str") := rfl
  have hs : ¬ (numSeenOf x).length ≤ 640 := by omega
  have hr : (int_private% "readNumeral") 4300 10 (numSeenOf x) = (int_private% "Numeral.value") n ∧ ((numSeenOf x).length == (numTextOf x).length) = true := by
    rcases PySem.read4300 x hz with ⟨m, h1, h2, h3⟩ | ⟨h1, _⟩
    · rw [hn] at h1
      injection h1 with h1
      subst h1
      exact ⟨h3, h2⟩
    · rw [hn] at h1
      cases h1
  have hk := Hid2.mk (And.intro hnd (And.intro hs hr))
  clear hs hr hl hn
  repeat (any_goals (first
    | assumption
    | ((with_reducible show wpAny _ _ ((int_private% "intFromText") _ _ _) _ _ _); refine wp_textW hk.out.1 hk.out.2.1 hk.out.2.2.1 hk.out.2.2.2 ?_)
    | wp_step))
  all_goals first | exact ⟨_, rfl, h⟩ | skip
/-- int(text), any length that Python takes -/
theorem call_intW (hs : PySem.W.nsIn X.K cStatics "sys.int_max_str_digits" = some none) : CallR X (.type "int") (fun xs H Q => ∃ (a : Str) (n : Int), xs = [.str a] ∧ PySem.intText? a = some n ∧ a.length ≤ sizeLine ∧ (640 < a.length → (numSeenOf a).length = a.length) ∧ Q (.int n) H) := by
  intro pins s σ H xs us Q I rs h
  obtain ⟨a, n, rfl, hn, hl, hw, h⟩ := h
  obtain ⟨u, rfl, t, rfl⟩ := vals1 rs
  by_cases z : a.length ≤ 640
  · exact PySem.W.KIN.call_text hn z ⟨.int n, H, I.tok _, ⟨_, rfl⟩, h⟩
  · refine call_int_1 (meets_textW (by have := hw (by omega); omega) hl hn) ⟨noDigits_of hs I, ?_⟩
    exact ⟨typeIs_int _ _ _, .int n, H, I.tok _, ⟨_, rfl⟩, h⟩
end
/-! ### texts as lists of code points -/
section
open SX PySem.W PySem.Calls PySem.NumText PyProof.Rows
theorem at_one {a : List Nat} {c i : Nat} : StrLaws.At (S a) (S [c]) (S a).length i ↔ a[i]? = some c := by
  have e : (S a).cps.toList = a := by simp [S]
  unfold StrLaws.At
  rw [StrLaws.subAt_eq, e, S_len, S_len]
  constructor
  · rintro ⟨h1, h2⟩
    have h2 := eq_of_beq h2
    have h1 : i + 1 ≤ a.length := h1
    rw [List.getElem?_eq_getElem (by omega)]
    have h3 : (a.drop i).take 1 = [c] := h2
    have h4 : a.drop i = a[i] :: a.drop (i + 1) := List.drop_eq_getElem_cons (by omega)
    rw [h4] at h3
    have h5 : [a[i]] = [c] := h3
    exact congrArg some (List.cons.inj h5).1
  · intro h
    obtain ⟨h1, h2⟩ := List.getElem?_eq_some_iff.mp h
    refine ⟨h1, ?_⟩
    have h4 : a.drop i = a[i] :: a.drop (i + 1) := List.drop_eq_getElem_cons h1
    rw [h4, h2]
    show (([c] : List Nat) == [c]) = true
    exact beq_self_eq_true _
theorem find_no {a : List Nat} {c : Nat} (h : c ∉ a) : Txt.find (S a) (S [c]) = -1 := by
  rcases PyProof.Rows.find_whole (S a) (S [c]) with ⟨e, _⟩ | ⟨i, _, h1, _⟩
  · exact e
  · exact absurd (List.mem_of_getElem? (at_one.mp h1)) h
theorem find_at {p q : List Nat} {c : Nat} (h : c ∉ p) : Txt.find (S (p ++ c :: q)) (S [c]) = p.length := by
  have hp : (p ++ c :: q)[p.length]? = some c := by simp
  rcases PyProof.Rows.find_whole (S (p ++ c :: q)) (S [c]) with ⟨_, e⟩ | ⟨i, e, h1, h2⟩
  · exact absurd (at_one.mpr hp) (e p.length)
  · have h3 := at_one.mp h1
    by_cases z : i < p.length
    · rw [List.getElem?_append_left z] at h3
      exact absurd (List.mem_of_getElem? h3) h
    · by_cases z2 : p.length < i
      · exact absurd (at_one.mpr hp) (h2 p.length z2)
      · have : i = p.length := by omega
        rw [e, this]
theorem mul_S {c : Nat} {n : Int} : Txt.mul (S [c]) n = S (List.replicate n.toNat c) := by
  unfold Txt.mul
  by_cases h : n < 1
  · rw [if_pos h]
    have e : n.toNat = 0 := by omega
    rw [e]
    rfl
  · rw [if_neg h]
    by_cases h2 : n = 1
    · subst h2
      rfl
    · have h3 : (n == 1 || (S [c]).length == 0) = false := by
        rw [beq_eq_false_iff_ne.mpr h2]
        rfl
      rw [h3]
      have key : ∀ (k : Nat) (acc : Array Nat), List.foldl (fun x1 x2 => x1 ++ x2) acc (List.replicate k (S [c]).cps) = (acc.toList ++ List.replicate k c).toArray := fun k => by
        induction k with
        | zero => intro acc; simp
        | succ k ih =>
          intro acc
          rw [List.replicate_succ, List.foldl_cons, ih, List.replicate_succ]
          simp [S]
      have e := key n.toNat #[]
      show (⟨List.foldl (fun x1 x2 => x1 ++ x2) #[] (List.replicate n.toNat (S [c]).cps)⟩ : Str) = _
      rw [e]
      simp [S]
variable {X : Cx}
def rMulS : R2 := fun x y H Q => ∃ (a : Str) (i : Int), x = .str a ∧ y = .int i ∧ (a.length ≤ 1000 ∧ -(2 ^ 63) ≤ i ∧ i ≤ 16000) ∧ Q (.str (Txt.mul a i)) H
theorem op_mulS : OpR X (binaryOp .Mult) rMulS := by
  intro pins s σ H x y v u Q I rx ry h
  obtain ⟨a, i, rfl, rfl, ok, q⟩ := h
  obtain ⟨t, rfl⟩ := rx
  obtain ⟨t', rfl⟩ := ry
  exact SB.mul (mulOk_of 1000 16000 ok.1 ok.2.2 ok.2.1 (by decide) (by decide)) fun t' k => ⟨.str _, H, I.tok _, ⟨_, rfl⟩, q⟩
/-- text slices -/
theorem cut_to {a : List Nat} {k : Nat} : L2.cutS (S a) none (some (k : Int)) = S (a.take k) := by
  have e : (S a).cps.toList = a := by simp [S]
  unfold L2.cutS
  rw [HT.sIx_none, HT.sIx_nat, e, S_len, List.drop_zero, Nat.sub_zero]
  by_cases c : k ≤ a.length
  · rw [Nat.min_eq_left c]
  · rw [Nat.min_eq_right (by omega), List.take_length, List.take_of_length_le (by omega)]
theorem cut_from {a : List Nat} {k : Nat} : L2.cutS (S a) (some (k : Int)) none = S (a.drop k) := by
  have e : (S a).cps.toList = a := by simp [S]
  unfold L2.cutS
  rw [HT.sIx_none, HT.sIx_nat, e, S_len]
  by_cases c : k ≤ a.length
  · rw [Nat.min_eq_left c, List.take_of_length_le (by rw [List.length_drop]; omega)]
  · rw [Nat.min_eq_right (by omega), List.drop_length, List.drop_of_length_le (by omega)]
    simp
/-- the digits of a number -/
abbrev dgs (n : Nat) : List Nat := TL.numL n
theorem dgs_ok (n : Nat) : NumText.AllDigits (dgs n) := fun c hc => by
  obtain ⟨ch, hch, e⟩ := List.mem_map.mp hc
  have r := digit_range (Nat.isDigit_of_mem_toDigits (by decide) (by decide) hch)
  rw [← e]
  exact r
theorem dgs_ne (n : Nat) : dgs n ≠ [] := fun e => by
  have h := toDigits_len_ge 10 n
  rw [List.map_eq_nil_iff.mp e] at h
  exact absurd h (by decide)
theorem dgs_val (n : Nat) : NumText.digitsVal (dgs n) = n := PySem.W.KIN.val_back n
theorem str_nat (n : Nat) : Str.ofString (toString ((n : Nat) : Int)) = S (dgs n) := num_S n
theorem dgs_len {n k : Nat} (hk : 0 < k) (h : n < 10 ^ k) : (dgs n).length ≤ k := by
  show ((Nat.toDigits 10 n).map Char.toNat).length ≤ k
  rw [List.length_map]
  exact Nat.length_toDigits_le_iff (by decide) hk |>.mpr h
theorem seen_signs {a : List Nat} (h : ∀ c ∈ a, c = 43 ∨ (48 ≤ c ∧ c ≤ 57)) : numTextOf (S a) = a ∧ numSeenOf (S a) = a := by
  have e0 : (S a).cps.toList = a := by simp [S]
  have e1 : numTextOf (S a) = a := by
    have z : numTextOf (S a) = (S a).cps.toList := by
      refine if_pos ?_
      rw [← Array.all_toList, List.all_eq_true, e0]
      intro c hc
      have := h c hc
      exact decide_eq_true (by omega)
    rw [z, e0]
  refine ⟨e1, ?_⟩
  show (numTextOf (S a)).takeWhile _ = _
  rw [e1]
  refine takeWhile_all fun c hc => ?_
  have := h c hc
  exact bne_iff_ne.mpr (by omega)
theorem int_plus {cs : List Nat} (h : NumText.AllDigits cs) (h1 : cs ≠ []) (h2 : cs.length + 1 ≤ 4300) : PySem.intText? (S (43 :: cs)) = some ((NumText.digitsVal cs : Nat) : Int) := by
  have e0 : (S (43 :: cs)).cps.toList = 43 :: cs := by simp [S]
  obtain ⟨e1, e2⟩ := seen_signs (a := 43 :: cs) fun c hc => by
    rcases List.mem_cons.mp hc with e | hc
    · exact .inl e
    · exact .inr (h c hc)
  unfold PySem.intText?
  rw [e1, e2, if_pos (beq_self_eq_true _)]
  have es : sign ((43 :: cs).dropWhile blank) = (false, cs) := by rw [dropWhile_of (by decide)]; rfl
  have ec : core (43 :: cs) = cs := by
    unfold core
    rw [es]
    show (cs.reverse.dropWhile blank).reverse = cs
    rw [dropWhile_digits h.reverse, List.reverse_reverse]
  rw [ec, es, digits_of h h1]
  have hsz := push_size cs #[]
  have hv := push_foldl cs #[]
  show (if _ ≤ 4300 then some (worth false _) else none) = _
  rw [if_pos (by rw [hsz]; simp only [Array.size_empty]; omega)]
  unfold worth digitsVal
  rw [hv]
  rfl
end
/-! ### layout: the mathematics and the promises -/
section
open SX
def sgnL (m : Int) : List Nat := if m < 0 then [45] else []
def dgL (m : Int) : List Nat := dgs m.natAbs
def expL (m p : Int) : List Nat := sgnL m ++ (dgL m).take 1 ++ (if (dgL m).length = 1 then [] else 46 :: (dgL m).drop 1) ++ [101] ++ [if p > 0 then 43 else 45] ++ dgL (p - 1)
def layP (m p : Int) : List Nat := if ((dgL m).length : Int) ≤ p ∧ p ≤ 21 then sgnL m ++ dgL m ++ List.replicate (p - (dgL m).length).toNat 48
  else if 0 < p ∧ p ≤ 21 then sgnL m ++ (dgL m).take p.toNat ++ [46] ++ (dgL m).drop p.toNat
  else if -6 < p ∧ p ≤ 0 then sgnL m ++ [48, 46] ++ List.replicate (-p).toNat 48 ++ dgL m
  else expL m p
def layZ (m e : Int) : List Nat := if m = 0 then [48] else layP m ((dgL m).length + e)
def okM (m : Int) : Prop := m.natAbs < 10 ^ 2000
def sp_layout (K : PySem.W.Frag) : Sp := fun vs H Q _ => ∃ m e : Int, vs = [.int m, .int e] ∧ okM m ∧ okM e ∧ ∀ H1, Keep [] H H1 → Q (.str (S (layZ m e))) H1
def sp__law_due (K : PySem.W.Frag) : Sp := sp_layout K
/-- what the law's reader reads -/
def sp__law_worth (K : PySem.W.Frag) : Sp := fun vs H Q _ => ∃ m e : Int, vs = [.str (S (layZ m e))] ∧ okM m ∧ okM e ∧ (m = 0 → e = 0) ∧ ∀ (z : Nat) q H1, (m ≠ 0 → (z = 0 ∨ (e = z ∧ z ≤ 30))) → NewAt H q (.tup [.int (m * 10 ^ z), .int (e - z)]) H1 → Q (.ref q) H1
def sp_law (K : PySem.W.Frag) : Sp := fun vs H Q _ => ∃ (a : Addr) (ns : List Int), vs = [.ref a] ∧ SqL K H a (ns.map V.int) ∧ ns.length ≤ 63 ∧ Only H ∧ ∀ H', Q (.bl true) H'
def rStrW : List V → Hp → VK → Prop := fun xs H Q => ∃ i : Int, xs = [.int i] ∧ i.natAbs < 10 ^ 4300 ∧ Q (.str (toString i)) H
def rIntW : List V → Hp → VK → Prop := fun xs H Q => ∃ (a : Str) (n : Int), xs = [.str a] ∧ PySem.intText? a = some n ∧ a.length ≤ sizeLine ∧ (640 < a.length → (numSeenOf a).length = a.length) ∧ Q (.int n) H
def rFind : V → List V → Hp → VK → Prop := fun x xs H Q => ∃ a b : Str, x = .str a ∧ xs = [.str b] ∧ Q (.int (Txt.find a b)) H
variable {K : PySem.W.Frag} {H : Hp} {Q : VK}
theorem i_addS {i j : Str} {a b : List Nat} (ha : i = S a) (hb : j = S b) (c : a.length + b.length ≤ 100000) (h : Q (.str (S (a ++ b))) H) : rAddS (.str i) (.str j) H Q := by
  subst ha hb
  refine ⟨S a, S b, rfl, rfl, ?_, ?_⟩
  · rw [S_len, S_len]
    have : sizeLine = 16777216 := rfl
    omega
  · rw [S_cat]
    exact h
theorem i_mulS {c : Nat} {i : Str} {n : Int} (hi : i = S [c]) (b : -10000 ≤ n ∧ n ≤ 10000) (h : Q (.str (S (List.replicate n.toNat c))) H) : rMulS (.str i) (.int n) H Q := by
  subst hi
  refine ⟨S [c], n, rfl, rfl, ⟨by rw [S_len]; show 1 ≤ 1000; decide, by omega, by omega⟩, ?_⟩
  rw [mul_S]
  exact h
theorem i_lenS {a : List Nat} (c : a.length ≤ 100000) (h : Q (.int a.length) H) : rLenS [.str (S a)] H Q := by
  refine ⟨S a, rfl, ?_, ?_⟩
  · rw [S_len]
    have : sizeLine = 16777216 := rfl
    omega
  · rw [S_len]
    exact h
theorem i_cutTo {a : List Nat} {n : Int} {k : Nat} (e : n = k) (c : a.length ≤ 100000) (h : Q (.str (S (a.take k))) H) : rSlS (.str (S a)) none (some n) H Q := by
  subst e
  refine ⟨S a, rfl, ?_, ?_⟩
  · rw [S_len]
    have : sizeLine = 16777216 := rfl
    omega
  · rw [cut_to]
    exact h
theorem i_cutFrom {a : List Nat} {n : Int} {k : Nat} (e : n = k) (c : a.length ≤ 100000) (h : Q (.str (S (a.drop k))) H) : rSlS (.str (S a)) (some n) none H Q := by
  subst e
  refine ⟨S a, rfl, ?_, ?_⟩
  · rw [S_len]
    have : sizeLine = 16777216 := rfl
    omega
  · rw [cut_from]
    exact h
theorem i_strW {i : Int} (h0 : 0 ≤ i) (b : i.natAbs < 10 ^ 4300) (h : Q (.str (S (dgL i))) H) : rStrW [.int i] H Q := by
  refine ⟨i, rfl, b, ?_⟩
  obtain ⟨n, rfl⟩ : ∃ n : Nat, i = n := ⟨i.toNat, by omega⟩
  rw [str_nat]
  exact h
theorem i_find {i : Str} {a : List Nat} {c : Nat} (hi : i = S [c]) (h : Q (.int (Txt.find (S a) (S [c]))) H) : rFind (.str (S a)) [.str i] H Q := by
  subst hi
  exact ⟨_, _, rfl, rfl, h⟩
theorem big1 : (10 : Nat) ^ 2000 < 10 ^ 4300 := by decide +kernel
theorem big2 : (10 : Nat) ^ 2000 + 5000 < 10 ^ 4300 := by decide +kernel
theorem dgL_len {m : Int} (h : okM m) : (dgL m).length ≤ 2000 ∧ 1 ≤ (dgL m).length := by
  refine ⟨dgs_len (by decide) h, ?_⟩
  have := dgs_ne m.natAbs
  exact List.length_pos_iff.mpr this
theorem abs_if (m : Int) : (if m < 0 then -m else m).natAbs = m.natAbs := by split <;> omega
theorem sgn_len (m : Int) : (sgnL m).length ≤ 1 := by unfold sgnL; split <;> simp
end
/-! layout(m, e) : m=0 e=1 sign=2 digits=3 point=4 power=5 mark=6 -/
def N_layout : List Str := ["m", "e", "sign", "digits", "point", "power", "mark"]
def t_layout_0a_0 (K : PySem.W.Frag) : TS := (tRet (tC (.str "0")))
def t_layout_4a_0 (K : PySem.W.Frag) : TS := (tRet (tOp rAddS (tOp rAddS (tVar 2) (tVar 3)) (tOp rMulS (tC (.str "0")) (tOp rSubI (tVar 4) (tCB rLenS (tCons (tVar 3) tNil))))))
def t_layout_5a_0 (K : PySem.W.Frag) : TS := (tRet (tOp rAddS (tOp rAddS (tOp rAddS (tVar 2) (tSl rSlS (tVar 3) tNoPart (tPart (tVar 4)))) (tC (.str "."))) (tSl rSlS (tVar 3) (tPart (tVar 4)) tNoPart)))
def t_layout_6a_0 (K : PySem.W.Frag) : TS := (tRet (tOp rAddS (tOp rAddS (tOp rAddS (tVar 2) (tC (.str "0."))) (tOp rMulS (tC (.str "0")) (tUn rNegI (tVar 4)))) (tVar 3)))
def t_layout_9a_0 (K : PySem.W.Frag) : TS := (tRet (tOp rAddS (tOp rAddS (tOp rAddS (tVar 2) (tVar 3)) (tVar 6)) (tVar 5)))
def t_layout_10 (K : PySem.W.Frag) : TS := (tRet (tOp rAddS (tOp rAddS (tOp rAddS (tOp rAddS (tOp rAddS (tVar 2) (tOp rIxS (tVar 3) (tC (.int 0)))) (tC (.str "."))) (tSl rSlS (tVar 3) (tPart (tC (.int 1))) tNoPart)) (tVar 6)) (tVar 5)))
def t_layout_9 (K : PySem.W.Frag) : TS := tSeq (tIfS (tTest (tOp rEq (tCB rLenS (tCons (tVar 3) tNil)) (tC (.int 1)))) (t_layout_9a_0 K) tNext) (t_layout_10 K)
def t_layout_8 (K : PySem.W.Frag) : TS := tSeq (tAsg (tIf (tTest (tOp rGtI (tVar 4) (tC (.int 0)))) (tC (.str "e+")) (tC (.str "e-"))) (gName 6)) (t_layout_9 K)
def t_layout_7 (K : PySem.W.Frag) : TS := tSeq (tAsg (tCB rStrW (tCons (tCB rAbs (tCons (tOp rSubI (tVar 4) (tC (.int 1))) tNil)) tNil)) (gName 5)) (t_layout_8 K)
def t_layout_6 (K : PySem.W.Frag) : TS := tSeq (tIfS (tTest (tChain rLtI rLeI (tUn rNegI (tC (.int 6))) (tVar 4) (tC (.int 0)))) (t_layout_6a_0 K) tNext) (t_layout_7 K)
def t_layout_5 (K : PySem.W.Frag) : TS := tSeq (tIfS (tTest (tChain rLtI rLeI (tC (.int 0)) (tVar 4) (tC (.int 21)))) (t_layout_5a_0 K) tNext) (t_layout_6 K)
def t_layout_4 (K : PySem.W.Frag) : TS := tSeq (tIfS (tTest (tChain rLeI rLeI (tCB rLenS (tCons (tVar 3) tNil)) (tVar 4) (tC (.int 21)))) (t_layout_4a_0 K) tNext) (t_layout_5 K)
def t_layout_3 (K : PySem.W.Frag) : TS := tSeq (tAsg (tOp rAddI (tCB rLenS (tCons (tVar 3) tNil)) (tVar 1)) (gName 4)) (t_layout_4 K)
def t_layout_2 (K : PySem.W.Frag) : TS := tSeq (tAsg (tCB rStrW (tCons (tCB rAbs (tCons (tVar 0) tNil)) tNil)) (gName 3)) (t_layout_3 K)
def t_layout_1 (K : PySem.W.Frag) : TS := tSeq (tAsg (tIf (tTest (tOp rLtI (tVar 0) (tC (.int 0)))) (tC (.str "-")) (tC (.str ""))) (gName 2)) (t_layout_2 K)
def t_layout_0 (K : PySem.W.Frag) : TS := tSeq (tIfS (tTest (tOp rEq (tVar 0) (tC (.int 0)))) (t_layout_0a_0 K) tNext) (t_layout_1 K)
/-! _law_due(_law_m, _law_e) : _law_m=0 _law_e=1 _law_sign=2 _law_digits=3 _law_first=4 _law_tail=5 -/
def N__law_due : List Str := ["_law_m", "_law_e", "_law_sign", "_law_digits", "_law_first", "_law_tail"]
def t__law_due_0a_0 (K : PySem.W.Frag) : TS := (tRet (tC (.str "0")))
def t__law_due_4a_1a_0 (K : PySem.W.Frag) : TS := (tAsg (tOp rAddS (tC (.str ".")) (tVar 5)) (gName 5))
def t__law_due_4a_2 (K : PySem.W.Frag) : TS := (tRet (tOp rAddS (tOp rAddS (tOp rAddS (tOp rAddS (tOp rAddS (tVar 2) (tSl rSlS (tVar 3) tNoPart (tPart (tC (.int 1))))) (tVar 5)) (tC (.str "e"))) (tOp (rIxL K) (tLst (tCons (tC (.str "-")) (tCons (tC (.str "+")) tNil))) (tCB rInt1 (tCons (tOp rGtI (tVar 4) (tC (.int 0))) tNil)))) (tCB rStrW (tCons (tCB rAbs (tCons (tVar 4) tNil)) tNil))))
def t__law_due_4a_1 (K : PySem.W.Frag) : TS := tSeq (tIfS (tTest (tOp rNe (tVar 5) (tC (.str "")))) (t__law_due_4a_1a_0 K) tNext) (t__law_due_4a_2 K)
def t__law_due_4a_0 (K : PySem.W.Frag) : TS := tSeq (tAsg (tSl rSlS (tVar 3) (tPart (tC (.int 1))) tNoPart) (gName 5)) (t__law_due_4a_1 K)
def t__law_due_5a_0 (K : PySem.W.Frag) : TS := (tRet (tOp rAddS (tOp rAddS (tOp rAddS (tVar 2) (tC (.str "0."))) (tOp rMulS (tC (.str "0")) (tOp rSubI (tUn rNegI (tC (.int 1))) (tVar 4)))) (tVar 3)))
def t__law_due_6a_0 (K : PySem.W.Frag) : TS := (tRet (tOp rAddS (tOp rAddS (tVar 2) (tVar 3)) (tOp rMulS (tC (.str "0")) (tVar 1))))
def t__law_due_7 (K : PySem.W.Frag) : TS := (tRet (tOp rAddS (tOp rAddS (tOp rAddS (tVar 2) (tSl rSlS (tVar 3) tNoPart (tPart (tOp rAddI (tVar 4) (tC (.int 1)))))) (tC (.str "."))) (tSl rSlS (tVar 3) (tPart (tOp rAddI (tVar 4) (tC (.int 1)))) tNoPart)))
def t__law_due_6 (K : PySem.W.Frag) : TS := tSeq (tIfS (tTest (tOp rGeI (tVar 1) (tC (.int 0)))) (t__law_due_6a_0 K) tNext) (t__law_due_7 K)
def t__law_due_5 (K : PySem.W.Frag) : TS := tSeq (tIfS (tTest (tOp rLtI (tVar 4) (tC (.int 0)))) (t__law_due_5a_0 K) tNext) (t__law_due_6 K)
def t__law_due_4 (K : PySem.W.Frag) : TS := tSeq (tIfS (tOr (tTest (tOp rGeI (tVar 4) (tC (.int 21)))) (tTest (tOp rLtI (tVar 4) (tUn rNegI (tC (.int 6)))))) (t__law_due_4a_0 K) tNext) (t__law_due_5 K)
def t__law_due_3 (K : PySem.W.Frag) : TS := tSeq (tAsg (tOp rSubI (tOp rAddI (tCB rLenS (tCons (tVar 3) tNil)) (tVar 1)) (tC (.int 1))) (gName 4)) (t__law_due_4 K)
def t__law_due_2 (K : PySem.W.Frag) : TS := tSeq (tAsg (tCB rStrW (tCons (tCB rAbs (tCons (tVar 0) tNil)) tNil)) (gName 3)) (t__law_due_3 K)
def t__law_due_1 (K : PySem.W.Frag) : TS := tSeq (tAsg (tOp (rIxL K) (tLst (tCons (tC (.str "")) (tCons (tC (.str "-")) tNil))) (tCB rInt1 (tCons (tOp rLtI (tVar 0) (tC (.int 0))) tNil))) (gName 2)) (t__law_due_2 K)
def t__law_due_0 (K : PySem.W.Frag) : TS := tSeq (tIfS (tTest (tOp rEq (tVar 0) (tC (.int 0)))) (t__law_due_0a_0 K) tNext) (t__law_due_1 K)
/-! _law_worth(_law_text) : _law_text=0 _law_sign=1 _law_power=2 _law_at=3 -/
def N__law_worth : List Str := ["_law_text", "_law_sign", "_law_power", "_law_at"]
def t__law_worth_1a_1 (K : PySem.W.Frag) : TS := (tAsg (tSl rSlS (tVar 0) (tPart (tC (.int 1))) tNoPart) (gName 0))
def t__law_worth_1a_0 (K : PySem.W.Frag) : TS := tSeq (tAsg (tUn rNegI (tC (.int 1))) (gName 1)) (t__law_worth_1a_1 K)
def t__law_worth_4a_1 (K : PySem.W.Frag) : TS := (tAsg (tSl rSlS (tVar 0) tNoPart (tPart (tVar 3))) (gName 0))
def t__law_worth_4a_0 (K : PySem.W.Frag) : TS := tSeq (tAsg (tCB rIntW (tCons (tSl rSlS (tVar 0) (tPart (tOp rAddI (tVar 3) (tC (.int 1)))) tNoPart) tNil)) (gName 2)) (t__law_worth_4a_1 K)
def t__law_worth_6a_1 (K : PySem.W.Frag) : TS := (tAsg (tOp rAddS (tSl rSlS (tVar 0) tNoPart (tPart (tVar 3))) (tSl rSlS (tVar 0) (tPart (tOp rAddI (tVar 3) (tC (.int 1)))) tNoPart)) (gName 0))
def t__law_worth_6a_0 (K : PySem.W.Frag) : TS := tSeq (tAsg (tOp rSubI (tVar 2) (tOp rSubI (tOp rSubI (tCB rLenS (tCons (tVar 0) tNil)) (tVar 3)) (tC (.int 1)))) (gName 2)) (t__law_worth_6a_1 K)
def t__law_worth_7 (K : PySem.W.Frag) : TS := (tRet (tTup (tCons (tOp rMulI (tVar 1) (tCB rIntW (tCons (tVar 0) tNil))) (tCons (tVar 2) tNil))))
def t__law_worth_6 (K : PySem.W.Frag) : TS := tSeq (tIfS (tTest (tOp rGeI (tVar 3) (tC (.int 0)))) (t__law_worth_6a_0 K) tNext) (t__law_worth_7 K)
def t__law_worth_5 (K : PySem.W.Frag) : TS := tSeq (tAsg (tBM K "str" rFind (tVar 0) (tCons (tC (.str ".")) tNil)) (gName 3)) (t__law_worth_6 K)
def t__law_worth_4 (K : PySem.W.Frag) : TS := tSeq (tIfS (tTest (tOp rGeI (tVar 3) (tC (.int 0)))) (t__law_worth_4a_0 K) tNext) (t__law_worth_5 K)
def t__law_worth_3 (K : PySem.W.Frag) : TS := tSeq (tAsg (tBM K "str" rFind (tVar 0) (tCons (tC (.str "e")) tNil)) (gName 3)) (t__law_worth_4 K)
def t__law_worth_2 (K : PySem.W.Frag) : TS := tSeq (tAsg (tC (.int 0)) (gName 2)) (t__law_worth_3 K)
def t__law_worth_1 (K : PySem.W.Frag) : TS := tSeq (tIfS (tTest (tOp rEq (tSl rSlS (tVar 0) tNoPart (tPart (tC (.int 1)))) (tC (.str "-")))) (t__law_worth_1a_0 K) tNext) (t__law_worth_2 K)
def t__law_worth_0 (K : PySem.W.Frag) : TS := tSeq (tAsg (tC (.int 1)) (gName 1)) (t__law_worth_1 K)
/-! law(_law_script) : _law_script=0 _law_state_here=1 _law_power=2 _law_k=3 _law_m=4 _law_e=5 _law_pick=6 _law_text=7 _law_digits=8 _law_ten=9 -/
def N_law : List Str := ["_law_script", "_law_state_here", "_law_power", "_law_k", "_law_m", "_law_e", "_law_pick", "_law_text", "_law_digits", "_law_ten"]
def t_law_2a_0 (K : PySem.W.Frag) : TS := (tAsg (tOp rMulI (tVar 2) (tC (.int 10))) (gName 2))
def t_law_4a_0a_0 (K : PySem.W.Frag) : TS := (tAsg (tOp rAddI (tOp rMulW (tVar 4) (tOp rAddI (tOp rPowI (tC (.int 10)) (tC (.int 40))) (tC (.int 7)))) (tCall (sp__law_next K) [] E0 (tCons (tVar 1) (tCons (tC (.int 1000)) tNil)))) (gName 4))
def t_law_4a_0 (K : PySem.W.Frag) : TS := (tFor (iRng1 (tCons (tCall (sp__law_next K) [] E0 (tCons (tVar 1) (tCons (tC (.int 46)) tNil))) tNil)) (gName 3) (t_law_4a_0a_0 K))
def t_law_5a_0 (K : PySem.W.Frag) : TS := (tAsg (tOp rMulI (tOp rAddI (tC (.int 1)) (tCall (sp__law_next K) [] E0 (tCons (tVar 1) (tCons (tC (.int 9)) tNil)))) (tOp (rIxL K) (tLst (tCons (tC (.int 1)) (tCons (tUn rNegI (tC (.int 1))) tNil))) (tCall (sp__law_next K) [] E0 (tCons (tVar 1) (tCons (tC (.int 2)) tNil))))) (gName 4))
def t_law_6a_0 (K : PySem.W.Frag) : TS := (tAsg (tOp rAddI (tVar 4) (tC (.int 1))) (gName 4))
def t_law_9a_0 (K : PySem.W.Frag) : TS := (tAsg (tOp rSubI (tCall (sp__law_next K) [] E0 (tCons (tVar 1) (tCons (tC (.int 900)) tNil))) (tC (.int 450))) (gName 5))
def t_law_10a_1a_0a_0 (K : PySem.W.Frag) : TS := (tAsg (tOp rMulW (tVar 5) (tOp rAddI (tOp rPowI (tC (.int 10)) (tC (.int 50))) (tC (.int 3)))) (gName 5))
def t_law_10a_1a_0 (K : PySem.W.Frag) : TS := (tFor (iRng1 (tCons (tCall (sp__law_next K) [] E0 (tCons (tVar 1) (tCons (tC (.int 19)) tNil))) tNil)) (gName 3) (t_law_10a_1a_0a_0 K))
def t_law_10a_1 (K : PySem.W.Frag) : TS := (tIfS (tTest (tOp rEq (tCall (sp__law_next K) [] E0 (tCons (tVar 1) (tCons (tC (.int 3)) tNil))) (tC (.int 0)))) (t_law_10a_1a_0 K) tNext)
def t_law_10a_0 (K : PySem.W.Frag) : TS := tSeq (tAsg (tOp rMulI (tCall (sp__law_big K) [] E0 (tCons (tVar 1) (tCons (tOp rPowI (tC (.int 10)) (tC (.int 40))) tNil))) (tOp (rIxL K) (tLst (tCons (tC (.int 1)) (tCons (tUn rNegI (tC (.int 1))) tNil))) (tCall (sp__law_next K) [] E0 (tCons (tVar 1) (tCons (tC (.int 2)) tNil))))) (gName 5)) (t_law_10a_1 K)
def t_law_11a_1 (K : PySem.W.Frag) : TS := (tAsg (tC (.int 0)) (gName 5))
def t_law_11a_0 (K : PySem.W.Frag) : TS := tSeq (tAsg (tC (.int 0)) (gName 4)) (t_law_11a_1 K)
def t_law_13a_0 (K : PySem.W.Frag) : TS := (tRet (tC (.bl false)))
def t_law_15a_0 (K : PySem.W.Frag) : TS := (tRet (tOp rEq (tVar 8) (tC (.int 0))))
def t_law_16a_0a_1 (K : PySem.W.Frag) : TS := (tAsg (tOp rAddI (tVar 9) (tC (.int 1))) (gName 9))
def t_law_16a_0a_0 (K : PySem.W.Frag) : TS := tSeq (tAsg (tOp rDivI (tVar 8) (tC (.int 10))) (gName 8)) (t_law_16a_0a_1 K)
def t_law_16a_0 (K : PySem.W.Frag) : TS := (tIfS (tAnd (tTest (tOp rEq (tOp rModI (tVar 8) (tC (.int 10))) (tC (.int 0)))) (tTest (tOp rLtI (tVar 9) (tVar 5)))) (t_law_16a_0a_0 K) tNext)
def t_law_17 (K : PySem.W.Frag) : TS := (tRet (tAndV (tOp rEq (tVar 8) (tVar 4)) (tOp rEq (tVar 9) (tVar 5))))
def t_law_16 (K : PySem.W.Frag) : TS := tSeq (tFor (iRng1 (tCons (tC (.int 30)) tNil)) (gName 3) (t_law_16a_0 K)) (t_law_17 K)
def t_law_15 (K : PySem.W.Frag) : TS := tSeq (tIfS (tTest (tOp rEq (tVar 4) (tC (.int 0)))) (t_law_15a_0 K) tNext) (t_law_16 K)
def t_law_14 (K : PySem.W.Frag) : TS := tSeq (tAsg (tCall (sp__law_worth K) [] E0 (tCons (tVar 7) tNil)) (gTup K 2 (gCons (gName 8) (gCons (gName 9) gNil)))) (t_law_15 K)
def t_law_13 (K : PySem.W.Frag) : TS := tSeq (tIfS (tOr (tNot (tB (tCB (rIsi K) (tCons (tVar 7) (tCons (tC (.ty "str")) tNil))))) (tTest (tOp rNe (tVar 7) (tCall (sp__law_due K) [] E0 (tCons (tVar 4) (tCons (tVar 5) tNil)))))) (t_law_13a_0 K) tNext) (t_law_14 K)
def t_law_12 (K : PySem.W.Frag) : TS := tSeq (tAsg (tCall (sp_layout K) [] E0 (tCons (tVar 4) (tCons (tVar 5) tNil))) (gName 7)) (t_law_13 K)
def t_law_11 (K : PySem.W.Frag) : TS := tSeq (tIfS (tOr (tTest (tOp rEq (tCall (sp__law_next K) [] E0 (tCons (tVar 1) (tCons (tC (.int 30)) tNil))) (tC (.int 1)))) (tTest (tOp rEq (tVar 4) (tC (.int 0))))) (t_law_11a_0 K) tNext) (t_law_12 K)
def t_law_10 (K : PySem.W.Frag) : TS := tSeq (tIfS (tTest (tOp rEq (tVar 6) (tC (.int 1)))) (t_law_10a_0 K) tNext) (t_law_11 K)
def t_law_9 (K : PySem.W.Frag) : TS := tSeq (tIfS (tTest (tOp rEq (tVar 6) (tC (.int 0)))) (t_law_9a_0 K) tNext) (t_law_10 K)
def t_law_8 (K : PySem.W.Frag) : TS := tSeq (tAsg (tCall (sp__law_next K) [] E0 (tCons (tVar 1) (tCons (tC (.int 6)) tNil))) (gName 6)) (t_law_9 K)
def t_law_7 (K : PySem.W.Frag) : TS := tSeq (tAsg (tOp rSubI (tOp rSubI (tCall (sp__law_next K) [] E0 (tCons (tVar 1) (tCons (tC (.int 33)) tNil))) (tC (.int 9))) (tCB rLenS (tCons (tCB rStrW (tCons (tCB rAbs (tCons (tVar 4) tNil)) tNil)) tNil))) (gName 5)) (t_law_8 K)
def t_law_6 (K : PySem.W.Frag) : TS := tSeq (tIfS (tAnd (tTest (tOp rEq (tOp rModI (tVar 4) (tC (.int 10))) (tC (.int 0)))) (tTest (tOp rNe (tVar 4) (tC (.int 0))))) (t_law_6a_0 K) tNext) (t_law_7 K)
def t_law_5 (K : PySem.W.Frag) : TS := tSeq (tIfS (tTest (tOp rEq (tCall (sp__law_next K) [] E0 (tCons (tVar 1) (tCons (tC (.int 3)) tNil))) (tC (.int 0)))) (t_law_5a_0 K) tNext) (t_law_6 K)
def t_law_4 (K : PySem.W.Frag) : TS := tSeq (tIfS (tTest (tOp rEq (tCall (sp__law_next K) [] E0 (tCons (tVar 1) (tCons (tC (.int 12)) tNil))) (tC (.int 0)))) (t_law_4a_0 K) tNext) (t_law_5 K)
def t_law_3 (K : PySem.W.Frag) : TS := tSeq (tAsg (tOp rMulI (tCall (sp__law_big K) [] E0 (tCons (tVar 1) (tCons (tVar 2) tNil))) (tOp (rIxL K) (tLst (tCons (tC (.int 1)) (tCons (tUn rNegI (tC (.int 1))) tNil))) (tCall (sp__law_next K) [] E0 (tCons (tVar 1) (tCons (tC (.int 2)) tNil))))) (gName 4)) (t_law_4 K)
def t_law_2 (K : PySem.W.Frag) : TS := tSeq (tFor (iRng1 (tCons (tCall (sp__law_next K) [] E0 (tCons (tVar 1) (tCons (tC (.int 40)) tNil))) tNil)) (gName 3) (t_law_2a_0 K)) (t_law_3 K)
def t_law_1 (K : PySem.W.Frag) : TS := tSeq (tAsg (tC (.int 10)) (gName 2)) (t_law_2 K)
def t_law_0 (K : PySem.W.Frag) : TS := tSeq (tAsg (tCall (sp__law_state K) [] E0 (tCons (tVar 0) (tCons (tC (.int 0)) tNil))) (gName 1)) (t_law_1 K)
section
open SX
variable {K : PySem.W.Frag}
theorem len_layout {vs : List V} {H : Hp} {Q : VK} {E : XK} (h : sp_layout K vs H Q E) : vs.length = 2 := by obtain ⟨_, _, rfl, _⟩ := h; rfl
theorem take_len {a : List Nat} {k : Nat} (h : a.length ≤ 2000) : (a.take k).length ≤ 2000 := by rw [List.length_take]; omega
theorem drop_len {a : List Nat} {k : Nat} (h : a.length ≤ 2000) : (a.drop k).length ≤ 2000 := by rw [List.length_drop]; omega
theorem ix_first {a : List Nat} {c : Nat} (h : a[0]? = some c) {H : Hp} {Q : VK} (hl : a.length ≤ 2000) (q : Q (.str (S (a.take 1))) H) : rIxS (.str (S a)) (.int 0) H Q := by
  have e : (S a).cps.toList = a := by simp [S]
  refine ⟨S a, 0, c, rfl, rfl, ?_, ?_, ?_⟩
  · rw [S_len]
    have : sizeLine = 16777216 := rfl
    omega
  · rw [e]
    exact atI_nat (j := 0) h
  · cases a with
    | nil => cases h
    | cons x t =>
      obtain rfl : x = c := by simpa using h
      exact q
theorem r_layout {vs : List V} {H : Hp} {Q : VK} {E : XK} (h : sp_layout K vs H Q E) : t_layout_0 K { nx := fun _ H' => Q .non H', rt := Q } (start N_layout vs) H := by
  obtain ⟨m, e, rfl, hm, he, hq⟩ := h
  have hq := hq H (.refl _)
  have hn := dgL_len hm
  have hsl := sgn_len m
  unfold t_layout_0
  walk_at "go"
  unfold layZ at hq
  refine i_D (fun h0 => ?_) (fun h0 => ?_)
  · rw [if_pos h0] at hq
    unfold t_layout_0a_0
    walk_at "go"
    exact hq
  rw [if_neg h0] at hq
  walk_at "go"
  unfold t_layout_1
  walk_at "go"
  have rest : t_layout_2 K { nx := fun _ H' => Q .non H', rt := Q } [some (.int m), some (.int e), some (.str (S (sgnL m))), none, none, none, none] H := by
    unfold t_layout_2
    walk_at "go"
    refine i_strW (by split <;> omega) (by rw [abs_if]; exact Nat.lt_trans hm big1) ?_
    have ed : dgL (if m < 0 then -m else m) = dgL m := by unfold dgL; rw [abs_if]
    rw [ed]
    walk_at "go"
    unfold t_layout_3
    walk_at "go"
    refine i_lenS (by omega) ?_
    walk_at "go"
    generalize hp : ((dgL m).length : Int) + e = p at hq
    have hp1 : (p - 1).natAbs < 10 ^ 4300 := by
      have h1 := big2
      unfold okM at he
      generalize (10 : Nat) ^ 2000 = P at *
      generalize (10 : Nat) ^ 4300 = P2 at *
      omega
    generalize hD : dgL m = D at hq hn hp
    generalize hS : sgnL m = sg at hq hsl
    unfold layP at hq
    rw [hD, hS] at hq
    have r7 : ¬ ((D.length : Int) ≤ p ∧ p ≤ 21) → ¬ (0 < p ∧ p ≤ 21) → ¬ (-6 < p ∧ p ≤ 0) → t_layout_7 K { nx := fun _ H' => Q .non H', rt := Q } [some (.int m), some (.int e), some (.str (S sg)), some (.str (S D)), some (.int p), none, none] H := fun c1 c2 c3 => by
      rw [if_neg c1, if_neg c2, if_neg c3] at hq
      unfold expL at hq
      rw [hD, hS] at hq
      unfold t_layout_7
      walk_at "go"
      refine i_strW (by split <;> omega) (by rw [abs_if]; exact hp1) ?_
      have ed2 : dgL (if p - 1 < 0 then -(p - 1) else p - 1) = dgL (p - 1) := by unfold dgL; rw [abs_if]
      rw [ed2]
      have hpl : (dgL (p - 1)).length ≤ 4300 := dgs_len (by decide) hp1
      generalize dgL (p - 1) = X at hq hpl
      walk_at "go"
      unfold t_layout_8
      walk_at "go"
      have tail : ∀ (s : Nat) (i : Str), i = S [101, s] → (if p > 0 then 43 else 45) = s → t_layout_9 K { nx := fun _ H' => Q .non H', rt := Q } [some (.int m), some (.int e), some (.str (S sg)), some (.str (S D)), some (.int p), some (.str (S X)), some (.str i)] H := fun s i hi hs => by
        rw [hs] at hq
        unfold t_layout_9
        walk_at "go"
        refine i_lenS (by omega) ?_
        walk_at "go"
        refine i_D (fun h1 => ?_) (fun h1 => ?_)
        · have h1' : D.length = 1 := by omega
          rw [if_pos h1', List.take_of_length_le (by omega)] at hq
          unfold t_layout_9a_0
          walk_at "go"
          refine i_addS rfl rfl (by omega) ?_
          walk_at "go"
          refine i_addS rfl hi (by simp only [List.length_append, List.length_cons, List.length_nil]; omega) ?_
          walk_at "go"
          refine i_addS rfl rfl (by simp only [List.length_append, List.length_cons, List.length_nil]; omega) ?_
          simpa using hq
        · have h1' : ¬ D.length = 1 := by omega
          rw [if_neg h1'] at hq
          walk_at "go"
          unfold t_layout_10
          walk_at "go"
          obtain ⟨c, hc⟩ : ∃ c, D[0]? = some c := ⟨_, List.getElem?_eq_getElem (by omega)⟩
          refine ix_first hc hn.1 ?_
          refine i_addS rfl rfl (by have := take_len (k := 1) hn.1; omega) ?_
          walk_at "go"
          have l1 := take_len (k := 1) hn.1
          have l2 := drop_len (k := 1) hn.1
          refine i_addS (b := [46]) rfl rfl (by simp only [List.length_append, List.length_cons, List.length_nil]; omega) ?_
          walk_at "go"
          refine i_cutFrom (k := 1) rfl (by omega) ?_
          refine i_addS rfl rfl (by simp only [List.length_append, List.length_cons, List.length_nil]; omega) ?_
          walk_at "go"
          refine i_addS rfl hi (by simp only [List.length_append, List.length_cons, List.length_nil]; omega) ?_
          walk_at "go"
          refine i_addS rfl rfl (by simp only [List.length_append, List.length_cons, List.length_nil]; omega) ?_
          simpa using hq
      refine i_D (fun h1 => ?_) (fun h1 => ?_)
      · walk_at "go"
        exact tail 43 _ rfl (if_pos h1)
      · walk_at "go"
        exact tail 45 _ rfl (if_neg h1)
    have r6 : ¬ ((D.length : Int) ≤ p ∧ p ≤ 21) → ¬ (0 < p ∧ p ≤ 21) → t_layout_6 K { nx := fun _ H' => Q .non H', rt := Q } [some (.int m), some (.int e), some (.str (S sg)), some (.str (S D)), some (.int p), none, none] H := fun c1 c2 => by
      unfold t_layout_6
      walk_at "go"
      refine i_D (fun h1 => ?_) (fun h1 => ?_)
      · walk_at "go"
        refine i_D (fun h2 => ?_) (fun h2 => ?_)
        · rw [if_neg c1, if_neg c2, if_pos ⟨h1, h2⟩] at hq
          unfold t_layout_6a_0
          walk_at "go"
          refine i_addS (b := [48, 46]) rfl rfl (by simp only [List.length_cons, List.length_nil]; omega) ?_
          walk_at "go"
          refine i_mulS (c := 48) rfl (by omega) ?_
          refine i_addS rfl rfl (by simp only [List.length_append, List.length_cons, List.length_nil, List.length_replicate]; omega) ?_
          walk_at "go"
          refine i_addS rfl rfl (by simp only [List.length_append, List.length_cons, List.length_nil, List.length_replicate]; omega) ?_
          exact hq
        · walk_at "go"
          exact r7 c1 c2 fun z => h2 z.2
      · walk_at "go"
        exact r7 c1 c2 fun z => h1 z.1
    have r5 : ¬ ((D.length : Int) ≤ p ∧ p ≤ 21) → t_layout_5 K { nx := fun _ H' => Q .non H', rt := Q } [some (.int m), some (.int e), some (.str (S sg)), some (.str (S D)), some (.int p), none, none] H := fun c1 => by
      unfold t_layout_5
      walk_at "go"
      refine i_D (fun h1 => ?_) (fun h1 => ?_)
      · walk_at "go"
        refine i_D (fun h2 => ?_) (fun h2 => ?_)
        · rw [if_neg c1, if_pos ⟨h1, h2⟩] at hq
          have l1 := take_len (k := p.toNat) hn.1
          have l2 := drop_len (k := p.toNat) hn.1
          unfold t_layout_5a_0
          walk_at "go"
          refine i_cutTo (k := p.toNat) (by omega) (by omega) ?_
          refine i_addS rfl rfl (by omega) ?_
          walk_at "go"
          refine i_addS (b := [46]) rfl rfl (by simp only [List.length_append, List.length_cons, List.length_nil]; omega) ?_
          walk_at "go"
          refine i_cutFrom (k := p.toNat) (by omega) (by omega) ?_
          refine i_addS rfl rfl (by simp only [List.length_append, List.length_cons, List.length_nil]; omega) ?_
          exact hq
        · walk_at "go"
          exact r6 c1 fun z => h2 z.2
      · walk_at "go"
        exact r6 c1 fun z => h1 z.1
    unfold t_layout_4
    walk_at "go"
    refine i_lenS (by omega) ?_
    walk_at "go"
    refine i_D (fun h1 => ?_) (fun h1 => ?_)
    · walk_at "go"
      refine i_D (fun h2 => ?_) (fun h2 => ?_)
      · rw [if_pos ⟨h1, h2⟩] at hq
        unfold t_layout_4a_0
        walk_at "go"
        refine i_addS rfl rfl (by omega) ?_
        walk_at "go"
        refine i_lenS (by omega) ?_
        walk_at "go"
        refine i_mulS (c := 48) rfl (by omega) ?_
        refine i_addS rfl rfl (by simp only [List.length_append, List.length_replicate]; omega) ?_
        exact hq
      · walk_at "go"
        exact r5 fun z => h2 z.2
    · walk_at "go"
      exact r5 fun z => h1 z.1
  refine i_D (fun h1 => ?_) (fun h1 => ?_)
  · walk_at "go"
    have e1 : sgnL m = [45] := if_pos h1
    rw [e1] at rest
    exact rest
  · walk_at "go"
    have e1 : sgnL m = [] := if_neg h1
    rw [e1] at rest
    exact rest
end
section
open SX
variable {K : PySem.W.Frag}
theorem len__law_due {vs : List V} {H : Hp} {Q : VK} {E : XK} (h : sp__law_due K vs H Q E) : vs.length = 2 := by obtain ⟨_, _, rfl, _⟩ := h; rfl
theorem r__law_due {vs : List V} {H : Hp} {Q : VK} {E : XK} (h : sp__law_due K vs H Q E) : t__law_due_0 K { nx := fun _ H' => Q .non H', rt := Q } (start N__law_due vs) H := by
  obtain ⟨m, e, rfl, hm, he, hq⟩ := h
  have hn := dgL_len hm
  have hsl := sgn_len m
  unfold t__law_due_0
  walk_at "go"
  unfold layZ at hq
  refine i_D (fun h0 => ?_) (fun h0 => ?_)
  · rw [if_pos h0] at hq
    unfold t__law_due_0a_0
    walk_at "go"
    exact hq _ (.refl _)
  rw [if_neg h0] at hq
  walk_at "go"
  unfold t__law_due_1
  walk_at "go"
  intro L0 H0 n0
  walk_at "go"
  have rest : t__law_due_2 K { nx := fun _ H' => Q .non H', rt := Q } [some (.int m), some (.int e), some (.str (S (sgnL m))), none, none, none] H0 := by
    have hq0 := hq H0 (n0.keep [])
    have hq : ∀ H1, Keep [] H0 H1 → Q (.str (S (layP m ((dgL m).length + e)))) H1 := fun H1 k => hq H1 ((n0.keep []).trans k)
    unfold t__law_due_2
    walk_at "go"
    refine i_strW (by split <;> omega) (by rw [abs_if]; exact Nat.lt_trans hm big1) ?_
    have ed : dgL (if m < 0 then -m else m) = dgL m := by unfold dgL; rw [abs_if]
    rw [ed]
    walk_at "go"
    unfold t__law_due_3
    walk_at "go"
    refine i_lenS (by omega) ?_
    walk_at "go"
    generalize hp : ((dgL m).length : Int) + e = p at hq hq0
    have hp1 : (p - 1).natAbs < 10 ^ 4300 := by
      have h1 := big2
      unfold okM at he
      generalize (10 : Nat) ^ 2000 = P at *
      generalize (10 : Nat) ^ 4300 = P2 at *
      omega
    generalize hD : dgL m = D at hq hq0 hn hp
    generalize hS : sgnL m = sg at hq hq0 hsl
    unfold layP at hq hq0
    rw [hD, hS] at hq hq0
    have r4a : (21 ≤ p - 1 ∨ p - 1 < -6) → t__law_due_4a_0 K { nx := t__law_due_5 K { nx := fun _ H' => Q .non H', rt := Q }, rt := Q } [some (.int m), some (.int e), some (.str (S sg)), some (.str (S D)), some (.int (p - 1)), none] H0 := fun c => by
      have hqe : ∀ H1, Keep [] H0 H1 → Q (.str (S (expL m p))) H1 := fun H1 k => by
        have z := hq H1 k
        rw [if_neg (by omega), if_neg (by omega), if_neg (by omega)] at z
        exact z
      unfold expL at hqe
      rw [hD, hS] at hqe
      have hsign : (if p > 0 then (43 : Nat) else 45) = if p - 1 > 0 then 43 else 45 := by
        by_cases z : p > 0
        · rw [if_pos z, if_pos (by omega)]
        · rw [if_neg z, if_neg (by omega)]
      rw [hsign] at hqe
      have hpl : (dgL (p - 1)).length ≤ 4300 := dgs_len (by decide) hp1
      have l1 := take_len (k := 1) hn.1
      have l2 := drop_len (k := 1) hn.1
      have fin : ∀ tl : List Nat, (if D.length = 1 then [] else 46 :: D.drop 1) = tl → tl.length ≤ 2001 → t__law_due_4a_2 K { nx := t__law_due_5 K { nx := fun _ H' => Q .non H', rt := Q }, rt := Q } [some (.int m), some (.int e), some (.str (S sg)), some (.str (S D)), some (.int (p - 1)), some (.str (S tl))] H0 := fun tl ht hl => by
        rw [ht] at hqe
        unfold t__law_due_4a_2
        walk_at "go"
        refine i_cutTo (k := 1) rfl (by omega) ?_
        refine i_addS rfl rfl (by omega) ?_
        walk_at "go"
        refine i_addS rfl rfl (by simp only [List.length_append, List.length_cons, List.length_nil]; omega) ?_
        walk_at "go"
        refine i_addS (b := [101]) rfl rfl (by simp only [List.length_append, List.length_cons, List.length_nil]; omega) ?_
        walk_at "go"
        intro L1 H1 n1
        walk_at "go"
        have more : ∀ (s : Nat), (if p - 1 > 0 then 43 else 45) = s → rAddS (.str (S (sg ++ D.take 1 ++ tl ++ [101]))) (.str (S [s])) H1 fun w' H4 => tCB rStrW (tCons (tCB rAbs (tCons (tVar 4) tNil)) tNil) [some (.int m), some (.int e), some (.str (S sg)), some (.str (S D)), some (.int (p - 1)), some (.str (S tl))] H4 fun w2 H5 => rAddS w' w2 H5 Q := fun s hs => by
          rw [hs] at hqe
          refine i_addS rfl rfl (by simp only [List.length_append, List.length_cons, List.length_nil]; omega) ?_
          walk_at "go"
          refine i_strW (by split <;> omega) (by rw [abs_if]; exact hp1) ?_
          have ed2 : dgL (if p - 1 < 0 then -(p - 1) else p - 1) = dgL (p - 1) := by unfold dgL; rw [abs_if]
          rw [ed2]
          refine i_addS rfl rfl (by simp only [List.length_append, List.length_cons, List.length_nil]; omega) ?_
          have z := hqe H1 (n1.keep [])
          simpa using z
        by_cases z : p - 1 > 0
        · rw [decide_eq_true (show p - 1 > 0 from z)]
          refine i_ixL n1.sqL (atI_nat (j := 1) (v := .str "+") rfl) ?_
          exact more 43 (if_pos z)
        · rw [decide_eq_false (show ¬ p - 1 > 0 from z)]
          refine i_ixL n1.sqL (atI_nat (j := 0) (v := .str "-") rfl) ?_
          exact more 45 (if_neg z)
      unfold t__law_due_4a_0
      walk_at "go"
      refine i_cutFrom (k := 1) rfl (by omega) ?_
      walk_at "go"
      unfold t__law_due_4a_1
      walk_at "go"
      by_cases h1 : D.length = 1
      · have e1 : D.drop 1 = [] := List.drop_of_length_le (by omega)
        rw [e1]
        refine i_NDF rfl ?_
        walk_at "go"
        exact fin [] (if_pos h1) (by simp)
      · have hne : S (D.drop 1) ≠ ("" : Str) := fun z => by
          have z2 : D.drop 1 = [] := S_inj z
          have := congrArg List.length z2
          rw [List.length_drop] at this
          simp at this
          omega
        rw [decide_eq_false hne]
        walk_at "go"
        unfold t__law_due_4a_1a_0
        walk_at "go"
        refine i_addS (a := [46]) rfl rfl (by simp only [List.length_cons, List.length_nil]; omega) ?_
        walk_at "go"
        exact fin (46 :: D.drop 1) (if_neg h1) (by simp only [List.length_cons]; omega)
    unfold t__law_due_4
    walk_at "go"
    refine i_D (fun h1 => ?_) (fun h1 => ?_)
    · exact r4a (.inl h1)
    · walk_at "go"
      refine i_D (fun h2 => ?_) (fun h2 => ?_)
      · exact r4a (.inr h2)
      · walk_at "go"
        unfold t__law_due_5
        walk_at "go"
        refine i_D (fun h3 => ?_) (fun h3 => ?_)
        · rw [if_neg (by omega), if_neg (by omega), if_pos (by omega)] at hq0
          unfold t__law_due_5a_0
          walk_at "go"
          refine i_addS (b := [48, 46]) rfl rfl (by simp only [List.length_cons, List.length_nil]; omega) ?_
          walk_at "go"
          have ez : -1 - (p - 1) = -p := by omega
          rw [ez]
          refine i_mulS (c := 48) rfl (by omega) ?_
          refine i_addS rfl rfl (by simp only [List.length_append, List.length_cons, List.length_nil, List.length_replicate]; omega) ?_
          walk_at "go"
          refine i_addS rfl rfl (by simp only [List.length_append, List.length_cons, List.length_nil, List.length_replicate]; omega) ?_
          exact hq0
        · walk_at "go"
          unfold t__law_due_6
          walk_at "go"
          refine i_D (fun h4 => ?_) (fun h4 => ?_)
          · rw [if_pos (by omega)] at hq0
            unfold t__law_due_6a_0
            walk_at "go"
            refine i_addS rfl rfl (by omega) ?_
            walk_at "go"
            refine i_mulS (c := 48) rfl (by omega) ?_
            refine i_addS rfl rfl (by simp only [List.length_append, List.length_replicate]; omega) ?_
            have ez : p - (D.length : Int) = e := by omega
            rw [ez] at hq0
            exact hq0
          · rw [if_neg (by omega), if_pos (by omega)] at hq0
            have l1 := take_len (k := p.toNat) hn.1
            have l2 := drop_len (k := p.toNat) hn.1
            walk_at "go"
            unfold t__law_due_7
            walk_at "go"
            refine i_cutTo (k := p.toNat) (by omega) (by omega) ?_
            refine i_addS rfl rfl (by omega) ?_
            walk_at "go"
            refine i_addS (b := [46]) rfl rfl (by simp only [List.length_append, List.length_cons, List.length_nil]; omega) ?_
            walk_at "go"
            refine i_cutFrom (k := p.toNat) (by omega) (by omega) ?_
            refine i_addS rfl rfl (by simp only [List.length_append, List.length_cons, List.length_nil]; omega) ?_
            exact hq0
  by_cases h1 : m < 0
  · rw [decide_eq_true h1]
    refine i_ixL n0.sqL (atI_nat (j := 1) (v := .str "-") rfl) ?_
    walk_at "go"
    have e1 : sgnL m = [45] := if_pos h1
    rw [e1] at rest
    exact rest
  · rw [decide_eq_false h1]
    refine i_ixL n0.sqL (atI_nat (j := 0) (v := .str "") rfl) ?_
    walk_at "go"
    have e1 : sgnL m = [] := if_neg h1
    rw [e1] at rest
    exact rest
end
section
open SX PySem.NumText
variable {K : PySem.W.Frag}
theorem val_app (a b : List Nat) : digitsVal (a ++ b) = digitsVal a * 10 ^ b.length + digitsVal b := by
  have key : ∀ (b : List Nat) (x : Nat), b.foldl (fun acc c => acc * 10 + (c - 48)) x = x * 10 ^ b.length + b.foldl (fun acc c => acc * 10 + (c - 48)) 0 := by
    intro b
    induction b with
    | nil => intro x; simp
    | cons y t ih =>
      intro x
      rw [List.foldl_cons, List.foldl_cons, ih (x * 10 + (y - 48)), ih (0 * 10 + (y - 48)), List.length_cons, Nat.pow_succ]
      simp only [Nat.add_mul, Nat.mul_assoc, Nat.mul_comm (10 ^ t.length) 10]
      omega
  unfold digitsVal
  rw [List.foldl_append, key b]
theorem val_zeros (k : Nat) : digitsVal (List.replicate k 48) = 0 := by
  induction k with
  | zero => rfl
  | succ k ih =>
    rw [List.replicate_succ]
    show digitsVal ([48] ++ List.replicate k 48) = 0
    rw [val_app, ih]
    show (0 * 10 + (48 - 48)) * _ + 0 = 0
    simp
theorem zeros_ok (k : Nat) : AllDigits (List.replicate k 48) := fun c hc => by
  obtain rfl := List.eq_of_mem_replicate hc
  omega
theorem ad_app {a b : List Nat} (ha : AllDigits a) (hb : AllDigits b) : AllDigits (a ++ b) := fun c hc => by
  rcases List.mem_append.mp hc with h | h
  · exact ha c h
  · exact hb c h
theorem ad_take {a : List Nat} (ha : AllDigits a) (k : Nat) : AllDigits (a.take k) := fun c hc => ha c (List.mem_of_mem_take hc)
theorem ad_drop {a : List Nat} (ha : AllDigits a) (k : Nat) : AllDigits (a.drop k) := fun c hc => ha c (List.mem_of_mem_drop hc)
theorem ad_no {a : List Nat} {c : Nat} (ha : AllDigits a) (h : c < 48 ∨ 57 < c) : c ∉ a := fun z => by
  have := ha c z
  omega
theorem seen_all {a : List Nat} (h : ∀ c ∈ a, c = 45 ∨ c = 43 ∨ (48 ≤ c ∧ c ≤ 57)) : (numSeenOf (S a)).length = (S a).length := by
  have e0 : (S a).cps.toList = a := by simp [S]
  have e1 : numTextOf (S a) = a := by
    have z : numTextOf (S a) = (S a).cps.toList := by
      refine if_pos ?_
      rw [← Array.all_toList, List.all_eq_true, e0]
      intro c hc
      have := h c hc
      exact decide_eq_true (by omega)
    rw [z, e0]
  have e2 : numSeenOf (S a) = a := by
    show (numTextOf (S a)).takeWhile _ = _
    rw [e1]
    refine takeWhile_all fun c hc => ?_
    have := h c hc
    exact bne_iff_ne.mpr (by omega)
  rw [e2, S_len]
theorem i_intD {a : List Nat} {H : Hp} {Q : VK} (h : AllDigits a) (hne : a ≠ []) (hl : a.length ≤ 4300) (q : Q (.int (digitsVal a : Nat)) H) : rIntW [.str (S a)] H Q := by
  have e0 : (S a).cps.toList = a := by simp [S]
  refine ⟨S a, _, rfl, PySem.intText_digits (by rw [e0]; exact h) (by rw [e0]; exact hne) (by rw [S_len]; exact hl), ?_, fun _ => seen_all fun c hc => .inr (.inr (h c hc)), ?_⟩
  · rw [S_len]
    have : sizeLine = 16777216 := rfl
    omega
  · rw [e0]
    exact q
theorem i_intP {a : List Nat} {H : Hp} {Q : VK} (h : AllDigits a) (hne : a ≠ []) (hl : a.length ≤ 4299) (q : Q (.int (digitsVal a : Nat)) H) : rIntW [.str (S (43 :: a))] H Q := by
  refine ⟨S (43 :: a), _, rfl, int_plus h hne (by omega), ?_, fun _ => seen_all fun c hc => ?_, q⟩
  · rw [S_len]
    have : sizeLine = 16777216 := rfl
    simp only [List.length_cons]
    omega
  · rcases List.mem_cons.mp hc with e | hc
    · exact .inr (.inl e)
    · exact .inr (.inr (h c hc))
theorem i_intM {a : List Nat} {H : Hp} {Q : VK} (h : AllDigits a) (hne : a ≠ []) (hl : a.length ≤ 4299) (q : Q (.int (-((digitsVal a : Nat) : Int))) H) : rIntW [.str (S (45 :: a))] H Q := by
  have e0 : (S (45 :: a)).cps.toList = 45 :: a := by simp [S]
  refine ⟨S (45 :: a), _, rfl, PySem.intText_neg e0 h hne (by rw [S_len]; simp only [List.length_cons]; omega), ?_, fun _ => seen_all fun c hc => ?_, q⟩
  · rw [S_len]
    have : sizeLine = 16777216 := rfl
    simp only [List.length_cons]
    omega
  · rcases List.mem_cons.mp hc with e | hc
    · exact .inl e
    · exact .inr (.inr (h c hc))
theorem i_findM {te : TE} {ar : TA} {σ : L2.St} {H : Hp} {Q : VK} (h : te σ H fun o H1 => tyV K "str" o H1 ∧ ar σ H1 fun ys H2 => rFind o ys H2 Q) : tBM K "str" rFind te ar σ H Q := h
theorem ty_str {x : Str} {H : Hp} : tyV K "str" (.str x) H := by
  exact rfl
variable {D : Ends} {H : Hp}
/-- from the point on -/
theorem w7 {T : List Nat} {s P : Int} {k : Option V} (hs : s = 1 ∨ s = -1) (hT : AllDigits T) (hne : T ≠ []) (hl : T.length ≤ 4300) (hq : ∀ q H1, NewAt H q (.tup [.int (s * (digitsVal T : Nat)), .int P]) H1 → D.rt (.ref q) H1) :
    t__law_worth_7 K D [some (.str (S T)), some (.int s), some (.int P), k] H := by
  unfold t__law_worth_7
  walk_at "go"
  refine i_intD hT hne hl ?_
  refine i_mulL (by omega) ?_
  walk_at "go"
  exact hq
theorem w5a {T : List Nat} {s P : Int} {k : Option V} (hs : s = 1 ∨ s = -1) (hT : AllDigits T) (hne : T ≠ []) (hl : T.length ≤ 4300) (hq : ∀ q H1, NewAt H q (.tup [.int (s * (digitsVal T : Nat)), .int P]) H1 → D.rt (.ref q) H1) :
    t__law_worth_5 K D [some (.str (S T)), some (.int s), some (.int P), k] H := by
  unfold t__law_worth_5
  walk_at "go"
  refine i_findM ?_
  walk_at "go"
  refine ⟨ty_str, ?_⟩
  walk_at "go"
  refine i_find (c := 46) rfl ?_
  rw [find_no (ad_no hT (by omega))]
  walk_at "go"
  unfold t__law_worth_6
  walk_at "go"
  refine i_DF (by decide) ?_
  walk_at "go"
  exact w7 (K := K) hs hT hne hl hq
theorem w5b {p q : List Nat} {s P : Int} {k : Option V} (hs : s = 1 ∨ s = -1) (hp : AllDigits p) (hqd : AllDigits q) (hne : p ++ q ≠ []) (hl : (p ++ q).length ≤ 4200) (hq : ∀ r H1, NewAt H r (.tup [.int (s * (digitsVal (p ++ q) : Nat)), .int (P - q.length)]) H1 → D.rt (.ref r) H1) :
    t__law_worth_5 K D [some (.str (S (p ++ 46 :: q))), some (.int s), some (.int P), k] H := by
  rw [List.length_append] at hl
  have hl2 : (p ++ 46 :: q).length = p.length + q.length + 1 := by simp only [List.length_append, List.length_cons]; omega
  unfold t__law_worth_5
  walk_at "go"
  refine i_findM ?_
  walk_at "go"
  refine ⟨ty_str, ?_⟩
  walk_at "go"
  refine i_find (c := 46) rfl ?_
  rw [find_at (ad_no hp (by omega))]
  walk_at "go"
  unfold t__law_worth_6
  walk_at "go"
  refine i_DT (by omega) ?_
  unfold t__law_worth_6a_0
  walk_at "go"
  refine i_lenS (by omega) ?_
  walk_at "go"
  unfold t__law_worth_6a_1
  walk_at "go"
  refine i_cutTo (k := p.length) rfl (by omega) ?_
  walk_at "go"
  refine i_cutFrom (k := p.length + 1) (by omega) (by omega) ?_
  have e1 : (p ++ 46 :: q).take p.length = p := by simp
  have e2 : (p ++ 46 :: q).drop (p.length + 1) = q := by
    rw [← List.drop_drop]
    simp
  rw [e1, e2]
  refine i_addS rfl rfl (by omega) ?_
  walk_at "go"
  have e3 : P - ((((p ++ 46 :: q).length : Nat) : Int) - (p.length : Int) - 1) = P - q.length := by omega
  rw [e3]
  exact w7 (K := K) hs (ad_app hp hqd) hne (by rw [List.length_append]; omega) hq
end
section
open SX PySem.NumText
variable {K : PySem.W.Frag} {D : Ends} {H : Hp}
def bodyP (m p : Int) : List Nat := if ((dgL m).length : Int) ≤ p ∧ p ≤ 21 then dgL m ++ List.replicate (p - (dgL m).length).toNat 48
  else if 0 < p ∧ p ≤ 21 then (dgL m).take p.toNat ++ 46 :: (dgL m).drop p.toNat
  else if -6 < p ∧ p ≤ 0 then [48] ++ 46 :: (List.replicate (-p).toNat 48 ++ dgL m)
  else ((dgL m).take 1 ++ (if (dgL m).length = 1 then [] else 46 :: (dgL m).drop 1)) ++ 101 :: (if p > 0 then 43 else 45) :: dgL (p - 1)
theorem layP_body (m p : Int) : layP m p = sgnL m ++ bodyP m p := by
  unfold layP bodyP expL
  split
  · simp
  · split
    · simp
    · split
      · simp
      · simp
theorem w3a {T : List Nat} {s : Int} {k : Option V} (h : 101 ∉ T) (hq : ∀ at_, t__law_worth_5 K D [some (.str (S T)), some (.int s), some (.int 0), some (.int at_)] H) :
    t__law_worth_3 K D [some (.str (S T)), some (.int s), some (.int 0), k] H := by
  unfold t__law_worth_3
  walk_at "go"
  refine i_findM ?_
  walk_at "go"
  refine ⟨ty_str, ?_⟩
  walk_at "go"
  refine i_find (c := 101) rfl ?_
  rw [find_no h]
  walk_at "go"
  unfold t__law_worth_4
  walk_at "go"
  refine i_DF (by decide) ?_
  walk_at "go"
  exact hq _
theorem w3b {T X : List Nat} {c : Nat} {s P : Int} {k : Option V} (h : 101 ∉ T) (hl : T.length + X.length ≤ 9000) (hi : ∀ Q : VK, Q (.int P) H → rIntW [.str (S (c :: X))] H Q) (hq : ∀ at_, t__law_worth_5 K D [some (.str (S T)), some (.int s), some (.int P), some (.int at_)] H) :
    t__law_worth_3 K D [some (.str (S (T ++ 101 :: c :: X))), some (.int s), some (.int 0), k] H := by
  have hl2 : (T ++ 101 :: c :: X).length = T.length + X.length + 2 := by simp only [List.length_append, List.length_cons]; omega
  unfold t__law_worth_3
  walk_at "go"
  refine i_findM ?_
  walk_at "go"
  refine ⟨ty_str, ?_⟩
  walk_at "go"
  refine i_find (c := 101) rfl ?_
  rw [find_at h]
  walk_at "go"
  unfold t__law_worth_4
  walk_at "go"
  refine i_DT (by omega) ?_
  unfold t__law_worth_4a_0
  walk_at "go"
  refine i_cutFrom (k := T.length + 1) (by omega) (by omega) ?_
  have e2 : (T ++ 101 :: c :: X).drop (T.length + 1) = c :: X := by
    rw [← List.drop_drop]
    simp
  rw [e2]
  walk_at "go"
  refine hi _ ?_
  walk_at "go"
  unfold t__law_worth_4a_1
  walk_at "go"
  refine i_cutTo (k := T.length) rfl (by omega) ?_
  have e1 : (T ++ 101 :: c :: X).take T.length = T := by simp
  rw [e1]
  walk_at "go"
  exact hq _
theorem w3 {m p s : Int} {k : Option V} (hm : okM m) (hp : (p - 1).natAbs < 10 ^ 2001) (hs : s = 1 ∨ s = -1) (hsm : s * ((m.natAbs : Nat) : Int) = m)
    (hq : ∀ (z : Nat) q H1, (z = 0 ∨ (p - ((dgL m).length : Int) = z ∧ z ≤ 30)) → NewAt H q (.tup [.int (m * 10 ^ z), .int (p - ((dgL m).length : Int) - z)]) H1 → D.rt (.ref q) H1) :
    t__law_worth_3 K D [some (.str (S (bodyP m p))), some (.int s), some (.int 0), k] H := by
  have hn := dgL_len hm
  have hv : digitsVal (dgL m) = m.natAbs := dgs_val _
  have had : AllDigits (dgL m) := dgs_ok _
  have hne : dgL m ≠ [] := dgs_ne _
  have hXl : (dgL (p - 1)).length ≤ 2001 := dgs_len (by decide) hp
  have hXv : digitsVal (dgL (p - 1)) = (p - 1).natAbs := dgs_val _
  have hXa : AllDigits (dgL (p - 1)) := dgs_ok _
  have hXn : dgL (p - 1) ≠ [] := dgs_ne _
  have fin0 : ∀ P : Int, P = p - ((dgL m).length : Int) → ∀ q H1, NewAt H q (.tup [.int (s * (m.natAbs : Nat)), .int P]) H1 → D.rt (.ref q) H1 := fun P hP q H1 n => by
    refine hq 0 q H1 (.inl rfl) ?_
    rw [hsm, hP] at n
    simpa using n
  unfold bodyP
  generalize hD : dgL m = A at *
  by_cases c1 : (A.length : Int) ≤ p ∧ p ≤ 21
  · rw [if_pos c1]
    have hall : AllDigits (A ++ List.replicate (p - A.length).toNat 48) := ad_app had (zeros_ok _)
    refine w3a (ad_no hall (by omega)) fun at_ => w5a (K := K) hs hall (by simp [hne]) (by rw [List.length_append, List.length_replicate]; omega) fun q H1 n => ?_
    refine hq (p - A.length).toNat q H1 (.inr ⟨by omega, by omega⟩) ?_
    have e1 : s * ((digitsVal (A ++ List.replicate (p - A.length).toNat 48) : Nat) : Int) = m * 10 ^ (p - (A.length : Int)).toNat := by
      rw [val_app, val_zeros, hv, List.length_replicate, Nat.add_zero, Int.natCast_mul, ← Int.mul_assoc, hsm]
      simp
    have e2 : p - (A.length : Int) - ((p - (A.length : Int)).toNat : Int) = 0 := by omega
    rw [e2, ← e1]
    exact n
  · rw [if_neg c1]
    by_cases c2 : 0 < p ∧ p ≤ 21
    · rw [if_pos c2]
      have h46 : 101 ∉ A.take p.toNat ++ 46 :: A.drop p.toNat := fun z => by
        rcases List.mem_append.mp z with z | z
        · exact ad_no (ad_take had _) (by omega) z
        · rcases List.mem_cons.mp z with z | z
          · cases z
          · exact ad_no (ad_drop had _) (by omega) z
      refine w3a h46 fun at_ => w5b (K := K) hs (ad_take had _) (ad_drop had _) (by rw [List.take_append_drop]; exact hne) (by rw [List.take_append_drop]; omega) fun q H1 n => ?_
      rw [List.take_append_drop, hv] at n
      refine fin0 _ ?_ q H1 n
      rw [List.length_drop]
      omega
    · rw [if_neg c2]
      by_cases c3 : -6 < p ∧ p ≤ 0
      · rw [if_pos c3]
        have h1 : AllDigits [48] := fun c hc => by
          obtain rfl : c = 48 := by simpa using hc
          omega
        have h2 : AllDigits (List.replicate (-p).toNat 48 ++ A) := ad_app (zeros_ok _) had
        have h46 : 101 ∉ [48] ++ 46 :: (List.replicate (-p).toNat 48 ++ A) := fun z => by
          rcases List.mem_append.mp z with z | z
          · exact ad_no h1 (by omega) z
          · rcases List.mem_cons.mp z with z | z
            · cases z
            · exact ad_no h2 (by omega) z
        refine w3a h46 fun at_ => w5b (K := K) hs h1 h2 (by simp) (by simp only [List.length_append, List.length_cons, List.length_nil, List.length_replicate]; omega) fun q H1 n => ?_
        have e1 : digitsVal ([48] ++ (List.replicate (-p).toNat 48 ++ A)) = m.natAbs := by
          rw [val_app, val_app, val_zeros, hv]
          show (0 * 10 + (48 - 48)) * _ + (0 * _ + _) = _
          simp
        rw [e1] at n
        refine fin0 _ ?_ q H1 n
        rw [List.length_append, List.length_replicate]
        omega
      · rw [if_neg c3]
        have hi : ∀ Q : VK, Q (.int (p - 1)) H → rIntW [.str (S ((if p > 0 then 43 else 45) :: dgL (p - 1)))] H Q := fun Q q => by
          by_cases z : p > 0
          · rw [if_pos z]
            refine i_intP hXa hXn (by omega) ?_
            rw [hXv]
            have e : ((p - 1).natAbs : Int) = p - 1 := by omega
            rw [e]
            exact q
          · rw [if_neg z]
            refine i_intM hXa hXn (by omega) ?_
            rw [hXv]
            have e : -((p - 1).natAbs : Int) = p - 1 := by omega
            rw [e]
            exact q
        by_cases z : A.length = 1
        · rw [if_pos z, List.append_nil, List.take_of_length_le (by omega)]
          refine w3b (ad_no had (by omega)) (by omega) hi fun at_ => w5a (K := K) hs had hne (by omega) fun q H1 n => ?_
          rw [hv] at n
          exact fin0 _ (by omega) q H1 n
        · rw [if_neg z]
          have h46 : 101 ∉ A.take 1 ++ 46 :: A.drop 1 := fun z => by
            rcases List.mem_append.mp z with z | z
            · exact ad_no (ad_take had _) (by omega) z
            · rcases List.mem_cons.mp z with z | z
              · cases z
              · exact ad_no (ad_drop had _) (by omega) z
          refine w3b h46 (by simp only [List.length_append, List.length_cons, List.length_take, List.length_drop]; omega) hi fun at_ => w5b (K := K) hs (ad_take had _) (ad_drop had _) (by rw [List.take_append_drop]; exact hne) (by rw [List.take_append_drop]; omega) fun q H1 n => ?_
          rw [List.take_append_drop, hv] at n
          refine fin0 _ ?_ q H1 n
          rw [List.length_drop]
          omega
end
/-! ### numbers: the mathematics -/
def nz (m e : Int) : Int × Int := if h0 : m = 0 then (0, 0) else if h : m % 10 = 0 then nz (m / 10) (e + 1) else (m, e)
termination_by m.natAbs
decreasing_by omega
theorem nz_zero (e : Int) : nz 0 e = (0, 0) := by unfold nz; simp
theorem nz_step {m e : Int} (h0 : m ≠ 0) (h : m % 10 = 0) : nz m e = nz (m / 10) (e + 1) := by rw [nz]; simp [h0, h]
theorem nz_stop {m e : Int} (h0 : m ≠ 0) (h : m % 10 ≠ 0) : nz m e = (m, e) := by rw [nz]; simp [h0, h]
theorem nz_spec : ∀ (n : Nat) (m e : Int), m.natAbs = n → m ≠ 0 → ∃ k : Nat, m = (nz m e).1 * 10 ^ k ∧ (nz m e).2 = e + k ∧ (nz m e).1 % 10 ≠ 0 := by
  intro n
  induction n using Nat.strongRecOn with
  | ind n ih =>
    intro m e hn h0
    by_cases h : m % 10 = 0
    · obtain ⟨k, h1, h2, h3⟩ := ih (m / 10).natAbs (by omega) (m / 10) (e + 1) rfl (by omega)
      rw [nz_step h0 h]
      refine ⟨k + 1, ?_, by rw [h2]; omega, h3⟩
      rw [Int.pow_succ, ← Int.mul_assoc, ← h1]
      omega
    · rw [nz_stop h0 h]
      exact ⟨0, by simp, by simp, h⟩
theorem ten_le {k n : Nat} (h : (10 : Nat) ^ k < 10 ^ n) : k < n := by
  by_cases c : k < n
  · exact c
  · exact absurd h (Nat.not_lt.mpr (Nat.pow_le_pow_right (by decide) (Nat.not_lt.mp c)))
theorem ten_two (n : Nat) : (10 : Nat) ^ n ≤ 2 ^ (4 * n) := by
  rw [Nat.pow_mul]
  exact Nat.pow_le_pow_left (by decide) n
theorem cmulw {i j : Int} {a b : Nat} (ha : i.natAbs < 10 ^ a) (hb : j.natAbs < 10 ^ b) (h : a + b ≤ 200000) : CMulW i j :=
  wide_mul (a := 4 * a + 1) (b := 4 * b + 1) (Nat.lt_of_lt_of_le (Nat.lt_of_lt_of_le ha (ten_two a)) (Nat.pow_le_pow_right (by decide) (by omega))) (Nat.lt_of_lt_of_le (Nat.lt_of_lt_of_le hb (ten_two b)) (Nat.pow_le_pow_right (by decide) (by omega))) (by omega) (by omega) (by omega)
theorem lt_mul {i j : Int} {a b : Nat} (ha : i.natAbs < 10 ^ a) (hb : j.natAbs < 10 ^ b) : (i * j).natAbs < 10 ^ (a + b) := by
  rw [Int.natAbs_mul, Nat.pow_add]
  exact Nat.mul_lt_mul'' ha hb
theorem lt_pow {a b : Nat} (h : a < b) : ((10 : Int) ^ a).natAbs < 10 ^ b := by
  rw [Int.natAbs_pow]
  exact Nat.pow_lt_pow_right (by decide) h
theorem lt_mono {i : Int} {a b : Nat} (ha : i.natAbs < 10 ^ a) (h : a ≤ b) : i.natAbs < 10 ^ b := Nat.lt_of_lt_of_le ha (Nat.pow_le_pow_right (by decide) h)
section
open SX PySem.NumText
variable {K : PySem.W.Frag}
theorem body_head {m p : Int} (hm : okM m) : ∃ c t, bodyP m p = c :: t ∧ 48 ≤ c ∧ c ≤ 57 := by
  have hn := dgL_len hm
  have had : AllDigits (dgL m) := dgs_ok _
  unfold bodyP
  generalize dgL m = A at *
  cases A with
  | nil => simp at hn
  | cons c t =>
    have hc := had c (by simp)
    by_cases c1 : (((c :: t).length : Nat) : Int) ≤ p ∧ p ≤ 21
    · rw [if_pos c1]
      exact ⟨c, _, rfl, hc⟩
    · rw [if_neg c1]
      by_cases c2 : 0 < p ∧ p ≤ 21
      · rw [if_pos c2]
        obtain ⟨j, hj⟩ : ∃ j, p.toNat = j + 1 := ⟨p.toNat - 1, by omega⟩
        rw [hj]
        exact ⟨c, _, rfl, hc⟩
      · rw [if_neg c2]
        by_cases c3 : -6 < p ∧ p ≤ 0
        · rw [if_pos c3]
          exact ⟨48, _, rfl, by omega, by omega⟩
        · rw [if_neg c3]
          exact ⟨c, _, rfl, hc⟩
theorem big3 : (10 : Nat) ^ 2000 + 5000 < 10 ^ 2001 := by decide +kernel
theorem len__law_worth {vs : List V} {H : Hp} {Q : VK} {E : XK} (h : sp__law_worth K vs H Q E) : vs.length = 1 := by obtain ⟨_, _, rfl, _⟩ := h; rfl
theorem r__law_worth {vs : List V} {H : Hp} {Q : VK} {E : XK} (h : sp__law_worth K vs H Q E) : t__law_worth_0 K { nx := fun _ H' => Q .non H', rt := Q } (start N__law_worth vs) H := by
  obtain ⟨m, e, rfl, hm, he, h0e, hq⟩ := h
  have hn := dgL_len hm
  unfold t__law_worth_0
  walk_at "go"
  unfold t__law_worth_1
  walk_at "go"
  by_cases h0 : m = 0
  · have hz : layZ m e = [48] := if_pos h0
    rw [hz]
    refine i_cutTo (k := 1) rfl (by decide) ?_
    walk_at "go"
    refine i_DF (fun z => by have z := S_inj (a := [48]) (b := [45]) z; cases z) ?_
    walk_at "go"
    unfold t__law_worth_2
    walk_at "go"
    have h1 : AllDigits [48] := fun c hc => by
      obtain rfl : c = 48 := by simpa using hc
      omega
    refine w3a (ad_no h1 (by omega)) fun at_ => w5a (K := K) (.inl rfl) h1 (by simp) (by decide) fun q H1 n => ?_
    refine hq 0 q H1 (fun z => absurd h0 z) ?_
    rw [h0, h0e h0]
    exact n
  · have hz : layZ m e = sgnL m ++ bodyP m ((dgL m).length + e) := by
      unfold layZ
      rw [if_neg h0, layP_body]
    rw [hz]
    have hp1 : (((dgL m).length : Int) + e - 1).natAbs < 10 ^ 2001 := by
      have h1 := big3
      unfold okM at he
      generalize (10 : Nat) ^ 2000 = P at *
      generalize (10 : Nat) ^ 2001 = P2 at *
      omega
    obtain ⟨c, t, hb, hc⟩ := body_head (p := (dgL m).length + e) hm
    have hbl : (bodyP m ((dgL m).length + e)).length ≤ 10000 := by
      have hXl : (dgL (((dgL m).length : Int) + e - 1)).length ≤ 2001 := dgs_len (by decide) hp1
      unfold bodyP
      generalize dgL (((dgL m).length : Int) + e - 1) = X at *
      generalize dgL m = A at *
      split
      · simp only [List.length_append, List.length_replicate]; omega
      · split
        · simp only [List.length_append, List.length_cons, List.length_take, List.length_drop]; omega
        · split
          · simp only [List.length_append, List.length_cons, List.length_nil, List.length_replicate]; omega
          · split
            · simp only [List.length_append, List.length_cons, List.length_nil, List.length_take]; omega
            · simp only [List.length_append, List.length_cons, List.length_take, List.length_drop]; omega
    have hfin : ∀ (z : Nat) (q : Addr) (H1 : Hp), (z = 0 ∨ ((dgL m).length + e - ((dgL m).length : Int) = z ∧ z ≤ 30)) → NewAt H q (.tup [.int (m * 10 ^ z), .int ((dgL m).length + e - ((dgL m).length : Int) - z)]) H1 → Q (.ref q) H1 := fun z q H1 hz n => by
      have ez : ((dgL m).length : Int) + e - ((dgL m).length : Int) = e := by omega
      rw [ez] at hz n
      exact hq z q H1 (fun _ => hz) n
    by_cases h1 : m < 0
    · have e1 : sgnL m = [45] := if_pos h1
      rw [e1]
      refine i_cutTo (k := 1) rfl (by simp only [List.length_append, List.length_cons, List.length_nil]; omega) ?_
      walk_at "go"
      refine i_DT rfl ?_
      unfold t__law_worth_1a_0
      walk_at "go"
      unfold t__law_worth_1a_1
      walk_at "go"
      refine i_cutFrom (k := 1) rfl (by simp only [List.length_append, List.length_cons, List.length_nil]; omega) ?_
      have e2 : ([45] ++ bodyP m ((dgL m).length + e)).drop 1 = bodyP m ((dgL m).length + e) := rfl
      rw [e2]
      walk_at "go"
      unfold t__law_worth_2
      walk_at "go"
      exact w3 hm hp1 (.inr rfl) (by omega) hfin
    · have e1 : sgnL m = [] := if_neg h1
      rw [e1, List.nil_append]
      refine i_cutTo (k := 1) rfl (by omega) ?_
      walk_at "go"
      refine i_DF (fun z => ?_) ?_
      · have z := S_inj (a := (bodyP m ((dgL m).length + e)).take 1) (b := [45]) z
        rw [hb] at z
        have z2 : c = 45 := (List.cons.inj z).1
        omega
      · walk_at "go"
        unfold t__law_worth_2
        walk_at "go"
        exact w3 hm hp1 (.inl rfl) (by omega) hfin
end
/-! ### == of rows of ints and of pairs -/
section
variable {K : PySem.W.Frag} {H : Hp} {Q : VK} {a b : Addr}
theorem dpInts : ∀ ns : List Int, DpAll K H (ns.map V.int) (ns.map PyData.int)
  | [] => .nil
  | n :: ns => .cons (.int n) (dpInts ns)
theorem layInts : ∀ ns : List Int, PyData.canLayAll0 (ns.map PyData.int) = true
  | [] => by simp [PyData.canLayAll0]
  | n :: ns => by simp [PyData.canLayAll0, PyData.canLay0, layInts ns]
theorem depInts : ∀ ns : List Int, PyData.depthAll (ns.map PyData.int) = 0
  | [] => by simp [PyData.depthAll]
  | n :: ns => by simp [PyData.depthAll, PyData.depth, depInts ns]
theorem eqvInts : ∀ ns ms : List Int, PyData.eqvAll (ns.map PyData.int) (ms.map PyData.int) = decide (ns = ms)
  | [], [] => by simp [PyData.eqvAll]
  | [], m :: ms => by simp [PyData.eqvAll]
  | n :: ns, [] => by simp [PyData.eqvAll]
  | n :: ns, m :: ms => by simp [PyData.eqvAll, PyData.eqv, eqvInts ns ms, Bool.beq_eq_decide_eq]
theorem shL (ns : List Int) : SeqAt.shaped (.list (ns.map PyData.int)) = true := by simp [SeqAt.shaped, PyData.canLay0, PyData.depth, layInts, depInts]
theorem shT (ns : List Int) : SeqAt.shaped (.tuple (ns.map PyData.int)) = true := by simp [SeqAt.shaped, PyData.canLay0, PyData.depth, layInts, depInts]
theorem i_neL {ns ms : List Int} (h : SqL K H a (ns.map V.int)) (h2 : SqL K H b (ms.map V.int)) (hq : Q (.bl (!decide (ns = ms))) H) : rNeD K (.ref a) (.ref b) H Q :=
  ⟨_, _, .lst h (dpInts ns), .lst h2 (dpInts ms), shL _, shL _, by simpa [PyData.eqv, eqvInts] using hq⟩
theorem i_eqL {ns ms : List Int} (h : SqL K H a (ns.map V.int)) (h2 : SqL K H b (ms.map V.int)) (hq : Q (.bl (decide (ns = ms))) H) : rEqD K (.ref a) (.ref b) H Q :=
  ⟨_, _, .lst h (dpInts ns), .lst h2 (dpInts ms), shL _, shL _, by simpa [PyData.eqv, eqvInts] using hq⟩
/-- a pair: a tuple of ints or None; an int or None -/
def prD : Option (List Int) → Option Int → PyData
  | some ps, some i => .tuple [.tuple (ps.map PyData.int), .int i]
  | some ps, none => .tuple [.tuple (ps.map PyData.int), .none]
  | none, some i => .tuple [.none, .int i]
  | none, none => .tuple [.none, .none]
theorem shP (x : Option (List Int)) (y : Option Int) : SeqAt.shaped (prD x y) = true := by
  cases x <;> cases y <;> simp [prD, SeqAt.shaped, PyData.canLay0, PyData.canLayAll0, PyData.depth, PyData.depthAll, layInts, depInts]
theorem eqvP (x x' : Option (List Int)) (y y' : Option Int) : PyData.eqv (prD x y) (prD x' y') = decide (x = x' ∧ y = y') := by
  cases x <;> cases y <;> cases x' <;> cases y' <;> simp [prD, PyData.eqv, PyData.eqvAll, eqvInts, Bool.beq_eq_decide_eq]
/-- such a pair stands at a -/
def PrAt (K : PySem.W.Frag) (H : Hp) (q : Addr) (x : Option (List Int)) (y : Option Int) : Prop := Dp K H (.ref q) (prD x y)
theorem prT {t : Addr} {ps : List Int} (h : SqT K H a [.ref t, .non]) (h2 : SqT K H t (ps.map V.int)) : PrAt K H a (some ps) none := Dp.tup h (.cons (.tup h2 (dpInts ps)) (.cons .non .nil))
theorem prI {i : Int} (h : SqT K H a [.non, .int i]) : PrAt K H a none (some i) := Dp.tup h (.cons .non (.cons (.int i) .nil))
theorem i_neR {x x' : Option (List Int)} {y y' : Option Int} (h : PrAt K H a x y) (h2 : PrAt K H b x' y') (hq : Q (.bl (!decide (x = x' ∧ y = y'))) H) : rNeD K (.ref a) (.ref b) H Q :=
  ⟨_, _, h, h2, shP _ _, shP _ _, by rw [eqvP]; exact hq⟩
theorem i_eqR {x x' : Option (List Int)} {y y' : Option Int} (h : PrAt K H a x y) (h2 : PrAt K H b x' y') (hq : Q (.bl (decide (x = x' ∧ y = y'))) H) : rEqD K (.ref a) (.ref b) H Q :=
  ⟨_, _, h, h2, shP _ _, shP _ _, by rw [eqvP]; exact hq⟩
end
/-! ### pairs of ints, picks out of a list -/
section
variable {K : PySem.W.Frag} {H : Hp} {q : Addr}
theorem atI_pick {xs : List Int} {r : Int} (h0 : 0 ≤ r) (h1 : r < xs.length) : ∃ v ∈ xs, atI (xs.map V.int) r = some (.int v) := by
  obtain ⟨j, rfl⟩ : ∃ j : Nat, r = j := ⟨r.toNat, by omega⟩
  have h : j < xs.length := by omega
  exact ⟨xs[j], List.getElem_mem h, atI_map h⟩
theorem dp2 {u v : Int} (h : SqT K H q [.int u, .int v]) : Dp K H (.ref q) (.tuple [.int u, .int v]) := .tup h (.cons (.int u) (.cons (.int v) .nil))
theorem sh2 (u v : Int) : SeqAt.shaped (.tuple [.int u, .int v]) = true := by
  simp [SeqAt.shaped, PyData.canLay0, PyData.canLayAll0, PyData.depth, PyData.depthAll]
theorem eqv2 (u v u' v' : Int) : PyData.eqv (.tuple [.int u, .int v]) (.tuple [.int u', .int v']) = decide (u = u' ∧ v = v') := by
  simp [PyData.eqv, PyData.eqvAll, Bool.beq_eq_decide_eq]
theorem i_neP {q q2 : Addr} {u v u' v' : Int} {Q : VK} (h : SqT K H q [.int u, .int v]) (h2 : SqT K H q2 [.int u', .int v']) (hq : Q (.bl (!decide (u = u' ∧ v = v'))) H) : rNeD K (.ref q) (.ref q2) H Q :=
  ⟨_, _, dp2 h, dp2 h2, sh2 _ _, sh2 _ _, by rw [eqv2]; exact hq⟩
theorem i_eqP {q q2 : Addr} {u v u' v' : Int} {Q : VK} (h : SqT K H q [.int u, .int v]) (h2 : SqT K H q2 [.int u', .int v']) (hq : Q (.bl (decide (u = u' ∧ v = v'))) H) : rEqD K (.ref q) (.ref q2) H Q :=
  ⟨_, _, dp2 h, dp2 h2, sh2 _ _, sh2 _ _, by rw [eqv2]; exact hq⟩
theorem kitI : kitB "int" "int" = some true := by decide +kernel
theorem kitIB : kitB "int" "bool" = some false := by decide +kernel
theorem kitT : kitB "tuple" "tuple" = some true := by decide +kernel
theorem i_isi {x : V} {t c : String} {b : Bool} {Q : VK} (ty : TyX K H x (.type t)) (k : kitB t c = some b) (h : Q (.bl b) H) : rIsi K [x, .ty c] H Q := ⟨x, .ty c, .type t, .type c, b, rfl, .ty c, ty, kit_ty k, h⟩
theorem i_isiIB {i : Int} {Q : VK} (h : Q (.bl false) H) : rIsi K [.int i, .ty "bool"] H Q := i_isi (.base (.int i)) kitIB h
theorem i_isiT {xs : List V} {Q : VK} (e : H q = some (.tup xs)) (h : Q (.bl true) H) : rIsi K [.ref q, .ty "tuple"] H Q := i_isi (.base (.tup e)) kitT h
theorem natAbs_lt {x : Int} {n : Nat} (h0 : 0 ≤ x) (h : x < (n : Int)) : x.natAbs < n := by omega
/-- a pick out of a list of ints that was just made -/
theorem i_pick {p : Pst} {l : Addr} {xs : List Int} {r : Int} {H0 H1 H2 : Hp} {Q : VK} {left last : Int} (d : Dr K p left last H0) (n : NewAt H0 l (.lst (xs.map V.int)) H1) (k : Keep [p] H1 H2) (r0 : 0 ≤ r) (r1 : r < xs.length) (h : ∀ v ∈ xs, Q (.int v) H2) : rIxL K (.ref l) (.int r) H2 Q := by
  obtain ⟨v, hv, ha⟩ := atI_pick r0 r1
  exact i_ixL (k.sqL (by simpa using (d.ne n).symm) n.sqL) ha (h v hv)
end
section
open SX
variable {K : PySem.W.Frag} {D : Ends} {H : Hp} {a b c d f : Option V}
theorem kitSS : kitB "str" "str" = some true := by decide +kernel
theorem down {m : Int} {j : Nat} : (m * 10 ^ (j + 1)) % 10 = 0 ∧ (m * 10 ^ (j + 1)) / 10 = m * 10 ^ j := by
  rw [Int.pow_succ, ← Int.mul_assoc]
  generalize m * 10 ^ j = x
  omega
theorem e12 (hD : ∀ H', D.rt (.bl true) H') {m e : Int} (hm : okM m) (he : okM e) (h0 : m = 0 → e = 0) (h1 : m ≠ 0 → m % 10 ≠ 0) :
    t_law_12 K D [a, b, c, d, some (.int m), some (.int e), f, none, none, none] H := by
  unfold t_law_12
  walk_at "go"
  refine ⟨m, e, rfl, hm, he, fun H1 k1 => ?_⟩
  walk_at "go"
  unfold t_law_13
  walk_at "go"
  refine i_isi (.base (.str _)) kitSS ?_
  walk_at "go"
  refine ⟨m, e, rfl, hm, he, fun H2 k2 => ?_⟩
  walk_at "go"
  refine i_NDF rfl ?_
  walk_at "go"
  unfold t_law_14
  walk_at "go"
  refine ⟨m, e, rfl, hm, he, h0, fun z q H3 hz n3 => ?_⟩
  refine i_gTup n3.sqT rfl ?_
  walk_at "go"
  unfold t_law_15
  walk_at "go"
  by_cases hz0 : m = 0
  · refine i_DT hz0 ?_
    unfold t_law_15a_0
    walk_at "go"
    rw [decide_eq_true (by rw [hz0, Int.zero_mul])]
    exact hD _
  · refine i_DF hz0 ?_
    walk_at "go"
    unfold t_law_16
    walk_at "go"
    have hz := hz hz0
    have hm10 := h1 hz0
    refine f_rng (n := 30) (fun i σ H4 => ∃ (j : Nat) (x3 : Option V), σ = [a, b, c, x3, some (.int m), some (.int e), f, some (.str (S (layZ m e))), some (.int (m * 10 ^ j)), some (.int (e - j))] ∧ j + i ≥ z ∧ j ≤ z ∧ (j = z - i ∨ j = 0)) ⟨z, _, rfl, Nat.le_refl _, Nat.le_refl _, .inl rfl⟩ ?_ ?_
    · rintro i σ H4 hi ⟨j, x3, rfl, j1, j2, j3⟩
      walk_at "go"
      unfold t_law_16a_0
      walk_at "go"
      cases j with
      | zero =>
        have e1 : m * 10 ^ 0 = m := by simp
        rw [e1]
        refine i_DF hm10 ?_
        walk_at "go"
        exact ⟨0, some (.int i), by rw [e1]; rfl, by omega, by omega, .inr rfl⟩
      | succ j =>
        obtain ⟨q1, q2⟩ := down (m := m) (j := j)
        refine i_DT q1 ?_
        walk_at "go"
        refine i_DT (by omega) ?_
        unfold t_law_16a_0a_0
        walk_at "go"
        unfold t_law_16a_0a_1
        walk_at "go"
        rw [q2]
        refine ⟨j, some (.int i), ?_, by omega, by omega, by omega⟩
        have e2 : e - ((j + 1 : Nat) : Int) + 1 = e - (j : Int) := by omega
        rw [e2]
        rfl
    · rintro σ H4 ⟨j, x3, rfl, j1, j2, j3⟩
      have ej : j = 0 := by omega
      subst ej
      unfold t_law_17
      walk_at "go"
      refine i_DT (by simp) ?_
      walk_at "go"
      rw [decide_eq_true (by simp)]
      exact hD _
theorem stepA {x A r P T : Nat} (h : x + 1 ≤ P) (hA : A + 1000 ≤ T) (hr : r ≤ 999) : x * A + r < P * T := by
  have h1 : (x + 1) * (A + 1000) ≤ P * T := Nat.mul_le_mul h hA
  have h2 : (x + 1) * (A + 1000) = x * A + x * 1000 + (A + 1000) := by rw [Nat.add_mul, Nat.one_mul, Nat.mul_add]
  omega
theorem absA (x : Int) (y : Nat) (h : 0 ≤ y) : (x * (y : Int)).natAbs = x.natAbs * y := by rw [Int.natAbs_mul]; rfl
theorem k40 : ((10 : Int) ^ 40 + 7) = ((10 ^ 40 + 7 : Nat) : Int) := by decide +kernel
theorem k41 : (10 : Nat) ^ 40 + 7 + 1000 ≤ 10 ^ 41 := by decide +kernel
theorem step41 {m r : Int} {k : Nat} (h : m.natAbs < 10 ^ k) (r0 : 0 ≤ r) (r1 : r < 1000) : (m * (10 ^ 40 + 7) + r).natAbs < 10 ^ (k + 41) := by
  rw [k40, Nat.pow_add]
  have k41 := k41
  generalize (10 : Nat) ^ 40 + 7 = A at *
  generalize (10 : Nat) ^ 41 = T at *
  generalize (10 : Nat) ^ k = P at *
  have h1 := absA m A (Nat.zero_le _)
  have h2 := stepA (x := m.natAbs) (A := A) (r := r.natAbs) h k41 (by omega)
  omega
theorem step51 {m : Int} {k : Nat} (h : m.natAbs < 10 ^ k) : (m * (10 ^ 50 + 3)).natAbs < 10 ^ (k + 51) := by
  rw [Int.natAbs_mul, Nat.pow_add]
  exact Nat.mul_lt_mul'' h (by decide)
end
section
open SX
variable {K : PySem.W.Frag}
theorem mono {x : Int} {a b : Nat} (h : x.natAbs < 10 ^ a) (hb : a ≤ b) : x.natAbs < 10 ^ b := lt_mono h hb
theorem sm {x : Int} (h : x.natAbs < 10000) {b : Nat} (hb : 4 ≤ b) : x.natAbs < 10 ^ b := mono (a := 4) h hb
theorem pm {x s : Int} {k : Nat} (h : x.natAbs < 10 ^ k) (hs : s = 1 ∨ s = -1) : (x * s).natAbs < 10 ^ k := by
  rcases hs with rfl | rfl
  · rw [Int.mul_one]; exact h
  · have e : (x * -1).natAbs = x.natAbs := by omega
    rw [e]; exact h
theorem big4 : (10 : Nat) ^ 1990 + 10 < 10 ^ 2000 := by decide +kernel
variable {D : Ends} {H : Hp} {a b c d f : Option V} {p : Pst}
/-- from the power on -/
theorem e10 (hD : ∀ H', D.rt (.bl true) H') {m e pk : Int} (hd : Dr K p 0 3 H) (hm : okM m) (h1 : m ≠ 0 → m % 10 ≠ 0) (he : okM e) :
    t_law_10 K D [a, some (.ref p), c, d, some (.int m), some (.int e), some (.int pk), none, none, none] H := by
  have e11 : ∀ {e : Int} {H1 : Hp} {d : Option V}, okM e → Dr K p 0 3 H1 → t_law_11 K D [a, some (.ref p), c, d, some (.int m), some (.int e), some (.int pk), none, none, none] H1 := fun {e H1 d} he hd1 => by
    have ok0 : okM 0 := sm (by decide) (by decide)
    have go : ∀ H2, t_law_11a_0 K { D with nx := t_law_12 K D } [a, some (.ref p), c, d, some (.int m), some (.int e), some (.int pk), none, none, none] H2 := fun H2 => by
      unfold t_law_11a_0
      walk_at "go"
      unfold t_law_11a_1
      walk_at "go"
      exact e12 hD ok0 ok0 (fun _ => rfl) (fun z => absurd rfl z)
    unfold t_law_11
    walk_at "go"
    refine ⟨p, 0, 3, 30, rfl, by decide, hd1, fun r H2 r0 r1 hd2 k2 => ?_⟩
    walk_at "go"
    refine i_D (fun z => ?_) (fun z => ?_)
    · exact go H2
    · walk_at "go"
      refine i_D (fun z2 => ?_) (fun z2 => ?_)
      · exact go H2
      · walk_at "go"
        exact e12 hD hm he (fun z => absurd z z2) h1
  unfold t_law_10
  walk_at "go"
  refine i_D (fun z => ?_) (fun z => ?_)
  · unfold t_law_10a_0
    walk_at "go"
    refine ⟨p, 0, 3, _, rfl, by decide, hd, fun r H2 r0 r1 hd2 k2 => ?_⟩
    walk_at "go"
    intro L3 H3 n3
    walk_at "go"
    refine ⟨p, 0, 3, 2, rfl, by decide, hd2.new n3, fun s H4 s0 s1 hd4 k4 => ?_⟩
    refine i_pick (xs := [1, -1]) hd2 n3 k4 s0 s1 fun v hv => ?_
    have hv' : v = 1 ∨ v = -1 := by simpa using hv
    refine i_mulR (by omega) ?_
    walk_at "go"
    have hr : r.natAbs < 10 ^ 40 := by
      have e0 : (10 : Int) ^ (40 : Int).toNat = ((10 ^ 40 : Nat) : Int) := by decide +kernel
      rw [e0] at r1
      generalize (10 : Nat) ^ 40 = P at *
      omega
    have hrv := pm hr hv'
    generalize r * v = x at hrv
    unfold t_law_10a_1
    walk_at "go"
    refine ⟨p, 0, 3, 3, rfl, by decide, hd4, fun t H5 t0 t1 hd5 k5 => ?_⟩
    walk_at "go"
    refine i_D (fun z => ?_) (fun z => ?_)
    · unfold t_law_10a_1a_0
      walk_at "go"
      refine ⟨p, 0, 3, 19, rfl, by decide, hd5, fun n H6 n0 n1 hd6 k6 => ?_⟩
      walk_at "go"
      refine f_rng (fun i σ H7 => H7 = H6 ∧ ∃ (x3 : Option V) (x : Int), σ = [a, some (.ref p), c, x3, some (.int m), some (.int x), some (.int pk), none, none, none] ∧ x.natAbs < 10 ^ (40 + 51 * i)) ⟨rfl, _, x, rfl, hrv⟩ ?_ ?_
      · rintro i σ H7 hi ⟨rfl, x3, x, rfl, hx⟩
        walk_at "go"
        unfold t_law_10a_1a_0a_0
        walk_at "go"
        refine i_mulW (cmulw hx (b := 51) (by decide +kernel) (by omega)) ?_
        walk_at "go"
        exact ⟨rfl, _, _, rfl, step51 hx⟩
      · rintro σ H7 ⟨rfl, x3, x, rfl, hx⟩
        exact e11 (mono hx (by omega)) hd6
    · walk_at "go"
      exact e11 (mono hrv (by decide)) hd5
  · walk_at "go"
    exact e11 he hd
end
def digB : Fx := fun K => match PySem.W.nsIn K cStatics "sys.int_max_str_digits" with
  | some none => true
  | _ => false
theorem digB_ok {K : PySem.W.Frag} (h : digB K = true) : PySem.W.nsIn K cStatics "sys.int_max_str_digits" = some none := by
  unfold digB at h
  split at h
  · assumption
  · cases h
section
open SX
variable {K : PySem.W.Frag} {D : Ends} {H : Hp} {a b c d f : Option V} {p : Pst}
theorem e7 (hD : ∀ H', D.rt (.bl true) H') {m : Int} (hd : Dr K p 0 3 H) (hm : okM m) (h1 : m ≠ 0 → m % 10 ≠ 0) :
    t_law_7 K D [a, some (.ref p), c, d, some (.int m), b, none, none, none, none] H := by
  have hn := dgL_len hm
  unfold t_law_7
  walk_at "go"
  refine ⟨p, 0, 3, 33, rfl, by decide, hd, fun r H2 r0 r1 hd2 k2 => ?_⟩
  walk_at "go"
  refine i_strW (by split <;> omega) (by rw [abs_if]; exact Nat.lt_trans hm big1) ?_
  have ed : dgL (if m < 0 then -m else m) = dgL m := by unfold dgL; rw [abs_if]
  rw [ed]
  walk_at "go"
  refine i_lenS (a := dgL m) (by omega) ?_
  walk_at "go"
  unfold t_law_8
  walk_at "go"
  refine ⟨p, 0, 3, 6, rfl, by decide, hd2, fun pk H3 p0 p1 hd3 k3 => ?_⟩
  walk_at "go"
  unfold t_law_9
  walk_at "go"
  refine i_D (fun z => ?_) (fun z => ?_)
  · unfold t_law_9a_0
    walk_at "go"
    refine ⟨p, 0, 3, 900, rfl, by decide, hd3, fun s H4 s0 s1 hd4 k4 => ?_⟩
    walk_at "go"
    exact e10 hD hd4 hm h1 (sm (by omega) (by decide))
  · walk_at "go"
    exact e10 hD hd3 hm h1 (sm (by omega) (by decide))
theorem e6 (hD : ∀ H', D.rt (.bl true) H') {m : Int} (hd : Dr K p 0 3 H) (hm : m.natAbs < 10 ^ 1990) :
    t_law_6 K D [a, some (.ref p), c, d, some (.int m), b, none, none, none, none] H := by
  have hm1 : okM (m + 1) := by
    have h4 := big4
    unfold okM
    generalize (10 : Nat) ^ 1990 = P at *
    generalize (10 : Nat) ^ 2000 = P2 at *
    omega
  have hm0 : okM m := mono hm (by decide)
  unfold t_law_6
  walk_at "go"
  refine i_D (fun z => ?_) (fun z => ?_)
  · walk_at "go"
    refine i_ND (fun z2 => ?_) (fun z2 => ?_)
    · unfold t_law_6a_0
      walk_at "go"
      exact e7 hD hd hm1 (by omega)
    · walk_at "go"
      exact e7 hD hd hm0 (fun y => absurd z2 y)
  · walk_at "go"
    exact e7 hD hd hm0 (fun _ => z)
theorem e5 (hD : ∀ H', D.rt (.bl true) H') {m : Int} (hd : Dr K p 0 3 H) (hm : m.natAbs < 10 ^ 1990) :
    t_law_5 K D [a, some (.ref p), c, d, some (.int m), b, none, none, none, none] H := by
  unfold t_law_5
  walk_at "go"
  refine ⟨p, 0, 3, 3, rfl, by decide, hd, fun r H2 r0 r1 hd2 k2 => ?_⟩
  walk_at "go"
  refine i_D (fun z => ?_) (fun z => ?_)
  · unfold t_law_5a_0
    walk_at "go"
    refine ⟨p, 0, 3, 9, rfl, by decide, hd2, fun x H3 x0 x1 hd3 k3 => ?_⟩
    walk_at "go"
    intro L4 H4 n4
    walk_at "go"
    refine ⟨p, 0, 3, 2, rfl, by decide, hd3.new n4, fun s H5 s0 s1 hd5 k5 => ?_⟩
    refine i_pick (xs := [1, -1]) hd3 n4 k5 s0 s1 fun v hv => ?_
    have hv' : v = 1 ∨ v = -1 := by simpa using hv
    refine i_mulR (by omega) ?_
    walk_at "go"
    exact e6 hD hd5 (pm (sm (by omega) (by decide)) hv')
  · walk_at "go"
    exact e6 hD hd2 hm
theorem len_law {vs : List V} {H : Hp} {Q : VK} {E : XK} (h : sp_law K vs H Q E) : vs.length = 1 := by obtain ⟨_, _, rfl, _⟩ := h; rfl
theorem r_law {vs : List V} {H : Hp} {Q : VK} {E : XK} (h : sp_law K vs H Q E) : t_law_0 K { nx := fun _ H' => Q .non H', rt := Q } (start N_law vs) H := by
  obtain ⟨a, ns, rfl, hs, hl, ho, hq⟩ := h
  unfold t_law_0
  walk_at "go"
  refine ⟨a, ns, 0, rfl, hs, fun p H1 hp k1 hd => ?_⟩
  walk_at "go"
  unfold t_law_1
  walk_at "go"
  unfold t_law_2
  walk_at "go"
  refine ⟨p, 0, 3, 40, rfl, by decide, hd, fun n H2 n0 n1 hd2 k2 => ?_⟩
  walk_at "go"
  refine f_rng (fun i σ H3 => H3 = H2 ∧ ∃ (x3 : Option V), σ = [some (.ref a), some (.ref p), some (.int (10 ^ (i + 1))), x3, none, none, none, none, none, none]) ⟨rfl, none, rfl⟩ ?_ ?_
  · rintro i σ H3 hi ⟨rfl, x3, rfl⟩
    walk_at "go"
    unfold t_law_2a_0
    walk_at "go"
    refine ⟨rfl, some (.int i), ?_⟩
    rw [Int.pow_succ (10 : Int) (i + 1)]
    rfl
  · rintro σ H3 ⟨rfl, x3, rfl⟩
    unfold t_law_3
    walk_at "go"
    refine ⟨p, 0, 3, _, rfl, Int.pow_pos (by decide), hd2, fun r H4 r0 r1 hd4 k4 => ?_⟩
    walk_at "go"
    intro L5 H5 n5
    walk_at "go"
    refine ⟨p, 0, 3, 2, rfl, by decide, hd4.new n5, fun s H6 s0 s1 hd6 k6 => ?_⟩
    refine i_pick (xs := [1, -1]) hd4 n5 k6 s0 s1 fun v hv => ?_
    have hv' : v = 1 ∨ v = -1 := by simpa using hv
    refine i_mulR (by omega) ?_
    walk_at "go"
    have hr : r.natAbs < 10 ^ 40 := by
      have e0 : (10 : Int) ^ (n.toNat + 1) = ((10 ^ (n.toNat + 1) : Nat) : Int) := by simp
      rw [e0] at r1
      have e1 : (10 : Nat) ^ (n.toNat + 1) ≤ 10 ^ 40 := Nat.pow_le_pow_right (by decide) (by omega)
      generalize (10 : Nat) ^ 40 = P at *
      generalize (10 : Nat) ^ (n.toNat + 1) = P2 at *
      omega
    have hrv := pm hr hv'
    generalize r * v = x at hrv
    unfold t_law_4
    walk_at "go"
    refine ⟨p, 0, 3, 12, rfl, by decide, hd6, fun t H7 t0 t1 hd7 k7 => ?_⟩
    walk_at "go"
    refine i_D (fun z => ?_) (fun z => ?_)
    · unfold t_law_4a_0
      walk_at "go"
      refine ⟨p, 0, 3, 46, rfl, by decide, hd7, fun n2 H8 n20 n21 hd8 k8 => ?_⟩
      walk_at "go"
      refine f_rng (fun i σ H9 => ∃ (x3 : Option V) (x : Int), σ = [some (.ref a), some (.ref p), some (.int (10 ^ (n.toNat + 1))), x3, some (.int x), none, none, none, none, none] ∧ x.natAbs < 10 ^ (40 + 41 * i) ∧ Dr K p 0 3 H9) ⟨_, x, rfl, hrv, hd8⟩ ?_ ?_
      · rintro i σ H9 hi ⟨x3, x, rfl, hx, hd9⟩
        walk_at "go"
        unfold t_law_4a_0a_0
        walk_at "go"
        refine i_mulW (cmulw hx (b := 41) (by decide +kernel) (by omega)) ?_
        walk_at "go"
        refine ⟨p, 0, 3, 1000, rfl, by decide, hd9, fun y H10 y0 y1 hd10 k10 => ?_⟩
        walk_at "go"
        exact ⟨_, _, rfl, step41 hx y0 y1, hd10⟩
      · rintro σ H9 ⟨x3, x, rfl, hx, hd9⟩
        exact e5 hq hd9 (mono hx (by omega))
    · walk_at "go"
      exact e5 hq hd7 (mono hrv (by decide))
end
/-! ### the text by places -/
def top (i : Nat) : Stmt := PySem.Challenge.pw_formsalike_k05_layout_of_numbers.main.body.getD i (.Pass ⟨0, 0, 0, 0⟩)
abbrev s_layout : Stmt := top 1
abbrev s__law_cell : Stmt := top 3
abbrev s__law_numbers : Stmt := top 4
abbrev s__law_state : Stmt := top 5
abbrev s__law_next : Stmt := top 6
abbrev s__law_big : Stmt := top 7
abbrev s__law_due : Stmt := top 8
abbrev s__law_worth : Stmt := top 9
abbrev s_law : Stmt := top 10
/-! ### what the walks ask of the module's names -/
structure Txt (K : PySem.W.Frag) (mg : Str → Option Value) : Prop where
  z_abs : mg "abs" = none
  z_int : mg "int" = none
  z_isinstance : mg "isinstance" = none
  z_len : mg "len" = none
  z_range : mg "range" = none
  z_str : mg "str" = none
  nd : PySem.W.nsIn K cStatics "sys.int_max_str_digits" = some none
section
variable {P : Program} {w : World} {K : PySem.W.Frag} {mg : Str → Option Value} {base : Heap}
theorem sc_layout : FnScope ["m", "e", "sign", "digits", "point", "power", "mark"] ["m", "e"] (defScope s_layout) := ⟨rfl, rfl, rfl, by decide +kernel, rfl, by decide +kernel, by decide +kernel⟩
theorem ok_layout {f : Addr} {fd : FuncData} (F : FnP K "layout" "layout" s_layout f fd) (T : Txt K mg) : FnOk P w K mg base CX0 1 f fd ["m", "e"] (sp_layout K) := by
  refine F.ok sc_layout (fun vs H Q E h => len_layout h) (fun cdv A outer s H vs Q E hr h => ⟨(t_layout_0 K), PSs.nox ?_, r_layout h⟩)
  exact (pss_cons (ps_if (pt_cmpR op_eq (pv 0) pe_int (nomark _)) (pss_one (ps_ret pe_str)) pss_nil)
      (pss_cons (ps_set (i := 2) sc_layout.nd rfl (Or.inl rfl) (pe_ifExp (pt_cmpR op_lt (pv 0) pe_int (nomark _)) pe_str pe_str))
      (pss_cons (ps_set (i := 3) sc_layout.nd rfl (Or.inl rfl) (pe_callTy (call_strW rfl T.nd) (by rfl) T.z_str (by decide +kernel) (pa_cons (pe_callB call_abs (by rfl) T.z_abs (by decide +kernel) (pa_cons (pv 0) pa_nil)) pa_nil)))
      (pss_cons (ps_set (i := 4) sc_layout.nd rfl (Or.inl rfl) (pe_op op_add (pe_callB call_len_str (by rfl) T.z_len (by decide +kernel) (pa_cons (pv 3) pa_nil)) (pv 1)))
      (pss_cons (ps_if (pt_chain op_le op_le (pe_callB call_len_str (by rfl) T.z_len (by decide +kernel) (pa_cons (pv 3) pa_nil)) (pv 4) pe_int) (pss_one (ps_ret (pe_op op_add_str (pe_op op_add_str (pv 2) (pv 3)) (pe_op op_mulS pe_str (pe_op op_sub (pv 4) (pe_callB call_len_str (by rfl) T.z_len (by decide +kernel) (pa_cons (pv 3) pa_nil))))))) pss_nil)
      (pss_cons (ps_if (pt_chain op_lt op_le pe_int (pv 4) pe_int) (pss_one (ps_ret (pe_op op_add_str (pe_op op_add_str (pe_op op_add_str (pv 2) (pe_slice sl_str (pv 3) po_none (po_some (pv 4)))) pe_str) (pe_slice sl_str (pv 3) (po_some (pv 4)) po_none)))) pss_nil)
      (pss_cons (ps_if (pt_chain op_lt op_le (pe_un un_neg pe_int) (pv 4) pe_int) (pss_one (ps_ret (pe_op op_add_str (pe_op op_add_str (pe_op op_add_str (pv 2) pe_str) (pe_op op_mulS pe_str (pe_un un_neg (pv 4)))) (pv 3)))) pss_nil)
      (pss_cons (ps_set (i := 5) sc_layout.nd rfl (Or.inl rfl) (pe_callTy (call_strW rfl T.nd) (by rfl) T.z_str (by decide +kernel) (pa_cons (pe_callB call_abs (by rfl) T.z_abs (by decide +kernel) (pa_cons (pe_op op_sub (pv 4) pe_int) pa_nil)) pa_nil)))
      (pss_cons (ps_set (i := 6) sc_layout.nd rfl (Or.inl rfl) (pe_ifExp (pt_cmpR op_gt (pv 4) pe_int (nomark _)) pe_str pe_str))
      (pss_cons (ps_if (pt_cmpR op_eq (pe_callB call_len_str (by rfl) T.z_len (by decide +kernel) (pa_cons (pv 3) pa_nil)) pe_int (nomark _)) (pss_one (ps_ret (pe_op op_add_str (pe_op op_add_str (pe_op op_add_str (pv 2) (pv 3)) (pv 6)) (pv 5)))) pss_nil)
      (pss_one (ps_ret (pe_op op_add_str (pe_op op_add_str (pe_op op_add_str (pe_op op_add_str (pe_op op_add_str (pv 2) (pe_ix ix_str (pv 3) pe_int (fun _ _ => rfl))) pe_str) (pe_slice sl_str (pv 3) (po_some pe_int) po_none)) (pv 6)) (pv 5))))))))))))))
theorem sc__law_cell : FnScope ["_law_script", "_law_k"] ["_law_script", "_law_k"] (defScope s__law_cell) := ⟨rfl, rfl, rfl, by decide +kernel, rfl, by decide +kernel, by decide +kernel⟩
theorem ok__law_cell {f : Addr} {fd : FuncData} (F : FnP K "_law_cell" "_law_cell" s__law_cell f fd) (T : Txt K mg) : FnOk P w K mg base CX0 1 f fd ["_law_script", "_law_k"] (sp__law_cell K) := by
  refine F.ok sc__law_cell (fun vs H Q E h => len__law_cell h) (fun cdv A outer s H vs Q E hr h => ⟨(t__law_cell_0 K), PSs.nox ?_, r__law_cell h⟩)
  exact (pss_cons (ps_if (pt_cmpR op_lt (pv 1) (pe_callB call_len_seq (by rfl) T.z_len (by decide +kernel) (pa_cons (pv 0) pa_nil)) (nomark _)) (pss_one (ps_ret (pe_ix ix_list (pv 0) (pv 1) (fun _ _ => rfl)))) pss_nil)
      (pss_one (ps_ret pe_int)))
theorem sc__law_numbers : FnScope ["_law_cell_here", "_law_many", "_law_rest", "_law_size", "_law_numbers_here", "_law_k", "_law_mixed"] ["_law_cell_here", "_law_many"] (defScope s__law_numbers) := ⟨rfl, rfl, rfl, by decide +kernel, rfl, by decide +kernel, by decide +kernel⟩
theorem ok__law_numbers {f : Addr} {fd : FuncData} (F : FnP K "_law_numbers" "_law_numbers" s__law_numbers f fd) (T : Txt K mg) : FnOk P w K mg base CX0 1 f fd ["_law_cell_here", "_law_many"] (sp__law_numbers K) := by
  refine F.ok sc__law_numbers (fun vs H Q E h => len__law_numbers h) (fun cdv A outer s H vs Q E hr h => ⟨(t__law_numbers_0 K), PSs.nox ?_, r__law_numbers h⟩)
  exact (pss_cons (ps_set (i := 2) sc__law_numbers.nd rfl (Or.inl rfl) (pe_callB call_abs (by rfl) T.z_abs (by decide +kernel) (pa_cons (pv 0) pa_nil)))
      (pss_cons (ps_set (i := 3) sc__law_numbers.nd rfl (Or.inl rfl) (pv 2))
      (pss_cons (ps_set (i := 4) sc__law_numbers.nd rfl (Or.inl rfl) (pe_lst pa_nil))
      (pss_cons (ps_for PassesOwn.never rfl (pi_range1 (by rfl) T.z_range (pa_cons (pv 1) pa_nil)) (pg_name (i := 5) sc__law_numbers.nd rfl (Or.inl rfl)) (pss_one (ps_if (PW.pt (pw_and (pt_cmpR op_ge (pv 3) (pe_op op_pow pe_int pe_int) (nomark _)) (pw_and1 (pt_cmpR op_gt (pv 2) pe_int (nomark _))))) (pss_cons (ps_expr (pe_bm PySem.F.plainAttrs_list PySem.F.slot_list_append PySem.F.type_list_append mt_append (pv 4) (pa_cons (pe_op op_mod (pe_callTy call_int1 (by rfl) T.z_int (by decide +kernel) (pa_cons (pv 2) pa_nil)) pe_int) pa_nil)))
      (pss_one (ps_set (i := 2) sc__law_numbers.nd rfl (Or.inl rfl) (pe_op op_fdiv (pv 2) pe_int)))) (pss_cons (ps_set (i := 6) sc__law_numbers.nd rfl (Or.inl rfl) (pe_op op_mod (pe_callTy call_int1 (by rfl) T.z_int (by decide +kernel) (pa_cons (pe_op op_add (pe_op op_add (pe_op op_mul (pv 3) pe_int) (pe_op op_mul (pv 5) pe_int)) pe_int) pa_nil)) pe_int))
      (pss_cons (ps_set (i := 6) sc__law_numbers.nd rfl (Or.inl rfl) (pe_op op_mod (pe_callTy call_int1 (by rfl) T.z_int (by decide +kernel) (pa_cons (pe_op op_add (pe_op op_add (pe_op op_mul (pv 6) (pv 6)) (pe_op op_mul pe_int (pv 5))) pe_int) pa_nil)) pe_int))
      (pss_one (ps_expr (pe_bm PySem.F.plainAttrs_list PySem.F.slot_list_append PySem.F.type_list_append mt_append (pv 4) (pa_cons (pe_op op_mod (pe_callTy call_int1 (by rfl) T.z_int (by decide +kernel) (pa_cons (pe_op op_fdiv (pv 6) pe_int) pa_nil)) pe_int) pa_nil)))))))))
      (pss_one (ps_ret (pv 4)))))))
theorem sc__law_state : FnScope ["_law_script", "_law_left", "_law_numbers_here", "_law_parted", "_law_k"] ["_law_script", "_law_left"] (defScope s__law_state) := ⟨rfl, rfl, rfl, by decide +kernel, rfl, by decide +kernel, by decide +kernel⟩
theorem ok__law_state {f : Addr} {fd : FuncData} (F : FnP K "_law_state" "_law_state" s__law_state f fd) (T : Txt K mg) (c__law_cell : Cal P w K mg base 1 "_law_cell" (sp__law_cell K)) (c__law_numbers : Cal P w K mg base 1 "_law_numbers" (sp__law_numbers K)) : FnOk P w K mg base CX0 2 f fd ["_law_script", "_law_left"] (sp__law_state K) := by
  refine F.ok sc__law_state (fun vs H Q E h => len__law_state h) (fun cdv A outer s H vs Q E hr h => ⟨(t__law_state_0 K), PSs.nox ?_, r__law_state h⟩)
  exact (pss_cons (ps_set (i := 2) sc__law_state.nd rfl (Or.inl rfl) (pe_lst pa_nil))
      (pss_cons (ps_setLc (i := 3) (own := [("_law_k", 4)]) (g := (gName 4)) (tt := tYes) (te := (tCall (sp__law_numbers K) [] E0 (tCons (tCall (sp__law_cell K) [] E0 (tCons (tVar 0) (tCons (tVar 4) tNil))) (tCons (tC (.int 40)) tNil)))) (wi := (iRng1 (tCons (tC (.int 3)) tNil))) rfl sc__law_state.nd rfl rfl (sw_true rfl rfl rfl (by decide +kernel)) (pi_range1 (by rfl) T.z_range (pa_cons pe_int pa_nil)) (blkOk_by (N := ["_law_script", "_law_left", "_law_numbers_here", "_law_parted", "_law_k"]) (sc := defScope s__law_state) (by decide +kernel)) (fun _ _ _ _ _ => (pg_name (i := 4) sc__law_state.nd rfl (Or.inl rfl))) (fun _ _ _ _ _ => pts_nil) (fun _ _ _ _ _ => (pe_callC c__law_numbers (hr.mono (by decide)) (by rfl) (pa_cons (pe_callC c__law_cell (hr.mono (by decide)) (by rfl) (pa_cons (pv 0) (pa_cons (pv 4) pa_nil))) (pa_cons pe_int pa_nil)))))
      (pss_cons (ps_for PassesOwn.never rfl (pi_range1 (by rfl) T.z_range (pa_cons pe_int pa_nil)) (pg_name (i := 4) sc__law_state.nd rfl (Or.inl rfl)) (pss_cons (ps_expr (pe_bm PySem.F.plainAttrs_list PySem.F.slot_list_append PySem.F.type_list_append mt_append (pv 2) (pa_cons (pe_ix ix_list (pe_ix ix_list (pv 3) pe_int (fun _ _ => rfl)) (pv 4) (fun _ _ => rfl)) pa_nil)))
      (pss_cons (ps_expr (pe_bm PySem.F.plainAttrs_list PySem.F.slot_list_append PySem.F.type_list_append mt_append (pv 2) (pa_cons (pe_ix ix_list (pe_ix ix_list (pv 3) pe_int (fun _ _ => rfl)) (pv 4) (fun _ _ => rfl)) pa_nil)))
      (pss_one (ps_expr (pe_bm PySem.F.plainAttrs_list PySem.F.slot_list_append PySem.F.type_list_append mt_append (pv 2) (pa_cons (pe_ix ix_list (pe_ix ix_list (pv 3) pe_int (fun _ _ => rfl)) (pv 4) (fun _ _ => rfl)) pa_nil)))))))
      (pss_one (ps_ret (pe_lst (pa_cons (pv 2) (pa_cons pe_int (pa_cons (pv 1) (pa_cons (pv 0) (pa_cons pe_int pa_nil)))))))))))
theorem sc__law_next : FnScope ["_law_state_here", "_law_many", "_law_at"] ["_law_state_here", "_law_many"] (defScope s__law_next) := ⟨rfl, rfl, rfl, by decide +kernel, rfl, by decide +kernel, by decide +kernel⟩
theorem ok__law_next {f : Addr} {fd : FuncData} (F : FnP K "_law_next" "_law_next" s__law_next f fd) (T : Txt K mg) : FnOk P w K mg base CX0 1 f fd ["_law_state_here", "_law_many"] (sp__law_next K) := by
  refine F.ok sc__law_next (fun vs H Q E h => len__law_next h) (fun cdv A outer s H vs Q E hr h => ⟨(t__law_next_0 K), PSs.nox ?_, r__law_next h⟩)
  exact (pss_cons (ps_set (i := 2) sc__law_next.nd rfl (Or.inl rfl) (pe_ix ix_list (pv 0) pe_int (fun _ _ => rfl)))
      (pss_cons (ps_asg (pe_op op_add (pv 2) pe_int) (pg_sub (pv 0) pe_int set_list))
      (pss_one (ps_ret (pe_op op_mod (pe_callTy call_int1 (by rfl) T.z_int (by decide +kernel) (pa_cons (pe_op op_add (pe_ix ix_list (pe_ix ix_list (pv 0) pe_int (fun _ _ => rfl)) (pe_op op_mod (pv 2) pe_int) (fun _ _ => rfl)) (pe_op op_mul pe_int (pe_op op_fdiv (pv 2) pe_int))) pa_nil)) (pv 1))))))
theorem sc__law_big : FnScope ["_law_state_here", "_law_many", "_law_cell_here"] ["_law_state_here", "_law_many"] (defScope s__law_big) := ⟨rfl, rfl, rfl, by decide +kernel, rfl, by decide +kernel, by decide +kernel⟩
theorem ok__law_big {f : Addr} {fd : FuncData} (F : FnP K "_law_big" "_law_big" s__law_big f fd) (T : Txt K mg) (c__law_cell : Cal P w K mg base 1 "_law_cell" (sp__law_cell K)) (c__law_next : Cal P w K mg base 1 "_law_next" (sp__law_next K)) : FnOk P w K mg base CX0 2 f fd ["_law_state_here", "_law_many"] (sp__law_big K) := by
  refine F.ok sc__law_big (fun vs H Q E h => len__law_big h) (fun cdv A outer s H vs Q E hr h => ⟨(t__law_big_0 K), PSs.nox ?_, r__law_big h⟩)
  exact (pss_cons (ps_set (i := 2) sc__law_big.nd rfl (Or.inl rfl) (pe_callB call_abs (by rfl) T.z_abs (by decide +kernel) (pa_cons (pe_callC c__law_cell (hr.mono (by decide)) (by rfl) (pa_cons (pe_ix ix_list (pv 0) pe_int (fun _ _ => rfl)) (pa_cons (pe_op op_add pe_int (pe_callC c__law_next (hr.mono (by decide)) (by rfl) (pa_cons (pv 0) (pa_cons pe_int pa_nil)))) pa_nil))) pa_nil)))
      (pss_one (ps_ret (pe_op op_mod (pe_callTy call_int1 (by rfl) T.z_int (by decide +kernel) (pa_cons (pe_op op_add (pe_op op_mul (pv 2) pe_int) (pe_callC c__law_next (hr.mono (by decide)) (by rfl) (pa_cons (pv 0) (pa_cons pe_int pa_nil)))) pa_nil)) (pv 1)))))
theorem sc__law_due : FnScope ["_law_m", "_law_e", "_law_sign", "_law_digits", "_law_first", "_law_tail"] ["_law_m", "_law_e"] (defScope s__law_due) := ⟨rfl, rfl, rfl, by decide +kernel, rfl, by decide +kernel, by decide +kernel⟩
theorem ok__law_due {f : Addr} {fd : FuncData} (F : FnP K "_law_due" "_law_due" s__law_due f fd) (T : Txt K mg) : FnOk P w K mg base CX0 1 f fd ["_law_m", "_law_e"] (sp__law_due K) := by
  refine F.ok sc__law_due (fun vs H Q E h => len__law_due h) (fun cdv A outer s H vs Q E hr h => ⟨(t__law_due_0 K), PSs.nox ?_, r__law_due h⟩)
  exact (pss_cons (ps_if (pt_cmpR op_eq (pv 0) pe_int (nomark _)) (pss_one (ps_ret pe_str)) pss_nil)
      (pss_cons (ps_set (i := 2) sc__law_due.nd rfl (Or.inl rfl) (pe_ix ix_list (pe_lst (pa_cons pe_str (pa_cons pe_str pa_nil))) (pe_callTy call_int1 (by rfl) T.z_int (by decide +kernel) (pa_cons (pe_cmpR op_lt (pv 0) pe_int (nomark _)) pa_nil)) (fun _ _ => rfl)))
      (pss_cons (ps_set (i := 3) sc__law_due.nd rfl (Or.inl rfl) (pe_callTy (call_strW rfl T.nd) (by rfl) T.z_str (by decide +kernel) (pa_cons (pe_callB call_abs (by rfl) T.z_abs (by decide +kernel) (pa_cons (pv 0) pa_nil)) pa_nil)))
      (pss_cons (ps_set (i := 4) sc__law_due.nd rfl (Or.inl rfl) (pe_op op_sub (pe_op op_add (pe_callB call_len_str (by rfl) T.z_len (by decide +kernel) (pa_cons (pv 3) pa_nil)) (pv 1)) pe_int))
      (pss_cons (ps_if (PW.pt (pw_or (pt_cmpR op_ge (pv 4) pe_int (nomark _)) (pw_or1 (pt_cmpR op_lt (pv 4) (pe_un un_neg pe_int) (nomark _))))) (pss_cons (ps_set (i := 5) sc__law_due.nd rfl (Or.inl rfl) (pe_slice sl_str (pv 3) (po_some pe_int) po_none))
      (pss_cons (ps_if (pt_cmpR op_ne (pv 5) pe_str (nomark _)) (pss_one (ps_set (i := 5) sc__law_due.nd rfl (Or.inl rfl) (pe_op op_add_str pe_str (pv 5)))) pss_nil)
      (pss_one (ps_ret (pe_op op_add_str (pe_op op_add_str (pe_op op_add_str (pe_op op_add_str (pe_op op_add_str (pv 2) (pe_slice sl_str (pv 3) po_none (po_some pe_int))) (pv 5)) pe_str) (pe_ix ix_list (pe_lst (pa_cons pe_str (pa_cons pe_str pa_nil))) (pe_callTy call_int1 (by rfl) T.z_int (by decide +kernel) (pa_cons (pe_cmpR op_gt (pv 4) pe_int (nomark _)) pa_nil)) (fun _ _ => rfl))) (pe_callTy (call_strW rfl T.nd) (by rfl) T.z_str (by decide +kernel) (pa_cons (pe_callB call_abs (by rfl) T.z_abs (by decide +kernel) (pa_cons (pv 4) pa_nil)) pa_nil))))))) pss_nil)
      (pss_cons (ps_if (pt_cmpR op_lt (pv 4) pe_int (nomark _)) (pss_one (ps_ret (pe_op op_add_str (pe_op op_add_str (pe_op op_add_str (pv 2) pe_str) (pe_op op_mulS pe_str (pe_op op_sub (pe_un un_neg pe_int) (pv 4)))) (pv 3)))) pss_nil)
      (pss_cons (ps_if (pt_cmpR op_ge (pv 1) pe_int (nomark _)) (pss_one (ps_ret (pe_op op_add_str (pe_op op_add_str (pv 2) (pv 3)) (pe_op op_mulS pe_str (pv 1))))) pss_nil)
      (pss_one (ps_ret (pe_op op_add_str (pe_op op_add_str (pe_op op_add_str (pv 2) (pe_slice sl_str (pv 3) po_none (po_some (pe_op op_add (pv 4) pe_int)))) pe_str) (pe_slice sl_str (pv 3) (po_some (pe_op op_add (pv 4) pe_int)) po_none)))))))))))
theorem sc__law_worth : FnScope ["_law_text", "_law_sign", "_law_power", "_law_at"] ["_law_text"] (defScope s__law_worth) := ⟨rfl, rfl, rfl, by decide +kernel, rfl, by decide +kernel, by decide +kernel⟩
theorem ok__law_worth {f : Addr} {fd : FuncData} (F : FnP K "_law_worth" "_law_worth" s__law_worth f fd) (T : Txt K mg) : FnOk P w K mg base CX0 1 f fd ["_law_text"] (sp__law_worth K) := by
  refine F.ok sc__law_worth (fun vs H Q E h => len__law_worth h) (fun cdv A outer s H vs Q E hr h => ⟨(t__law_worth_0 K), PSs.nox ?_, r__law_worth h⟩)
  exact (pss_cons (ps_set (i := 1) sc__law_worth.nd rfl (Or.inl rfl) pe_int)
      (pss_cons (ps_if (pt_cmpR op_eq (pe_slice sl_str (pv 0) po_none (po_some pe_int)) pe_str (nomark _)) (pss_cons (ps_set (i := 1) sc__law_worth.nd rfl (Or.inl rfl) (pe_un un_neg pe_int))
      (pss_one (ps_set (i := 0) sc__law_worth.nd rfl (Or.inl rfl) (pe_slice sl_str (pv 0) (po_some pe_int) po_none)))) pss_nil)
      (pss_cons (ps_set (i := 2) sc__law_worth.nd rfl (Or.inl rfl) pe_int)
      (pss_cons (ps_set (i := 3) sc__law_worth.nd rfl (Or.inl rfl) (pe_bm PySem.F.plainAttrs_str PySem.F.slot_str_find PySem.F.type_str_find mt_find (pv 0) (pa_cons pe_str pa_nil)))
      (pss_cons (ps_if (pt_cmpR op_ge (pv 3) pe_int (nomark _)) (pss_cons (ps_set (i := 2) sc__law_worth.nd rfl (Or.inl rfl) (pe_callTy (call_intW T.nd) (by rfl) T.z_int (by decide +kernel) (pa_cons (pe_slice sl_str (pv 0) (po_some (pe_op op_add (pv 3) pe_int)) po_none) pa_nil)))
      (pss_one (ps_set (i := 0) sc__law_worth.nd rfl (Or.inl rfl) (pe_slice sl_str (pv 0) po_none (po_some (pv 3)))))) pss_nil)
      (pss_cons (ps_set (i := 3) sc__law_worth.nd rfl (Or.inl rfl) (pe_bm PySem.F.plainAttrs_str PySem.F.slot_str_find PySem.F.type_str_find mt_find (pv 0) (pa_cons pe_str pa_nil)))
      (pss_cons (ps_if (pt_cmpR op_ge (pv 3) pe_int (nomark _)) (pss_cons (ps_set (i := 2) sc__law_worth.nd rfl (Or.inl rfl) (pe_op op_sub (pv 2) (pe_op op_sub (pe_op op_sub (pe_callB call_len_str (by rfl) T.z_len (by decide +kernel) (pa_cons (pv 0) pa_nil)) (pv 3)) pe_int)))
      (pss_one (ps_set (i := 0) sc__law_worth.nd rfl (Or.inl rfl) (pe_op op_add_str (pe_slice sl_str (pv 0) po_none (po_some (pv 3))) (pe_slice sl_str (pv 0) (po_some (pe_op op_add (pv 3) pe_int)) po_none))))) pss_nil)
      (pss_one (ps_ret (pe_tup (pa_cons (pe_op op_mul (pv 1) (pe_callTy (call_intW T.nd) (by rfl) T.z_int (by decide +kernel) (pa_cons (pv 0) pa_nil))) (pa_cons (pv 2) pa_nil))))))))))))
theorem sc_law : FnScope ["_law_script", "_law_state_here", "_law_power", "_law_k", "_law_m", "_law_e", "_law_pick", "_law_text", "_law_digits", "_law_ten"] ["_law_script"] (defScope s_law) := ⟨rfl, rfl, rfl, by decide +kernel, rfl, by decide +kernel, by decide +kernel⟩
theorem ok_law {f : Addr} {fd : FuncData} (F : FnP K "law" "law" s_law f fd) (T : Txt K mg) (c__law_big : Cal P w K mg base 2 "_law_big" (sp__law_big K)) (c__law_due : Cal P w K mg base 1 "_law_due" (sp__law_due K)) (c__law_next : Cal P w K mg base 1 "_law_next" (sp__law_next K)) (c__law_state : Cal P w K mg base 2 "_law_state" (sp__law_state K)) (c__law_worth : Cal P w K mg base 1 "_law_worth" (sp__law_worth K)) (c_layout : Cal P w K mg base 1 "layout" (sp_layout K)) : FnOk P w K mg base CX0 3 f fd ["_law_script"] (sp_law K) := by
  refine F.ok sc_law (fun vs H Q E h => len_law h) (fun cdv A outer s H vs Q E hr h => ⟨(t_law_0 K), PSs.nox ?_, r_law h⟩)
  exact (pss_cons (ps_set (i := 1) sc_law.nd rfl (Or.inl rfl) (pe_callC c__law_state (hr.mono (by decide)) (by rfl) (pa_cons (pv 0) (pa_cons pe_int pa_nil))))
      (pss_cons (ps_set (i := 2) sc_law.nd rfl (Or.inl rfl) pe_int)
      (pss_cons (ps_for PassesOwn.never rfl (pi_range1 (by rfl) T.z_range (pa_cons (pe_callC c__law_next (hr.mono (by decide)) (by rfl) (pa_cons (pv 1) (pa_cons pe_int pa_nil))) pa_nil)) (pg_name (i := 3) sc_law.nd rfl (Or.inl rfl)) (pss_one (ps_set (i := 2) sc_law.nd rfl (Or.inl rfl) (pe_op op_mul (pv 2) pe_int))))
      (pss_cons (ps_set (i := 4) sc_law.nd rfl (Or.inl rfl) (pe_op op_mul (pe_callC c__law_big (hr.mono (by decide)) (by rfl) (pa_cons (pv 1) (pa_cons (pv 2) pa_nil))) (pe_ix ix_list (pe_lst (pa_cons pe_int (pa_cons (pe_un un_neg pe_int) pa_nil))) (pe_callC c__law_next (hr.mono (by decide)) (by rfl) (pa_cons (pv 1) (pa_cons pe_int pa_nil))) (fun _ _ => rfl))))
      (pss_cons (ps_if (pt_cmpR op_eq (pe_callC c__law_next (hr.mono (by decide)) (by rfl) (pa_cons (pv 1) (pa_cons pe_int pa_nil))) pe_int (nomark _)) (pss_one (ps_for PassesOwn.never rfl (pi_range1 (by rfl) T.z_range (pa_cons (pe_callC c__law_next (hr.mono (by decide)) (by rfl) (pa_cons (pv 1) (pa_cons pe_int pa_nil))) pa_nil)) (pg_name (i := 3) sc_law.nd rfl (Or.inl rfl)) (pss_one (ps_set (i := 4) sc_law.nd rfl (Or.inl rfl) (pe_op op_add (pe_op op_mulW (pv 4) (pe_op op_add (pe_op op_pow pe_int pe_int) pe_int)) (pe_callC c__law_next (hr.mono (by decide)) (by rfl) (pa_cons (pv 1) (pa_cons pe_int pa_nil)))))))) pss_nil)
      (pss_cons (ps_if (pt_cmpR op_eq (pe_callC c__law_next (hr.mono (by decide)) (by rfl) (pa_cons (pv 1) (pa_cons pe_int pa_nil))) pe_int (nomark _)) (pss_one (ps_set (i := 4) sc_law.nd rfl (Or.inl rfl) (pe_op op_mul (pe_op op_add pe_int (pe_callC c__law_next (hr.mono (by decide)) (by rfl) (pa_cons (pv 1) (pa_cons pe_int pa_nil)))) (pe_ix ix_list (pe_lst (pa_cons pe_int (pa_cons (pe_un un_neg pe_int) pa_nil))) (pe_callC c__law_next (hr.mono (by decide)) (by rfl) (pa_cons (pv 1) (pa_cons pe_int pa_nil))) (fun _ _ => rfl))))) pss_nil)
      (pss_cons (ps_if (PW.pt (pw_and (pt_cmpR op_eq (pe_op op_mod (pv 4) pe_int) pe_int (nomark _)) (pw_and1 (pt_cmpR op_ne (pv 4) pe_int (nomark _))))) (pss_one (ps_set (i := 4) sc_law.nd rfl (Or.inl rfl) (pe_op op_add (pv 4) pe_int))) pss_nil)
      (pss_cons (ps_set (i := 5) sc_law.nd rfl (Or.inl rfl) (pe_op op_sub (pe_op op_sub (pe_callC c__law_next (hr.mono (by decide)) (by rfl) (pa_cons (pv 1) (pa_cons pe_int pa_nil))) pe_int) (pe_callB call_len_str (by rfl) T.z_len (by decide +kernel) (pa_cons (pe_callTy (call_strW rfl T.nd) (by rfl) T.z_str (by decide +kernel) (pa_cons (pe_callB call_abs (by rfl) T.z_abs (by decide +kernel) (pa_cons (pv 4) pa_nil)) pa_nil)) pa_nil))))
      (pss_cons (ps_set (i := 6) sc_law.nd rfl (Or.inl rfl) (pe_callC c__law_next (hr.mono (by decide)) (by rfl) (pa_cons (pv 1) (pa_cons pe_int pa_nil))))
      (pss_cons (ps_if (pt_cmpR op_eq (pv 6) pe_int (nomark _)) (pss_one (ps_set (i := 5) sc_law.nd rfl (Or.inl rfl) (pe_op op_sub (pe_callC c__law_next (hr.mono (by decide)) (by rfl) (pa_cons (pv 1) (pa_cons pe_int pa_nil))) pe_int))) pss_nil)
      (pss_cons (ps_if (pt_cmpR op_eq (pv 6) pe_int (nomark _)) (pss_cons (ps_set (i := 5) sc_law.nd rfl (Or.inl rfl) (pe_op op_mul (pe_callC c__law_big (hr.mono (by decide)) (by rfl) (pa_cons (pv 1) (pa_cons (pe_op op_pow pe_int pe_int) pa_nil))) (pe_ix ix_list (pe_lst (pa_cons pe_int (pa_cons (pe_un un_neg pe_int) pa_nil))) (pe_callC c__law_next (hr.mono (by decide)) (by rfl) (pa_cons (pv 1) (pa_cons pe_int pa_nil))) (fun _ _ => rfl))))
      (pss_one (ps_if (pt_cmpR op_eq (pe_callC c__law_next (hr.mono (by decide)) (by rfl) (pa_cons (pv 1) (pa_cons pe_int pa_nil))) pe_int (nomark _)) (pss_one (ps_for PassesOwn.never rfl (pi_range1 (by rfl) T.z_range (pa_cons (pe_callC c__law_next (hr.mono (by decide)) (by rfl) (pa_cons (pv 1) (pa_cons pe_int pa_nil))) pa_nil)) (pg_name (i := 3) sc_law.nd rfl (Or.inl rfl)) (pss_one (ps_set (i := 5) sc_law.nd rfl (Or.inl rfl) (pe_op op_mulW (pv 5) (pe_op op_add (pe_op op_pow pe_int pe_int) pe_int)))))) pss_nil))) pss_nil)
      (pss_cons (ps_if (PW.pt (pw_or (pt_cmpR op_eq (pe_callC c__law_next (hr.mono (by decide)) (by rfl) (pa_cons (pv 1) (pa_cons pe_int pa_nil))) pe_int (nomark _)) (pw_or1 (pt_cmpR op_eq (pv 4) pe_int (nomark _))))) (pss_cons (ps_set (i := 4) sc_law.nd rfl (Or.inl rfl) pe_int)
      (pss_one (ps_set (i := 5) sc_law.nd rfl (Or.inl rfl) pe_int))) pss_nil)
      (pss_cons (ps_set (i := 7) sc_law.nd rfl (Or.inl rfl) (pe_callC c_layout (hr.mono (by decide)) (by rfl) (pa_cons (pv 4) (pa_cons (pv 5) pa_nil))))
      (pss_cons (ps_if (PW.pt (pw_or (pt_not (pt_val (pe_callB call_isi (by rfl) T.z_isinstance (by decide +kernel) (pa_cons (pv 7) (pa_cons (pe_bltn (v := .ty "str") (by rfl) T.z_str (by decide +kernel) rfl) pa_nil))))) (pw_or1 (pt_cmpR op_ne (pv 7) (pe_callC c__law_due (hr.mono (by decide)) (by rfl) (pa_cons (pv 4) (pa_cons (pv 5) pa_nil))) (nomark _))))) (pss_one (ps_ret pe_bl)) pss_nil)
      (pss_cons (ps_asg (pe_callC c__law_worth (hr.mono (by decide)) (by rfl) (pa_cons (pv 7) pa_nil)) (pg_tup rfl (pgs_cons (pg_name (i := 8) sc_law.nd rfl (Or.inl rfl)) (pgs_cons (pg_name (i := 9) sc_law.nd rfl (Or.inl rfl)) pgs_nil))))
      (pss_cons (ps_if (pt_cmpR op_eq (pv 4) pe_int (nomark _)) (pss_one (ps_ret (pe_cmpR op_eq (pv 8) pe_int (nomark _)))) pss_nil)
      (pss_cons (ps_for PassesOwn.never rfl (pi_range1 (by rfl) T.z_range (pa_cons pe_int pa_nil)) (pg_name (i := 3) sc_law.nd rfl (Or.inl rfl)) (pss_one (ps_if (PW.pt (pw_and (pt_cmpR op_eq (pe_op op_mod (pv 8) pe_int) pe_int (nomark _)) (pw_and1 (pt_cmpR op_lt (pv 9) (pv 5) (nomark _))))) (pss_cons (ps_set (i := 8) sc_law.nd rfl (Or.inl rfl) (pe_op op_fdiv (pv 8) pe_int))
      (pss_one (ps_set (i := 9) sc_law.nd rfl (Or.inl rfl) (pe_op op_add (pv 9) pe_int)))) pss_nil)))
      (pss_one (ps_ret (pe_and (pe_cmpR op_eq (pv 8) (pv 4) (nomark _)) (pe_one (pe_cmpR op_eq (pv 9) (pv 5) (nomark _)))))))))))))))))))))))
end
/-! ### the head -/
def d_layout : DefX := dX (gA "layout") "layout" "layout" s_layout
def d__law_cell : DefX := dX (gA "_law_cell") "_law_cell" "_law_cell" s__law_cell
def d__law_numbers : DefX := dX (gA "_law_numbers") "_law_numbers" "_law_numbers" s__law_numbers
def d__law_state : DefX := dX (gA "_law_state") "_law_state" "_law_state" s__law_state
def d__law_next : DefX := dX (gA "_law_next") "_law_next" "_law_next" s__law_next
def d__law_big : DefX := dX (gA "_law_big") "_law_big" "_law_big" s__law_big
def d__law_due : DefX := dX (gA "_law_due") "_law_due" "_law_due" s__law_due
def d__law_worth : DefX := dX (gA "_law_worth") "_law_worth" "_law_worth" s__law_worth
def d_law : DefX := dX (gA "law") "law" "law" s_law
def fn : List DefX := [d_layout, d__law_cell, d__law_numbers, d__law_state, d__law_next, d__law_big, d__law_due, d__law_worth, d_law]
def fa : List Fx := [fFa (.free "abs"), fFa (.free "int"), fFa (.free "isinstance"), fFa (.free "len"), fFa (.free "range"), fFa (.free "str"), digB, fFa (.glo "layout"), fFa (.glo "_law_cell"), fFa (.glo "_law_numbers"), fFa (.glo "_law_state"), fFa (.glo "_law_next"), fFa (.glo "_law_big"), fFa (.glo "_law_due"), fFa (.glo "_law_worth"), fFa (.glo "law")]
abbrev R : PySem.W.OpenRow := PySem.W.OpenLaw.row PySem.Challenge.rw_formsalike_k05_layout_of_numbers
abbrev hk : PySem.W.Hook := hookX 6 fa fn
def ob (s : PySem.W.SharedT) : AlX := obsXG 6 fa fn (HandSHeadRun.getT s)
theorem ob_eq (s : PySem.W.SharedT) : ob s = hk.obs s.abs := obsXG_eq (HandSHeadRun.getT_eq s)
def loose : List Str := (["__name__", "layout", "_law_cell", "_law_numbers", "_law_state", "_law_next", "_law_big", "_law_due", "_law_worth"] : List Str)
theorem run (w : World) : HandSHeadRun.RunEq R (PySem.W.view R.prog [10]) hk ob 4000 loose w := by
  intro os
  kernel_rfl
theorem facts {P : Program} {w : World} {K : PySem.W.Frag} {h : Heap} {mg : Str → Option Value} {f : Addr} (X : K.In h) (G : h.Ns mainGlobals mg) (hfa : mg ("law" : Str) = some (.ref f)) (c : SaysX fa fn K) :
    ∃ fd : FuncData, (∀ (s : Shared) (v : Value), BindsTo s fd ⟨[v], []⟩ [("_law_script", v)]) ∧ ∀ base : Heap, K.In base → base.Ns mainGlobals mg → FnOk P w K mg base CX0 3 f fd ["_law_script"] (sp_law K) := by
  obtain ⟨fd_layout, F_layout⟩ := c.def_ 0 (d := d_layout) rfl
  obtain ⟨fd__law_cell, F__law_cell⟩ := c.def_ 1 (d := d__law_cell) rfl
  obtain ⟨fd__law_numbers, F__law_numbers⟩ := c.def_ 2 (d := d__law_numbers) rfl
  obtain ⟨fd__law_state, F__law_state⟩ := c.def_ 3 (d := d__law_state) rfl
  obtain ⟨fd__law_next, F__law_next⟩ := c.def_ 4 (d := d__law_next) rfl
  obtain ⟨fd__law_big, F__law_big⟩ := c.def_ 5 (d := d__law_big) rfl
  obtain ⟨fd__law_due, F__law_due⟩ := c.def_ 6 (d := d__law_due) rfl
  obtain ⟨fd__law_worth, F__law_worth⟩ := c.def_ 7 (d := d__law_worth) rfl
  obtain ⟨fd_law, F_law⟩ := c.def_ 8 (d := d_law) rfl
  have e := hfa.symm.trans (He.glo_ok X G (c.fact 15 (f := fFa (.glo "law")) rfl))
  cases e
  have T : Txt K mg := ⟨He.free_ok X G (c.fact 0 rfl), He.free_ok X G (c.fact 1 rfl), He.free_ok X G (c.fact 2 rfl), He.free_ok X G (c.fact 3 rfl), He.free_ok X G (c.fact 4 rfl), He.free_ok X G (c.fact 5 rfl), digB_ok (c.fact 6 rfl)⟩
  have b_layout := FunD.bindsN (ps := ["m", "e"]) F_layout fun _ _ _ _ _ _ us hl => match us, hl with | [_, _], _ => rfl
  have b__law_cell := FunD.bindsN (ps := ["_law_script", "_law_k"]) F__law_cell fun _ _ _ _ _ _ us hl => match us, hl with | [_, _], _ => rfl
  have b__law_numbers := FunD.bindsN (ps := ["_law_cell_here", "_law_many"]) F__law_numbers fun _ _ _ _ _ _ us hl => match us, hl with | [_, _], _ => rfl
  have b__law_state := FunD.bindsN (ps := ["_law_script", "_law_left"]) F__law_state fun _ _ _ _ _ _ us hl => match us, hl with | [_, _], _ => rfl
  have b__law_next := FunD.bindsN (ps := ["_law_state_here", "_law_many"]) F__law_next fun _ _ _ _ _ _ us hl => match us, hl with | [_, _], _ => rfl
  have b__law_big := FunD.bindsN (ps := ["_law_state_here", "_law_many"]) F__law_big fun _ _ _ _ _ _ us hl => match us, hl with | [_, _], _ => rfl
  have b__law_due := FunD.bindsN (ps := ["_law_m", "_law_e"]) F__law_due fun _ _ _ _ _ _ us hl => match us, hl with | [_, _], _ => rfl
  have b__law_worth := FunD.bindsN (ps := ["_law_text"]) F__law_worth fun _ _ _ _ _ _ us hl => match us, hl with | [_], _ => rfl
  have b_law := FunD.bindsA (ps := ["_law_script"]) F_law fun _ _ _ _ _ _ us hl => match us, hl with | [_], _ => rfl
  refine ⟨fd_law, fun s v => b_law s [v] rfl, fun base _ _ => ?_⟩
  have c_layout : Cal P w K mg base 1 "layout" (sp_layout K) := ⟨⟨_, fd_layout, ["m", "e"], ok_layout F_layout T, He.glo_ok X G (c.fact 7 rfl), F_layout.kp, b_layout⟩⟩
  have c__law_cell : Cal P w K mg base 1 "_law_cell" (sp__law_cell K) := ⟨⟨_, fd__law_cell, ["_law_script", "_law_k"], ok__law_cell F__law_cell T, He.glo_ok X G (c.fact 8 rfl), F__law_cell.kp, b__law_cell⟩⟩
  have c__law_numbers : Cal P w K mg base 1 "_law_numbers" (sp__law_numbers K) := ⟨⟨_, fd__law_numbers, ["_law_cell_here", "_law_many"], ok__law_numbers F__law_numbers T, He.glo_ok X G (c.fact 9 rfl), F__law_numbers.kp, b__law_numbers⟩⟩
  have c__law_state : Cal P w K mg base 2 "_law_state" (sp__law_state K) := ⟨⟨_, fd__law_state, ["_law_script", "_law_left"], ok__law_state F__law_state T c__law_cell c__law_numbers, He.glo_ok X G (c.fact 10 rfl), F__law_state.kp, b__law_state⟩⟩
  have c__law_next : Cal P w K mg base 1 "_law_next" (sp__law_next K) := ⟨⟨_, fd__law_next, ["_law_state_here", "_law_many"], ok__law_next F__law_next T, He.glo_ok X G (c.fact 11 rfl), F__law_next.kp, b__law_next⟩⟩
  have c__law_big : Cal P w K mg base 2 "_law_big" (sp__law_big K) := ⟨⟨_, fd__law_big, ["_law_state_here", "_law_many"], ok__law_big F__law_big T c__law_cell c__law_next, He.glo_ok X G (c.fact 12 rfl), F__law_big.kp, b__law_big⟩⟩
  have c__law_due : Cal P w K mg base 1 "_law_due" (sp__law_due K) := ⟨⟨_, fd__law_due, ["_law_m", "_law_e"], ok__law_due F__law_due T, He.glo_ok X G (c.fact 13 rfl), F__law_due.kp, b__law_due⟩⟩
  have c__law_worth : Cal P w K mg base 1 "_law_worth" (sp__law_worth K) := ⟨⟨_, fd__law_worth, ["_law_text"], ok__law_worth F__law_worth T, He.glo_ok X G (c.fact 14 rfl), F__law_worth.kp, b__law_worth⟩⟩
  exact ok_law F_law T c__law_big c__law_due c__law_next c__law_state c__law_worth c_layout
end Fa
open PySem PySem.W PySem.Calls PyProof.Rows
set_option maxRecDepth 100000 in
set_option maxHeartbeats 0 in
theorem PySem.Challenge.cw_formsalike_k05_layout_of_numbers_holds : PySem.Challenge.rw_formsalike_k05_layout_of_numbers.Holds := by
  w_on; o_law
  refine HandSHeadRun.head_any (r := OpenLaw.row PySem.Challenge.rw_formsalike_k05_layout_of_numbers) (q := view (OpenLaw.row PySem.Challenge.rw_formsalike_k05_layout_of_numbers).prog [10]) (H := Fa.hk) (ob := Fa.ob) (M := 4000) (loose := Fa.loose) (d := HandSHeadRun.topDef (OpenLaw.row PySem.Challenge.rw_formsalike_k05_layout_of_numbers).prog 10) (kwd := []) Fa.ob_eq
    (by kernel_rfl) (fun s => by kernel_rfl) Fa.run (by kernel_rfl) (by kernel_rfl) (by kernel_rfl) (by rfl) (by first | assumption | decide +kernel) (by decide +kernel) ⟨rfl, rfl, rfl, rfl, rfl, by decide +kernel⟩ ?hw ?hc
  case hw => w_witness2
  case hc =>
    refine L2.walk_ofE (l := PySem.Challenge.rw_formsalike_k05_layout_of_numbers) (n := 63) (k := 3) (x := "_law_script") (CX := L2.CX0) rfl (by decide) (by kernel_rfl) ⟨rfl, by decide, by decide⟩ ?F (fun _ _ _ _ z => z)
    intro w mg fa h Y G hmg0
    obtain ⟨K, KX, c⟩ := Y
    have hmg : mg ("law" : PySem.Str) = some (.ref fa) := by
      have e : (HandSHeadRun.topDef (OpenLaw.row PySem.Challenge.rw_formsalike_k05_layout_of_numbers).prog 10).name = ("law" : PySem.Str) := by kernel_rfl
      rw [← e]
      exact hmg0
    obtain ⟨fd, hb, hF⟩ := Fa.facts (P := (PySem.Challenge.rw_formsalike_k05_layout_of_numbers).prog) (w := w) KX G hmg c
    exact ⟨K, fd, Fa.sp_law K, KX, hb, fun H a ns hl ho hS => ⟨a, ns, rfl, hS, hl, ho, fun _ => rfl⟩, hF⟩
#print axioms PySem.Challenge.cw_formsalike_k05_layout_of_numbers_holds
