import PyProof.Rows.All
import Wide.All
import OpenK.AllK
import Wide.FinOn
import HandS.ForMost
import HandS.More
import HandS.Wide
import HandS.Steps
import HandS.TupAny
import HandS.IsInst
import HandS.Defaults
import HandS.Head0
import HandS.Head1
import HandS.Head2
import HandS.HeadEnd
import HandS.HeadHook1
import HandS.HeadHook2
import HandS.Property
import HandS.Style
import KE.GoesMore
import KE.GoesEnum
import PySem.Challenge.RW_formsalike_k07_utf8_first_fault
set_option Elab.async false
set_option linter.all false
set_option maxRecDepth 100000
set_option maxHeartbeats 4000000
namespace Fa
open PySem PySem.Spec PyProof.Rows L2
abbrev FnP (K : PySem.W.Frag) (x qual : Str) (st : Stmt) (f : Addr) (fd : FuncData) : Prop := FunD K x qual (defArgs st) (defBody st) (defScope st) [] [] f fd
/-! ### a def that is called by its name -/
structure Cal (P : Program) (w : World) (K : PySem.W.Frag) (mg : Str → Option Value) (base : Heap) (k : Nat) (x : Str) (sp : Sp) : Prop where
  ex : ∃ (f : Addr) (fd : FuncData) (ps : List Str), FnOk P w K mg base CX0 k f fd ps sp ∧ mg x = some (.ref f) ∧ PySem.W.keepIn K (.ref f) = true ∧ Binds K fd ps []
section
variable {X : Cx} {k : Nat} {x : Str} {sp : Sp} {p pos : Pos} {e : Expr} {es : List Expr} {t : TA}
theorem pe_callC (c : Cal X.prog X.w X.K X.mg X.base k x sp) (hr : Room k X.A) (hg : Gl X x) (ha : PA X (e :: es) t) (hdb : (x == ("__debug__" : Str)) = false := by decide) (he : starEach (e :: es) X.env = (false, eval e X.env) :: starEach es X.env := by rfl) (hpl : (backTo pos (starEach es X.env)).any (·.1) = false := by rfl) :
    PE X (.Call (.Name x p) (e :: es) [] pos) (tCall sp [] E0 t) := by
  obtain ⟨f, fd, ps, F, m, kp, b⟩ := c.ex
  exact pe_call F hr hg m kp b .nil pass0 ha hdb he hpl
theorem pe_callC0 (c : Cal X.prog X.w X.K X.mg X.base k x sp) (hr : Room k X.A) (hg : Gl X x) (hdb : (x == ("__debug__" : Str)) = false := by decide) :
    PE X (.Call (.Name x p) [] [] pos) (tCall sp [] E0 tNil) := by
  obtain ⟨f, fd, ps, F, m, kp, b⟩ := c.ex
  exact pe_call0 F hr hg m kp b .nil pass0 hdb
theorem pe_globI {i : Int} (hg : Gl X x) (hm : ∃ t, X.mg x = some (.int i t)) (hd : (x == ("__debug__" : Str)) = false := by decide) : PE X (.Name x pos) (tC (.int i)) := by
  obtain ⟨t, m⟩ := hm
  exact pe_glob hg m ⟨t, rfl⟩ hd
theorem pe_globS {i : Str} (hg : Gl X x) (hm : ∃ t, X.mg x = some (.str i t)) (hd : (x == ("__debug__" : Str)) = false := by decide) : PE X (.Name x pos) (tC (.str i)) := by
  obtain ⟨t, m⟩ := hm
  exact pe_glob hg m ⟨t, rfl⟩ hd
theorem pe_globR {a : Addr} (hg : Gl X x) (m : X.mg x = some (.ref a)) (hd : (x == ("__debug__" : Str)) = false := by decide) : PE X (.Name x pos) (tC (.ref a)) := pe_glob hg m rfl hd
end
/-! ### operations by names -/
def rAddI : R2 := rI0 fun i j => .int (i + j)
def rSubI : R2 := rI0 fun i j => .int (i - j)
def rMulI : R2 := rI CMul fun i j => .int (i * j)
def rMulW : R2 := rI CMulW fun i j => .int (i * j)
def rDivI : R2 := rI CDiv fun i j => .int (i / j)
def rDivW : R2 := rI CDivW fun i j => .int (i / j)
def rModI : R2 := rI (fun _ j => 0 < j) fun i j => .int (i % j)
def rPowI : R2 := rI CPow fun i j => .int (i ^ j.toNat)
def rShlI : R2 := rI CPow fun i j => .int (i * 2 ^ j.toNat)
def rShrI : R2 := rI (fun _ j => 0 ≤ j) fun i j => .int (i / 2 ^ j.toNat)
def rAndI : R2 := rI0 fun i j => .int (Builtin.bitAnd i j)
def rLtI : R2 := rI0 fun i j => .bl (decide (i < j))
def rLeI : R2 := rI0 fun i j => .bl (decide (i ≤ j))
def rGtI : R2 := rI0 fun i j => .bl (decide (j < i))
def rGeI : R2 := rI0 fun i j => .bl (decide (j ≤ i))
def rNegI : V → Hp → VK → Prop := rU fun i => .int (-i)
def rAddS : R2 := fun x y H Q => ∃ i j, x = .str i ∧ y = .str j ∧ i.length + j.length ≤ sizeLine ∧ Q (.str (i ++ j)) H
def rLtS : R2 := fun x y H Q => ∃ i j, x = .str i ∧ y = .str j ∧ Q (.bl (decide (i.cps.toList < j.cps.toList))) H
def rAbs : List V → Hp → VK → Prop := fun xs H Q => ∃ i, xs = [.int i] ∧ Q (.int (if i < 0 then -i else i)) H
def rInt1 : List V → Hp → VK → Prop := fun xs H Q => (∃ i, xs = [.int i] ∧ Q (.int i) H) ∨ ∃ k, xs = [.bl k] ∧ Q (.int (if k then 1 else 0)) H
def rBool1 : List V → Hp → VK → Prop := fun xs H Q => (∃ i, xs = [.int i] ∧ Q (.bl (i != 0)) H) ∨ ∃ k, xs = [.bl k] ∧ Q (.bl k) H
def rStrI : List V → Hp → VK → Prop := fun xs H Q => ∃ i, xs = [.int i] ∧ i.natAbs.log2 < 1920 ∧ Q (.str (toString i)) H
def rOrd : List V → Hp → VK → Prop := fun xs H Q => ∃ x, xs = [.str x] ∧ x.length = 1 ∧ Q (.int (x.cps.getD 0 0 : Nat)) H
def rChr : List V → Hp → VK → Prop := fun xs H Q => ∃ i, xs = [.int i] ∧ 0 ≤ i ∧ i ≤ 1114111 ∧ Q (.str ⟨#[i.toNat]⟩) H
def rMax2 : List V → Hp → VK → Prop := fun xs H Q => ∃ i j, xs = [.int i, .int j] ∧ Q (.int (if j > i then j else i)) H
def rMin2 : List V → Hp → VK → Prop := fun xs H Q => ∃ i j, xs = [.int i, .int j] ∧ Q (.int (if j < i then j else i)) H
def rLenQ (K : PySem.W.Frag) : List V → Hp → VK → Prop := fun xs H Q => ∃ p ys, xs = [.ref p] ∧ (SqL K H p ys ∨ SqT K H p ys) ∧ Q (.int ys.length) H
def rLenS : List V → Hp → VK → Prop := fun xs H Q => ∃ z, xs = [.str z] ∧ z.length ≤ sizeLine ∧ Q (.int z.length) H
def rListOf (K : PySem.W.Frag) : List V → Hp → VK → Prop := fun xs H Q => ∃ p ys, xs = [.ref p] ∧ (SqL K H p ys ∨ SqT K H p ys) ∧ ∀ l, H l = none → Q (.ref l) (upd H l (.lst ys))
def rTupOf (K : PySem.W.Frag) : List V → Hp → VK → Prop := fun xs H Q => ∃ p ys, xs = [.ref p] ∧ ((SqL K H p ys ∧ ∀ l, H l = none → Q (.ref l) (upd H l (.tup ys))) ∨ (SqT K H p ys ∧ Q (.ref p) H))
/-! ### heaps -/
/-- all that was tracked, but for what stands in S, is as it was -/
def Keep (S : List Addr) (H H1 : Hp) : Prop := ∀ a o, a ∉ S → H a = some o → H1 a = some o
theorem Keep.refl {S : List Addr} (H : Hp) : Keep S H H := fun _ _ _ h => h
theorem Keep.trans {S : List Addr} {H H1 H2 : Hp} (a : Keep S H H1) (b : Keep S H1 H2) : Keep S H H2 := fun x o n h => b x o n (a x o n h)
theorem Keep.mono {S S' : List Addr} {H H1 : Hp} (a : Keep S H H1) (h : ∀ x, x ∈ S → x ∈ S') : Keep S' H H1 := fun x o n e => a x o (fun z => n (h x z)) e
theorem Keep.all {S : List Addr} {H H1 : Hp} (a : Keep [] H H1) : Keep S H H1 := a.mono (fun _ h => by cases h)
theorem Keep.new {S : List Addr} {H : Hp} {p : Addr} {o : HO} (h : H p = none) : Keep S H (upd H p o) := fun a u _ e => by
  rw [upd_ne (ne_of_none e h)]
  exact e
theorem Keep.put {S : List Addr} {H H1 : Hp} {p : Addr} {o : HO} (k : Keep S H H1) (h : p ∈ S ∨ H p = none) : Keep S H (upd H1 p o) := fun a u n e => by
  rcases h with h | h
  · rw [upd_ne (fun z => n (by rw [z]; exact h))]
    exact k a u n e
  · rw [upd_ne (ne_of_none e h)]
    exact k a u n e
theorem Keep.rd {S : List Addr} {H H1 : Hp} {a : Addr} {u : HO} (k : Keep S H H1) (n : a ∉ S) (h : Rd H a u) : Rd H1 a u := by
  rcases h with h | ⟨o, h⟩
  · exact .inl (k a _ n h)
  · exact .inr ⟨o, k a _ n h⟩
theorem Keep.sqL {S : List Addr} {K : PySem.W.Frag} {H H1 : Hp} {a : Addr} {xs : List V} (k : Keep S H H1) (n : a ∉ S) (h : SqL K H a xs) : SqL K H1 a xs := by
  rcases h with h | h
  · exact .inl (k.rd n h)
  · exact .inr h
theorem Keep.sqT {S : List Addr} {K : PySem.W.Frag} {H H1 : Hp} {a : Addr} {xs : List V} (k : Keep S H H1) (n : a ∉ S) (h : SqT K H a xs) : SqT K H1 a xs := by
  rcases h with h | h
  · exact .inl (k.rd n h)
  · exact .inr h
theorem Keep.fresh {S : List Addr} {H H1 : Hp} {a : Addr} (k : Keep S H H1) (n : a ∉ S) (h : H1 a = none) : H a = none := by
  cases e : H a with
  | none => rfl
  | some o =>
    rw [k a o n e] at h
    cases h
/-! ### to read a term forwards: one rule a construct -/
section
variable {K : PySem.W.Frag} {σ : L2.St} {H : Hp} {Q : VK} {D : Ends} {t u : TS} {te ta tb tc : TE} {tt tt2 : TT} {i j : Int} {n : Nat} {v x y : V} {r r2 : R2} {b : Bool} {ar : TA} {A B : Prop} {QT : Bool → Hp → Prop} {QA : List V → Hp → Prop}
theorem i_seq (h : t { D with nx := u D } σ H) : tSeq t u D σ H := h
theorem i_asg (h : te σ H fun x H1 => D.nx (σ.set n (some x)) H1) : tAsg te (gName n) D σ H := h
theorem i_asgG {g : TG} (h : te σ H fun x H1 => g x σ H1 D.nx) : tAsg te g D σ H := h
theorem i_ret (h : te σ H D.rt) : tRet te D σ H := h
theorem i_retN (h : D.rt .non H) : tRetN D σ H := h
theorem i_drop (h : te σ H fun _ H1 => D.nx σ H1) : tDrop te D σ H := h
theorem i_ifS (h : tt σ H fun b H1 => if b = true then t D σ H1 else u D σ H1) : tIfS tt t u D σ H := h
theorem i_next (h : D.nx σ H) : tNext D σ H := h
theorem i_cont (h : D.ct σ H) : tCont D σ H := h
theorem i_break (h : D.bk σ H) : tBreak D σ H := h
theorem i_var (e : σ[n]? = some (some v)) (h : Q v H) : tVar n σ H Q := ⟨v, e, h⟩
theorem i_c (h : Q v H) : tC v σ H Q := h
theorem i_op (h : ta σ H fun x H1 => tb σ H1 fun y H2 => r x y H2 Q) : tOp r ta tb σ H Q := h
theorem i_un {f : V → Hp → VK → Prop} (h : ta σ H fun x H1 => f x H1 Q) : tUn f ta σ H Q := h
theorem i_nil (h : QA [] H) : tNil σ H QA := h
theorem i_cons (h : ta σ H fun x H1 => ar σ H1 fun xs H2 => QA (x :: xs) H2) : tCons ta ar σ H QA := h
theorem i_call {sp : Sp} {E : XK} (h : ar σ H fun vs H1 => sp vs H1 Q E) : tCall sp [] E ar σ H Q := by
  show ar σ H fun vs H1 => sp (vs ++ []) H1 Q E
  simpa only [List.append_nil] using h
theorem i_cb {f : List V → Hp → VK → Prop} (h : ar σ H fun vs H1 => f vs H1 Q) : tCB f ar σ H Q := h
theorem i_test (h : ta σ H fun x H' => ∃ k, x = .bl k ∧ QT k H') : tTest ta σ H QT := h
theorem i_tB (h : ta σ H fun x H' => ∃ k, x = .bl k ∧ QT k H') : tB ta σ H QT := h
theorem i_bl (h : QT b H) : ∃ k, V.bl b = .bl k ∧ QT k H := ⟨b, rfl, h⟩
theorem i_and (h : tt σ H fun c H1 => if c = true then tt2 σ H1 QT else QT false H1) : tAnd tt tt2 σ H QT := h
theorem i_or (h : tt σ H fun c H1 => if c = true then QT true H1 else tt2 σ H1 QT) : tOr tt tt2 σ H QT := h
theorem i_not (h : tt σ H fun c H1 => QT (!c) H1) : tNot tt σ H QT := h
theorem i_andV (h : ta σ H fun x H1 => ∃ c, x = .bl c ∧ if c = true then tb σ H1 Q else Q (.bl false) H1) : tAndV ta tb σ H Q := h
theorem i_orV (h : ta σ H fun x H1 => ∃ c, x = .bl c ∧ if c = true then Q (.bl true) H1 else tb σ H1 Q) : tOrV ta tb σ H Q := h
theorem i_notV (h : ta σ H fun x H1 => ∃ c, x = .bl c ∧ Q (.bl (!c)) H1) : tNotV ta σ H Q := h
theorem i_chain (h : ta σ H fun x H1 => tb σ H1 fun y H2 => r x y H2 fun z H3 => ∃ k, z = .bl k ∧ (if k = true then tc σ H3 fun w' H4 => r2 y w' H4 Q else Q (.bl false) H3)) : tChain r r2 ta tb tc σ H Q := h
theorem i_if (h : tt σ H fun c H1 => if c = true then ta σ H1 Q else tb σ H1 Q) : tIf tt ta tb σ H Q := h
theorem i_ex {P : Bool → Prop} (h : P b) : ∃ c, V.bl b = .bl c ∧ P c := ⟨b, rfl, h⟩
theorem i_T (h : A) : if true = true then A else B := iteT h
theorem i_F (h : B) : if false = true then A else B := iteF h
theorem i_NT (h : B) : if (!true) = true then A else B := iteF h
theorem i_NF (h : A) : if (!false) = true then A else B := iteT h
theorem i_NN {c : Bool} (h : if c = true then A else B) : if (!!c) = true then A else B := by rw [Bool.not_not]; exact h
theorem i_NDT {c : Prop} [Decidable c] (h : ¬ c) (h1 : A) : if (!decide c) = true then A else B := by rw [decide_eq_false h]; exact iteT h1
theorem i_NDF {c : Prop} [Decidable c] (h : c) (h1 : B) : if (!decide c) = true then A else B := by rw [decide_eq_true h]; exact iteF h1
theorem i_D {c : Prop} [Decidable c] (h1 : c → A) (h2 : ¬ c → B) : if decide c = true then A else B := by
  by_cases h : c
  · rw [decide_eq_true h]; exact i_T (h1 h)
  · rw [decide_eq_false h]; exact i_F (h2 h)
theorem i_ND {c : Prop} [Decidable c] (h1 : ¬ c → A) (h2 : c → B) : if (!decide c) = true then A else B := by
  by_cases h : c
  · rw [decide_eq_true h]; exact i_F (h2 h)
  · rw [decide_eq_false h]; exact i_T (h1 h)
theorem i_DT {c : Prop} [Decidable c] (h : c) (h1 : A) : if decide c = true then A else B := by rw [decide_eq_true h]; exact i_T h1
theorem i_DF {c : Prop} [Decidable c] (h : ¬ c) (h1 : B) : if decide c = true then A else B := by rw [decide_eq_false h]; exact i_F h1
theorem i_B (c : Bool) (h1 : c = true → A) (h2 : c = false → B) : if c = true then A else B := by
  cases c
  · exact i_F (h2 rfl)
  · exact i_T (h1 rfl)
theorem i_add (h : Q (.int (i + j)) H) : rAddI (.int i) (.int j) H Q := ⟨i, j, rfl, rfl, h⟩
theorem i_sub (h : Q (.int (i - j)) H) : rSubI (.int i) (.int j) H Q := ⟨i, j, rfl, rfl, h⟩
theorem i_mul (c : CMul i j) (h : Q (.int (i * j)) H) : rMulI (.int i) (.int j) H Q := ⟨i, j, rfl, rfl, c, h⟩
theorem i_mulL (c : -(2 ^ 64) < i ∧ i < 2 ^ 64) (h : Q (.int (i * j)) H) : rMulI (.int i) (.int j) H Q := ⟨i, j, rfl, rfl, .inl c, h⟩
theorem i_mulR (c : -(2 ^ 64) < j ∧ j < 2 ^ 64) (h : Q (.int (i * j)) H) : rMulI (.int i) (.int j) H Q := ⟨i, j, rfl, rfl, .inr c, h⟩
theorem i_mulW (c : CMulW i j) (h : Q (.int (i * j)) H) : rMulW (.int i) (.int j) H Q := ⟨i, j, rfl, rfl, c, h⟩
theorem i_div (c : 0 < j ∧ j < 1073741824) (h : Q (.int (i / j)) H) : rDivI (.int i) (.int j) H Q := ⟨i, j, rfl, rfl, c, h⟩
theorem i_divW (c : CDivW i j) (h : Q (.int (i / j)) H) : rDivW (.int i) (.int j) H Q := ⟨i, j, rfl, rfl, c, h⟩
theorem i_mod (c : 0 < j) (h : Q (.int (i % j)) H) : rModI (.int i) (.int j) H Q := ⟨i, j, rfl, rfl, c, h⟩
theorem i_pow (c : 0 ≤ j ∧ j ≤ 1000000 ∧ i.natAbs < 2 ^ 64) (h : Q (.int (i ^ j.toNat)) H) : rPowI (.int i) (.int j) H Q := ⟨i, j, rfl, rfl, c, h⟩
theorem i_shl (c : 0 ≤ j ∧ j ≤ 1000000 ∧ i.natAbs < 2 ^ 64) (h : Q (.int (i * 2 ^ j.toNat)) H) : rShlI (.int i) (.int j) H Q := ⟨i, j, rfl, rfl, c, h⟩
theorem i_shr (c : 0 ≤ j) (h : Q (.int (i / 2 ^ j.toNat)) H) : rShrI (.int i) (.int j) H Q := ⟨i, j, rfl, rfl, c, h⟩
theorem i_band (h : Q (.int (Builtin.bitAnd i j)) H) : rAndI (.int i) (.int j) H Q := ⟨i, j, rfl, rfl, h⟩
theorem i_lt (h : Q (.bl (decide (i < j))) H) : rLtI (.int i) (.int j) H Q := ⟨i, j, rfl, rfl, h⟩
theorem i_le (h : Q (.bl (decide (i ≤ j))) H) : rLeI (.int i) (.int j) H Q := ⟨i, j, rfl, rfl, h⟩
theorem i_gt (h : Q (.bl (decide (j < i))) H) : rGtI (.int i) (.int j) H Q := ⟨i, j, rfl, rfl, h⟩
theorem i_ge (h : Q (.bl (decide (j ≤ i))) H) : rGeI (.int i) (.int j) H Q := ⟨i, j, rfl, rfl, h⟩
theorem i_neg (h : Q (.int (-i)) H) : rNegI (.int i) H Q := ⟨i, rfl, h⟩
theorem dV {i j : Int} : decide (V.int i = V.int j) = decide (i = j) := by
  rw [dec_int]
  exact Bool.beq_eq_decide_eq i j
theorem i_eqI (h : Q (.bl (decide (i = j))) H) : rEq (.int i) (.int j) H Q := ⟨rfl, by rw [dV]; exact h⟩
theorem i_neI (h : Q (.bl (!decide (i = j))) H) : rNe (.int i) (.int j) H Q := ⟨rfl, by rw [dV]; exact h⟩
theorem i_eqS {i j : Str} (h : Q (.bl (decide (i = j))) H) : rEq (.str i) (.str j) H Q := ⟨rfl, by
  have e : decide (V.str i = V.str j) = decide (i = j) := by
    by_cases q : i = j
    · rw [decide_eq_true q, decide_eq_true (congrArg V.str q)]
    · rw [decide_eq_false q, decide_eq_false fun z => q (V.str.inj z)]
  rw [e]; exact h⟩
theorem i_neS {i j : Str} (h : Q (.bl (!decide (i = j))) H) : rNe (.str i) (.str j) H Q := ⟨rfl, by
  have e : decide (V.str i = V.str j) = decide (i = j) := by
    by_cases q : i = j
    · rw [decide_eq_true q, decide_eq_true (congrArg V.str q)]
    · rw [decide_eq_false q, decide_eq_false fun z => q (V.str.inj z)]
  rw [e]; exact h⟩
theorem i_neB {i j : Bool} (h : Q (.bl (!decide (i = j))) H) : rNe (.bl i) (.bl j) H Q := ⟨rfl, by
  have e : decide (V.bl i = V.bl j) = decide (i = j) := by cases i <;> cases j <;> rfl
  rw [e]; exact h⟩
theorem i_eqB {i j : Bool} (h : Q (.bl (decide (i = j))) H) : rEq (.bl i) (.bl j) H Q := ⟨rfl, by
  have e : decide (V.bl i = V.bl j) = decide (i = j) := by cases i <;> cases j <;> rfl
  rw [e]; exact h⟩
theorem i_isN (h : Q (.bl (decide (v = .non))) H) : rIsN v .non H Q := ⟨rfl, h⟩
theorem i_notN (h : Q (.bl (!decide (v = .non))) H) : rNotN v .non H Q := ⟨rfl, h⟩
theorem i_abs (h : Q (.int (if i < 0 then -i else i)) H) : rAbs [.int i] H Q := ⟨i, rfl, h⟩
theorem i_int1 (h : Q (.int i) H) : rInt1 [.int i] H Q := .inl ⟨i, rfl, h⟩
theorem i_int1b (h : Q (.int (if b then 1 else 0)) H) : rInt1 [.bl b] H Q := .inr ⟨b, rfl, h⟩
theorem i_max2 (h : Q (.int (if j > i then j else i)) H) : rMax2 [.int i, .int j] H Q := ⟨i, j, rfl, h⟩
theorem i_strI (c : i.natAbs.log2 < 1920) (h : Q (.str (toString i)) H) : rStrI [.int i] H Q := ⟨i, rfl, c, h⟩
theorem i_lenL {p : Addr} {ys : List V} (c : SqL K H p ys) (h : Q (.int ys.length) H) : rLenQ K [.ref p] H Q := ⟨p, ys, rfl, .inl c, h⟩
theorem i_lenT {p : Addr} {ys : List V} (c : SqT K H p ys) (h : Q (.int ys.length) H) : rLenQ K [.ref p] H Q := ⟨p, ys, rfl, .inr c, h⟩
theorem i_ixL {p : Addr} {ys : List V} (c : SqL K H p ys) (a : atI ys i = some v) (h : Q v H) : rIxL K (.ref p) (.int i) H Q := ⟨p, ys, i, v, rfl, rfl, c, a, h⟩
theorem i_ixT {p : Addr} {ys : List V} (c : SqT K H p ys) (a : atI ys i = some v) (h : Q v H) : rIxT K (.ref p) (.int i) H Q := ⟨p, ys, i, v, rfl, rfl, c, a, h⟩
/-- a new object stands at p, all else is as it was -/
structure NewAt (H : Hp) (p : Addr) (o : HO) (H1 : Hp) : Prop where
  free : H p = none
  at_ : H1 p = some o
  keep : ∀ S, Keep S H H1
theorem NewAt.mk' {p : Addr} {o : HO} (h : H p = none) : NewAt H p o (upd H p o) := ⟨h, upd_same, fun _ => .new h⟩
theorem NewAt.sqL {p : Addr} {xs : List V} {H1 : Hp} (h : NewAt H p (.lst xs) H1) : SqL K H1 p xs := SqL.of h.at_
theorem NewAt.sqT {p : Addr} {xs : List V} {H1 : Hp} (h : NewAt H p (.tup xs) H1) : SqT K H1 p xs := SqT.of h.at_
def NewL (xs : List V) (H : Hp) (Q : VK) : Prop := xs.length ≤ sizeLine ∧ ∀ p, H p = none → Q (.ref p) (upd H p (.lst xs))
def NewT (xs : List V) (H : Hp) (Q : VK) : Prop := xs.length ≤ sizeLine ∧ ∀ p, H p = none → Q (.ref p) (upd H p (.tup xs))
theorem i_lst (h : ar σ H fun xs H1 => NewL xs H1 Q) : tLst ar σ H Q := h
theorem i_tup (h : ar σ H fun xs H1 => NewT xs H1 Q) : tTup ar σ H Q := h
theorem small_of {n : Nat} (h : n ≤ 1000000) : n ≤ sizeLine := Nat.le_trans h (by decide)
theorem small_lt {n : Nat} (h : n < 1000000) : n < sizeLine := Nat.lt_of_lt_of_le h (by decide)
theorem i_newL {xs : List V} (c : xs.length ≤ 1000000) (h : ∀ p H1, NewAt H p (.lst xs) H1 → Q (.ref p) H1) : NewL xs H Q := ⟨small_of c, fun p np => h p _ (.mk' np)⟩
theorem i_newT {xs : List V} (c : xs.length ≤ 1000000) (h : ∀ p H1, NewAt H p (.tup xs) H1 → Q (.ref p) H1) : NewT xs H Q := ⟨small_of c, fun p np => h p _ (.mk' np)⟩
theorem i_append {to : TE} (h : to σ H fun o H1 => tyV K "list" o H1 ∧ ar σ H1 fun ys H2 => rAppend o ys H2 Q) : tBM K "list" rAppend to ar σ H Q := h
theorem i_app {p : Addr} {xs : List V} (e : H p = some (.lst xs)) (c : xs.length < 1000000) (h : Q .non (upd H p (.lst (xs ++ [v])))) : rAppend (.ref p) [v] H Q := ⟨p, xs, v, rfl, rfl, e, small_lt c, h⟩
theorem i_extend {to : TE} (h : to σ H fun o H1 => tyV K "list" o H1 ∧ ar σ H1 fun ys H2 => rExtend o ys H2 Q) : tBM K "list" rExtend to ar σ H Q := h
theorem i_ext {p q : Addr} {xs zs : List V} (e : H p = some (.lst xs)) (e2 : H q = some (.lst zs)) (c : xs.length + zs.length ≤ 1000000) (h : Q .non (upd H p (.lst (xs ++ zs)))) : rExtend (.ref p) [.ref q] H Q := ⟨p, q, xs, zs, rfl, rfl, e, e2, small_of c, h⟩
theorem i_cat {p q : Addr} {xs zs : List V} (e : H p = some (.lst xs)) (e2 : H q = some (.lst zs)) (c : xs.length + zs.length ≤ 1000000) (h : ∀ r H1, NewAt H r (.lst (xs ++ zs)) H1 → Q (.ref r) H1) : rCat (.ref p) (.ref q) H Q := ⟨p, q, xs, zs, rfl, rfl, e, e2, small_of c, fun r nr => h r _ (.mk' nr)⟩
theorem i_tupL {p : Addr} {xs : List V} (e : SqL K H p xs) (h : ∀ r H1, NewAt H r (.tup xs) H1 → Q (.ref r) H1) : rTupOf K [.ref p] H Q := ⟨p, xs, rfl, .inl ⟨e, fun r nr => h r _ (.mk' nr)⟩⟩
theorem i_lstOf {p : Addr} {xs : List V} (e : SqL K H p xs ∨ SqT K H p xs) (h : ∀ r H1, NewAt H r (.lst xs) H1 → Q (.ref r) H1) : rListOf K [.ref p] H Q := ⟨p, xs, rfl, e, fun r nr => h r _ (.mk' nr)⟩
theorem i_lenQ {p : Addr} {ys : List V} (c : SqL K H p ys ∨ SqT K H p ys) (h : Q (.int ys.length) H) : rLenQ K [.ref p] H Q := ⟨p, ys, rfl, c, h⟩
theorem i_sl {f : V → Option Int → Option Int → Hp → VK → Prop} {tl th : TO} (h : te σ H fun x H1 => tl σ H1 fun l H2 => th σ H2 fun u H3 => f x l u H3 Q) : tSl f te tl th σ H Q := h
theorem i_noPart {QO : Option Int → Hp → Prop} (h : QO none H) : tNoPart σ H QO := h
theorem i_part {QO : Option Int → Hp → Prop} (h : te σ H fun x H1 => ∃ i, x = .int i ∧ QO (some i) H1) : tPart te σ H QO := h
theorem i_partI {P : Int → Prop} (h : P i) : ∃ j, V.int i = .int j ∧ P j := ⟨i, rfl, h⟩
theorem i_slL {p : Addr} {xs : List V} {lo hi : Option Int} (e : SqL K H p xs) (h : ∀ r H1, NewAt H r (.lst (cutV xs lo hi)) H1 → Q (.ref r) H1) : rSlL K (.ref p) lo hi H Q := ⟨p, xs, rfl, e, fun r nr => h r _ (.mk' nr)⟩
theorem cutV_to (xs : List V) (k : Nat) : cutV xs none (some (k : Int)) = xs.take k := by
  unfold cutV
  rw [HT.sIx_none, HT.sIx_nat]
  rw [List.drop_zero, Nat.sub_zero]
  by_cases c : k ≤ xs.length
  · rw [Nat.min_eq_left c]
  · rw [Nat.min_eq_right (by omega), List.take_length, List.take_of_length_le (by omega)]
theorem cutV_from (xs : List V) (k : Nat) : cutV xs (some (k : Int)) none = xs.drop k := by
  unfold cutV
  rw [HT.sIx_none, HT.sIx_nat]
  by_cases c : k ≤ xs.length
  · rw [Nat.min_eq_left c, List.take_of_length_le (by rw [List.length_drop]; omega)]
  · rw [Nat.min_eq_right (by omega), List.drop_length, List.drop_of_length_le (by omega)]
    simp
theorem i_max1 {a : Addr} {x y : Int} (h : SqL K H a [.int x, .int y]) (hq : Q (.int (max x y)) H) : rMax K [.ref a] H Q := by
  refine ⟨a, [x, y], rfl, h, Nat.succ_pos _, fun m hm hy => ?_⟩
  have h1 := hy x (by simp)
  have h2 := hy y (by simp)
  have e : m = max x y := by
    simp at hm
    omega
  rw [e]
  exact hq
theorem i_min1 {a : Addr} {x y : Int} (h : SqL K H a [.int x, .int y]) (hq : Q (.int (min x y)) H) : rMin K [.ref a] H Q := by
  refine ⟨a, [x, y], rfl, h, Nat.succ_pos _, fun m hm hy => ?_⟩
  have h1 := hy x (by simp)
  have h2 := hy y (by simp)
  have e : m = min x y := by
    simp at hm
    omega
  rw [e]
  exact hq
theorem i_gSub {to ti : TE} {ts : TSet} {QS : L2.St → Hp → Prop} (h : to σ H fun o H1 => ti σ H1 fun i H2 => ts o i v H2 fun H3 => QS σ H3) : gSub to ti ts v σ H QS := h
theorem i_gName {QS : L2.St → Hp → Prop} (h : QS (σ.set n (some v)) H) : gName n v σ H QS := h
theorem i_setL {p : Addr} {xs : List V} {k : Int} {j : Nat} {QH : Hp → Prop} (e : H p = some (.lst xs)) (c : ixN xs.length k = some j) (h : QH (upd H p (.lst (xs.set j v)))) : rSetL (.ref p) (.int k) v H QH := ⟨p, xs, k, j, rfl, rfl, e, c, h⟩
theorem ty_lst {p : Addr} {xs : List V} (e : H p = some (.lst xs)) : tyV K "list" (.ref p) H := .inl ⟨rfl, _, SqL.of e⟩
end
/-! ### loops -/
section
variable {K : PySem.W.Frag} {σ : L2.St} {H : Hp} {Q : VK} {D : Ends} {g : TG} {tb : TS} {ar : TA} {te tl : TE} {wi : TI} {tt : TT} {vs : List Nat} {a : Addr} {xs : List V}
def ForK (J : It) (g : TG) (tb : TS) (D : Ends) (σ : L2.St) (H1 : Hp) : Prop := ∃ W : Nat → Nat → L2.St → Hp → Prop, (∃ m, W 0 m σ H1) ∧ ∀ i m σ H, W i m σ H →
  (J.stop i H ∧ D.nx σ H) ∨ (J.go i H ∧ ∃ N : L2.St → Hp → Prop, (∀ σ' H', N σ' H' → ∃ m', m' < m ∧ W (i + 1) m' σ' H') ∧ ∀ x H', J.yld i H x H' → g x σ H' fun σ2 H2 => tb { D with nx := N, ct := N, bk := D.nx } σ2 H2)
theorem i_for (h : wi σ H fun J H1 => ForK J g tb D σ H1) : tFor wi g tb D σ H := h
def RngK1 (vs : List V) (H : Hp) (R : It → Hp → Prop) : Prop := ∃ j : Int, vs = [.int j] ∧ -(2 ^ 62) ≤ j ∧ j < 2 ^ 62 ∧ R (Itr 0 j.toNat) H
def RngK2 (vs : List V) (H : Hp) (R : It → Hp → Prop) : Prop := ∃ i j : Int, vs = [.int i, .int j] ∧ (-(2 ^ 62) ≤ i ∧ i < 2 ^ 62 ∧ -(2 ^ 62) ≤ j ∧ j < 2 ^ 62) ∧ R (Itr i (j - i).toNat) H
theorem i_rng1 {R : It → Hp → Prop} (h : ar σ H fun vs H1 => RngK1 vs H1 R) : iRng1 ar σ H R := h
theorem i_rng2 {R : It → Hp → Prop} (h : ar σ H fun vs H1 => RngK2 vs H1 R) : iRng2 ar σ H R := h
theorem i_rngK1 {R : It → Hp → Prop} {j : Int} (c : -(2 ^ 62) ≤ j ∧ j < 2 ^ 62) (h : R (Itr 0 j.toNat) H) : RngK1 [.int j] H R := ⟨j, rfl, c.1, c.2, h⟩
theorem i_rngK2 {R : It → Hp → Prop} {i j : Int} (c : -(2 ^ 62) ≤ i ∧ i < 2 ^ 62 ∧ -(2 ^ 62) ≤ j ∧ j < 2 ^ 62) (h : R (Itr i (j - i).toNat) H) : RngK2 [.int i, .int j] H R := ⟨i, j, rfl, c, h⟩
def ListK (K : PySem.W.Frag) (x : V) (H : Hp) (R : It → Hp → Prop) : Prop := ∃ a, x = .ref a ∧ (∃ xs, SqL K H a xs) ∧ R (Itl K a) H
def TupK (K : PySem.W.Frag) (x : V) (H : Hp) (R : It → Hp → Prop) : Prop := ∃ a, x = .ref a ∧ (∃ xs, SqT K H a xs) ∧ R (Itt K a) H
theorem i_list {R : It → Hp → Prop} (h : tl σ H fun x H1 => ListK K x H1 R) : iList K tl σ H R := h
theorem i_tupI {R : It → Hp → Prop} (h : tl σ H fun x H1 => TupK K x H1 R) : iTup K tl σ H R := h
theorem i_listK {R : It → Hp → Prop} (c : SqL K H a xs) (h : R (Itl K a) H) : ListK K (.ref a) H R := ⟨a, rfl, ⟨xs, c⟩, h⟩
theorem i_tupK {R : It → Hp → Prop} (c : SqT K H a xs) (h : R (Itt K a) H) : TupK K (.ref a) H R := ⟨a, rfl, ⟨xs, c⟩, h⟩
/-- for k in range(n) -/
theorem f_rng {n : Nat} (Pv : Nat → L2.St → Hp → Prop) (h0 : Pv 0 σ H)
    (hs : ∀ i σ H, i < n → Pv i σ H → g (.int (i : Int)) σ H fun σ2 H2 => tb { D with nx := Pv (i + 1), ct := Pv (i + 1), bk := D.nx } σ2 H2) (hd : ∀ σ H, Pv n σ H → D.nx σ H) : ForK (Itr 0 n) g tb D σ H :=
  for_range (lo := 0) Pv h0 (fun i σ H hi hp => by have z := hs i σ H hi hp; simpa using z) hd
theorem f_rngL {lo : Int} {n : Nat} (Pv : Nat → L2.St → Hp → Prop) (h0 : Pv 0 σ H)
    (hs : ∀ i σ H, i < n → Pv i σ H → g (.int (lo + i)) σ H fun σ2 H2 => tb { D with nx := Pv (i + 1), ct := Pv (i + 1), bk := D.nx } σ2 H2) (hd : ∀ σ H, Pv n σ H → D.nx σ H) : ForK (Itr lo n) g tb D σ H :=
  for_range (lo := lo) Pv h0 hs hd
theorem f_list (Pv : Nat → L2.St → Hp → Prop) (h0 : Pv 0 σ H) (hl : ∀ i σ H, i ≤ xs.length → Pv i σ H → SqL K H a xs)
    (hs : ∀ i x σ H, xs[i]? = some x → Pv i σ H → g x σ H fun σ2 H2 => tb { D with nx := Pv (i + 1), ct := Pv (i + 1), bk := D.nx } σ2 H2) (hd : ∀ σ H, Pv xs.length σ H → D.nx σ H) : ForK (Itl K a) g tb D σ H :=
  for_list (xs := xs) Pv h0 hl hs hd
theorem f_tup (Pv : Nat → L2.St → Hp → Prop) (h0 : Pv 0 σ H) (hl : ∀ i σ H, i ≤ xs.length → Pv i σ H → SqT K H a xs)
    (hs : ∀ i x σ H, xs[i]? = some x → Pv i σ H → g x σ H fun σ2 H2 => tb { D with nx := Pv (i + 1), ct := Pv (i + 1), bk := D.nx } σ2 H2) (hd : ∀ σ H, Pv xs.length σ H → D.nx σ H) : ForK (Itt K a) g tb D σ H :=
  for_tup (xs := xs) Pv h0 hl hs hd
/-- a comprehension; Pv: the turn, the list so far, the heap -/
def LcK (J : It) (g : TG) (tt : TT) (te : TE) (vs : List Nat) (σ : L2.St) (H1 : Hp) (Q : VK) : Prop := ∀ D, H1 D = none → ∃ W : Nat → Nat → Hp → Prop, (∃ m, W 0 m (upd H1 D (.lst []))) ∧ ∀ i m H, W i m H →
  (J.stop i H ∧ Q (.ref D) H) ∨ (J.go i H ∧ ∃ Nx : Hp → Prop, (∀ H', Nx H' → ∃ m', m' < m ∧ W (i + 1) m' H') ∧ ∀ x H', J.yld i H x H' → g x (wipe σ vs) H' fun σ2 H2 => wipe σ2 vs = wipe σ vs ∧ tt σ2 H2 fun b H3 =>
    if b = true then te σ2 H3 fun y H4 => ∃ acc, H4 D = some (.lst acc) ∧ acc.length < sizeLine ∧ Nx (upd H4 D (.lst (acc ++ [y]))) else Nx H3)
theorem i_lc (h : wi σ H fun J H1 => LcK J g tt te vs σ H1 Q) : tLc wi g tt te vs σ H Q := h
theorem i_yes {QT : Bool → Hp → Prop} (h : QT true H) : tYes σ H QT := h
/-- the end of a turn of a comprehension -/
theorem i_lcN {D : Addr} {acc : List V} {y : V} {N : Hp → Prop} (e : H D = some (.lst acc)) (c : acc.length < 1000000) (h : N (upd H D (.lst (acc ++ [y])))) : ∃ acc, H D = some (.lst acc) ∧ acc.length < sizeLine ∧ N (upd H D (.lst (acc ++ [y]))) := ⟨acc, e, small_lt c, h⟩
theorem c_rng {n : Nat} (Pv : Addr → Nat → Hp → Prop) (h0 : ∀ D, H D = none → Pv D 0 (upd H D (.lst [])))
    (hs : ∀ D i H1, H D = none → i < n → Pv D i H1 → g (.int (i : Int)) (wipe σ vs) H1 fun σ2 H2 => wipe σ2 vs = wipe σ vs ∧ tt σ2 H2 fun b H3 =>
      if b = true then te σ2 H3 fun y H4 => ∃ acc, H4 D = some (.lst acc) ∧ acc.length < sizeLine ∧ Pv D (i + 1) (upd H4 D (.lst (acc ++ [y]))) else Pv D (i + 1) H3)
    (hd : ∀ D H1, H D = none → Pv D n H1 → Q (.ref D) H1) : LcK (Itr 0 n) g tt te vs σ H Q := fun D hD =>
  lc_range (lo := 0) (Pv D) (h0 D hD) (fun i H1 hi hp => by
    have z := hs D i H1 hD hi hp
    have e : (0 : Int) + (i : Int) = i := by omega
    rw [e]
    exact z) (fun H1 hp => hd D H1 hD hp)
theorem c_list (Pv : Addr → Nat → Hp → Prop) (h0 : ∀ D, H D = none → Pv D 0 (upd H D (.lst []))) (hl : ∀ D i H1, H D = none → i ≤ xs.length → Pv D i H1 → SqL K H1 a xs)
    (hs : ∀ D i x H1, H D = none → xs[i]? = some x → Pv D i H1 → g x (wipe σ vs) H1 fun σ2 H2 => wipe σ2 vs = wipe σ vs ∧ tt σ2 H2 fun b H3 =>
      if b = true then te σ2 H3 fun y H4 => ∃ acc, H4 D = some (.lst acc) ∧ acc.length < sizeLine ∧ Pv D (i + 1) (upd H4 D (.lst (acc ++ [y]))) else Pv D (i + 1) H3)
    (hd : ∀ D H1, H D = none → Pv D xs.length H1 → Q (.ref D) H1) : LcK (Itl K a) g tt te vs σ H Q := fun D hD =>
  lc_list (xs := xs) (Pv D) (h0 D hD) (fun i H1 hi hp => hl D i H1 hD hi hp) (fun i x H1 hi hp => hs D i x H1 hD hi hp) (fun H1 hp => hd D H1 hD hp)
theorem c_tup (Pv : Addr → Nat → Hp → Prop) (h0 : ∀ D, H D = none → Pv D 0 (upd H D (.lst []))) (hl : ∀ D i H1, H D = none → i ≤ xs.length → Pv D i H1 → SqT K H1 a xs)
    (hs : ∀ D i x H1, H D = none → xs[i]? = some x → Pv D i H1 → g x (wipe σ vs) H1 fun σ2 H2 => wipe σ2 vs = wipe σ vs ∧ tt σ2 H2 fun b H3 =>
      if b = true then te σ2 H3 fun y H4 => ∃ acc, H4 D = some (.lst acc) ∧ acc.length < sizeLine ∧ Pv D (i + 1) (upd H4 D (.lst (acc ++ [y]))) else Pv D (i + 1) H3)
    (hd : ∀ D H1, H D = none → Pv D xs.length H1 → Q (.ref D) H1) : LcK (Itt K a) g tt te vs σ H Q := fun D hD =>
  lc_tup (xs := xs) (Pv D) (h0 D hD) (fun i H1 hi hp => hl D i H1 hD hi hp) (fun i x H1 hi hp => hs D i x H1 hD hi hp) (fun H1 hp => hd D H1 hD hp)
end

/-! ### the head's facts: any that a program decides over the written part -/
abbrev Fx : Type := PySem.W.Frag → Bool
/-- a def: where it stands, its name, qualified name, parameters, body, scope, defaults -/
structure DefX where
  adr : PySem.W.Frag → Addr
  name : Str
  qual : Str
  params : Arguments
  body : List Stmt
  scope : Scope
  dfl : List He.Dv := []
def dX (adr : PySem.W.Frag → Addr) (name qual : Str) (st : Stmt) (dfl : List He.Dv := []) : DefX := ⟨adr, name, qual, defArgs st, defBody st, defScope st, dfl⟩
def fnX (K : PySem.W.Frag) (a : Addr) : He.FnW := match K.lookup a with
  | some ⟨_, _, .func fd, _⟩ => some (fd.name, fd.qualname, fd.params, fd.body, fd.scope, fd.globals, fd.closure, fd.builtins)
  | _ => none
def DefX.val (d : DefX) : He.FnW := some (d.name, d.qual, d.params, .stmts d.body, d.scope, mainGlobals, [], builtinsNs)
def DefX.dvs (K : PySem.W.Frag) (d : DefX) : List V := d.dfl.map (He.Dv.v K)
def DefX.ok (K : PySem.W.Frag) (d : DefX) : Bool := PySem.W.keepIn K (.ref (d.adr K)) && (match K.lookup (d.adr K) with
  | some ⟨_, _, .func fd, _⟩ => PySem.W.codeIn K fd.code d.qual && He.dflB K fd.defaults (d.dvs K)
  | _ => false)
theorem DefX.funD {K : PySem.W.Frag} {d : DefX} (e : fnX K (d.adr K) = d.val) (c : d.ok K = true) : ∃ fd, FunD K d.name d.qual d.params d.body d.scope (d.dvs K) [] (d.adr K) fd := by
  obtain ⟨kp, c2⟩ := He.ba c
  unfold fnX at e
  cases q : K.lookup (d.adr K) with
  | none =>
    rw [q] at c2
    cases c2
  | some o =>
    obtain ⟨oc, od, dt, osl⟩ := o
    rw [q] at c2 e
    cases dt with
    | func fd =>
      obtain ⟨n1, n2, n3, n4, n5, n6, n7, n8, n9, n10, n11, n12, n13, n14, n15⟩ := fd
      have e2 : (some (n1, n2, n3, n4, n5, n6, n7, n15) : He.FnW) = some (d.name, d.qual, d.params, .stmts d.body, d.scope, mainGlobals, [], builtinsNs) := e
      simp only [Option.some.injEq, Prod.mk.injEq] at e2
      obtain ⟨h1, h2, h3, h4, h5, h6, h7, h8⟩ := e2
      subst h1 h2 h3 h4 h5 h6 h7 h8
      obtain ⟨k1, k2⟩ := He.ba (show (PySem.W.codeIn K n13 d.qual && He.dflB K n8 (d.dvs K)) = true from c2)
      exact ⟨_, ⟨oc, od, n8, n9, n10, n11, n12, n13, n14, osl, rfl, q, k1, He.dflB_ok k2, .inl rfl⟩, kp⟩
    | _ => cases c2
abbrev AlX : Type := Bool × List He.FnW
def obsX (fs : List Fx) (fn : List DefX) (K : PySem.W.Frag) : AlX := ((fs.all fun f => f K) && fn.all fun d => d.ok K, fn.map fun d => fnX K (d.adr K))
def valX (fn : List DefX) : AlX := (true, fn.map DefX.val)
def SaysX (fs : List Fx) (fn : List DefX) (K : PySem.W.Frag) : Prop := obsX fs fn K = valX fn
/-- what the module's names reach, and the statics -/
def asX (n : Nat) (g : Addr → Option Obj) : List Addr := He.asD g n ++ [cStatics]
def obsXG (n : Nat) (fs : List Fx) (fn : List DefX) (g : Addr → Option Obj) : AlX := obsX fs fn (He.frG g (asX n g))
def hookX (n : Nat) (fs : List Fx) (fn : List DefX) : PySem.W.Hook where
  α := AlX
  obs := fun s => obsXG n fs fn s.heap.get?
  val := fun _ => valX fn
  says := fun _ h => ∃ K : PySem.W.Frag, K.In h ∧ SaysX fs fn K
  of := fun _ _ e => ⟨_, He.frG_in, e⟩
  keeps := fun _ _ _ ⟨K, hK, c⟩ k => ⟨K, PySem.W.Frag.In.keeps hK k, c⟩
theorem obsXG_eq {n : Nat} {fs : List Fx} {fn : List DefX} {g : Addr → Option Obj} {s : Shared} (h : ∀ a, g a = s.heap.get? a) : obsXG n fs fn g = (hookX n fs fn).obs s := by
  have e : g = s.heap.get? := funext h
  rw [e] <;> rfl
section
variable {fs : List Fx} {fn : List DefX} {K : PySem.W.Frag}
theorem SaysX.fact (c : SaysX fs fn K) (i : Nat) {f : Fx} (h : fs[i]? = some f := by rfl) : f K = true := by
  have c1 := (He.ba (show ((fs.all fun f => f K) && fn.all fun d => d.ok K) = true from congrArg (fun z : AlX => z.1) c)).1
  exact List.all_eq_true.mp c1 f (List.mem_of_getElem? h)
theorem SaysX.def_ (c : SaysX fs fn K) (i : Nat) {d : DefX} (h : fn[i]? = some d := by rfl) : ∃ fd, FunD K d.name d.qual d.params d.body d.scope (d.dvs K) [] (d.adr K) fd := by
  have c2 := (He.ba (show ((fs.all fun f => f K) && fn.all fun d => d.ok K) = true from congrArg (fun z : AlX => z.1) c)).2
  have e : fn.map (fun d => fnX K (d.adr K)) = fn.map DefX.val := congrArg (fun z : AlX => z.2) c
  have e2 : (fn.map fun d => fnX K (d.adr K))[i]? = (fn.map DefX.val)[i]? := by rw [e]
  rw [List.getElem?_map, List.getElem?_map, h] at e2
  exact DefX.funD (Option.some.inj e2) (List.all_eq_true.mp c2 d (List.mem_of_getElem? h))
end
/-! ### facts -/
def fFa (f : He.Fa) : Fx := fun K => f.ok K
def gA (x : Str) : PySem.W.Frag → Addr := fun K => He.ga K x
def mA (C m : Str) : PySem.W.Frag → Addr := fun K => He.ma K (He.ga K C) m
/-- the getter of a property -/
def pA (C m : Str) : PySem.W.Frag → Addr := fun K => match PySem.W.recIn K (mA C m K) "property" with
  | some (.ref g :: _) => g
  | _ => 0
def propB (C m : Str) : Fx := fun K => decide (PySem.W.findIn K (.ref (gA C K)) m = some (some (.ref (mA C m K)))) && (decide (PySem.W.specialIn K (.ref (mA C m K)) "__get__" = some (some (.builtin "property.__get__"))) && (decide (PySem.W.takesIn K (.ref (mA C m K)) = some true) &&
  (match PySem.W.recIn K (mA C m K) "property" with
  | some (.ref _ :: _) => true
  | _ => false)))
theorem propB_ok {K : PySem.W.Frag} {C m : Str} (h : propB C m K = true) : PropOf K (gA C K) m (mA C m K) (pA C m K) := by
  obtain ⟨h1, h⟩ := He.ba h
  obtain ⟨h2, h⟩ := He.ba h
  obtain ⟨h3, h4⟩ := He.ba h
  refine ⟨of_decide_eq_true h1, of_decide_eq_true h2, of_decide_eq_true h3, ?_⟩
  unfold pA
  cases q : PySem.W.recIn K (mA C m K) "property" with
  | none =>
    rw [q] at h4
    cases h4
  | some l =>
    rw [q] at h4
    match l, h4 with
    | .ref g :: r, _ => exact ⟨r, rfl⟩
/-! ### written constants: tuples at any depth -/
inductive Lit where
  | non | bl (b : Bool) | int (i : Int) | str (x : Str) | tup (ls : List Lit)
mutual
def litB (K : PySem.W.Frag) : Value → Lit → Bool
  | .none, .non => true
  | .bool b, .bl c => b == c
  | .int i _, .int j => decide (i = j)
  | .str x _, .str y => decide (x = y)
  | .ref a, .tup ls => (match K.lookup a with
    | some ⟨.type c, _, .seq its _, _⟩ => decide (c = "tuple") && (decide (its.size ≤ sizeLine) && litsB K its.toList ls)
    | _ => false)
  | _, _ => false
def litsB (K : PySem.W.Frag) : List Value → List Lit → Bool
  | [], [] => true
  | v :: vs, l :: ls => litB K v l && litsB K vs ls
  | _, _ => false
end
mutual
/-- v is, in the written part, the constant -/
def LitIs (K : PySem.W.Frag) : V → Lit → Prop
  | v, .non => v = .non
  | v, .bl b => v = .bl b
  | v, .int i => v = .int i
  | v, .str x => v = .str x
  | v, .tup ls => ∃ a xs, v = .ref a ∧ (∀ H, SqT K H a xs) ∧ LitsAre K xs ls
def LitsAre (K : PySem.W.Frag) : List V → List Lit → Prop
  | xs, [] => xs = []
  | xs, l :: ls => ∃ y ys, xs = y :: ys ∧ LitIs K y l ∧ LitsAre K ys ls
end
mutual
theorem litB_ok {K : PySem.W.Frag} : ∀ {l : Lit} {u : Value}, litB K u l = true → ∃ v, RelV v u ∧ LitIs K v l
  | .non, u, h => by
    cases u <;> first | exact ⟨.non, rfl, rfl⟩ | (simp [litB] at h)
  | .bl b, u, h => by
    cases u with
    | bool c =>
      have e : c = b := by simpa [litB] using h
      subst e
      exact ⟨.bl c, rfl, rfl⟩
    | _ => simp [litB] at h
  | .int i, u, h => by
    cases u with
    | int c t =>
      have e : c = i := by simpa [litB] using h
      subst e
      exact ⟨.int c, ⟨t, rfl⟩, rfl⟩
    | _ => simp [litB] at h
  | .str i, u, h => by
    cases u with
    | str c t =>
      have e : c = i := by simpa [litB] using h
      subst e
      exact ⟨.str c, ⟨t, rfl⟩, rfl⟩
    | _ => simp [litB] at h
  | .tup ls, u, h => by
    cases u with
    | ref a =>
      unfold litB at h
      cases q : K.lookup a with
      | none =>
        rw [q] at h
        cases h
      | some o =>
        obtain ⟨oc, od, dt, osl⟩ := o
        rw [q] at h
        cases oc with
        | type c =>
          cases dt with
          | seq its n =>
            obtain ⟨h1, h2⟩ := He.ba (show (decide (c = "tuple") && (decide (its.size ≤ sizeLine) && litsB K its.toList ls)) = true from h)
            obtain ⟨h3, h4⟩ := He.ba h2
            obtain ⟨xs, hv, hl⟩ := litsB_ok h4
            refine ⟨.ref a, rfl, a, xs, rfl, fun H => .inr ⟨_, its, n, q, congrArg Value.type (of_decide_eq_true h1), rfl, ?_⟩, hl⟩
            first | exact ⟨of_decide_eq_true h3, hv⟩ | exact ⟨rfl, of_decide_eq_true h3, hv⟩
          | _ => cases h
        | _ => cases dt <;> cases h
    | _ => simp [litB] at h
theorem litsB_ok {K : PySem.W.Frag} : ∀ {ls : List Lit} {us : List Value}, litsB K us ls = true → ∃ vs, Vals vs us ∧ LitsAre K vs ls
  | [], us, h => by
    cases us with
    | nil => exact ⟨[], .nil, rfl⟩
    | cons => simp [litsB] at h
  | l :: ls, us, h => by
    cases us with
    | nil => simp [litsB] at h
    | cons u us =>
      obtain ⟨h1, h2⟩ := He.ba (show (litB K u l && litsB K us ls) = true by simpa [litsB] using h)
      obtain ⟨v, r, i⟩ := litB_ok h1
      obtain ⟨vs, rs, is⟩ := litsB_ok h2
      exact ⟨v :: vs, .cons r rs, v, vs, rfl, i, is⟩
end
/-- the module's name x stands for the constant -/
def constB (x : Str) (l : Lit) : Fx := fun K => match PySem.W.nsIn K mainGlobals x with
  | some (some u) => litB K u l
  | _ => false
theorem const_ok {K : PySem.W.Frag} {h : Heap} {mg : Str → Option Value} (X : K.In h) (G : h.Ns mainGlobals mg) {x : Str} {l : Lit} (c : constB x l K = true) : ∃ v u, mg x = some u ∧ RelV v u ∧ LitIs K v l := by
  unfold constB at c
  cases q : PySem.W.nsIn K mainGlobals x with
  | none =>
    rw [q] at c
    cases c
  | some o =>
    rw [q] at c
    cases o with
    | none => cases c
    | some u =>
      obtain ⟨v, r, i⟩ := litB_ok (show litB K u l = true from c)
      exact ⟨v, u, PySem.W.mg_of X G q, r, i⟩

/-! ### classes: the attributes' names in order, a row of values -/
structure Kls (K : PySem.W.Frag) (x : Str) (ns : List Str) : Prop where
  cl : Cls K (gA x K)
  na : ∀ f ∈ ns, NoAttr K (gA x K) f
  nd : ns.Nodup
def klsB (x : Str) (ns : List Str) : Fx := fun K => (He.Fa.cls x).ok K && ((ns.all fun f => (He.Fa.noat x f).ok K) && decide ns.Nodup)
theorem klsB_ok {K : PySem.W.Frag} {x : Str} {ns : List Str} (h : klsB x ns K = true) : Kls K x ns := by
  obtain ⟨h1, h⟩ := He.ba h
  obtain ⟨h2, h3⟩ := He.ba h
  exact ⟨He.cls_ok h1, fun f hf => He.noat_ok (List.all_eq_true.mp h2 f hf), of_decide_eq_true h3⟩
structure CalA (P : Program) (w : World) (K : PySem.W.Frag) (mg : Str → Option Value) (base : Heap) (k : Nat) (a : Addr) (sp : Sp) : Prop where
  ex : ∃ (fd : FuncData) (ps : List Str), FnOk P w K mg base CX0 k a fd ps sp ∧ Binds K fd ps []
theorem zip_lookup {x : Str} {v : V} : ∀ {ns : List Str} {vs : List V} {i : Nat}, ns.Nodup → ns[i]? = some x → vs[i]? = some v → (ns.zip vs).lookup x = some v
  | [], _, _, _, h, _ => by simp at h
  | n :: ns, [], i, _, _, h => by simp at h
  | n :: ns, u :: vs, 0, hn, h, e => by
    obtain rfl : n = x := by simpa using h
    obtain rfl : u = v := by simpa using e
    simp [List.lookup]
  | n :: ns, u :: vs, i + 1, hn, h, e => by
    obtain ⟨h1, h2⟩ := List.nodup_cons.mp hn
    have h' : ns[i]? = some x := by simpa using h
    have ne : (x == n) = false := beq_eq_false_iff_ne.mpr fun z => h1 (z ▸ List.mem_of_getElem? h')
    show (match x == n with
      | true => some u
      | false => (ns.zip vs).lookup x) = some v
    rw [ne]
    exact zip_lookup h2 h' (by simpa using e)
theorem zip_none {x : Str} : ∀ {ns : List Str} {vs : List V}, x ∉ ns → (ns.zip vs).lookup x = none
  | [], _, _ => by simp
  | n :: ns, [], _ => by simp
  | n :: ns, u :: vs, h => by
    have ne : (x == n) = false := beq_eq_false_iff_ne.mpr fun z => h (by simp [z])
    show (match x == n with
      | true => some u
      | false => (ns.zip vs).lookup x) = none
    rw [ne]
    exact zip_none fun z => h (by simp [z])
theorem zip_put {x : Str} {v : V} : ∀ {ns : List Str} {vs : List V} {i : Nat}, ns.Nodup → ns[i]? = some x → i < vs.length → putF x v (ns.zip vs) = ns.zip (vs.set i v)
  | [], _, _, _, h, _ => by simp at h
  | n :: ns, [], i, _, _, h => by simp at h
  | n :: ns, u :: vs, 0, hn, h, e => by
    obtain rfl : n = x := by simpa using h
    simp [putF]
  | n :: ns, u :: vs, i + 1, hn, h, e => by
    obtain ⟨h1, h2⟩ := List.nodup_cons.mp hn
    have h' : ns[i]? = some x := by simpa using h
    have ne : ¬ n = x := fun z => h1 (by rw [z]; exact List.mem_of_getElem? h')
    show (if n = x then (n, v) :: ns.zip vs else (n, u) :: putF x v (ns.zip vs)) = _
    rw [if_neg ne, zip_put h2 h' (by simpa using e)]
    rfl
theorem zip_add {x : Str} {v : V} : ∀ {ns : List Str} {vs : List V}, ns.Nodup → ns[vs.length]? = some x → putF x v (ns.zip vs) = ns.zip (vs ++ [v])
  | [], _, _, h => by simp at h
  | n :: ns, [], hn, h => by
    obtain rfl : n = x := by simpa using h
    simp [putF]
  | n :: ns, u :: vs, hn, h => by
    obtain ⟨h1, h2⟩ := List.nodup_cons.mp hn
    have h' : ns[vs.length]? = some x := by simpa using h
    have ne : ¬ n = x := fun z => h1 (by rw [z]; exact List.mem_of_getElem? h')
    show (if n = x then (n, v) :: ns.zip vs else (n, u) :: putF x v (ns.zip vs)) = _
    rw [if_neg ne, zip_add h2 h']
    rfl
section
variable {K : PySem.W.Frag} {σ : L2.St} {H : Hp} {Q : VK} {D : Ends} {ta tv : TE} {ar : TA} {x f m : Str} {ns : List Str} {vs : List V} {v y : V} {p dx C : Addr} {sp : Sp}
def FldK (K : PySem.W.Frag) (x : V) (f : Str) (H1 : Hp) (Q : VK) : Prop := ∃ a C dx fs v, x = .ref a ∧ H1 a = some (.ins C dx fs) ∧ Cls K C ∧ NoAttr K C f ∧ fs.lookup f = some v ∧ Q v H1
theorem i_fld (h : ta σ H fun x H1 => FldK K x f H1 Q) : tFld K ta f σ H Q := h
theorem i_fldK (k : Kls K x ns) (e : H p = some (.ins (gA x K) dx (ns.zip vs))) (i : Nat) (hf : ns[i]? = some f) (hv : vs[i]? = some v) (h : Q v H) : FldK K (.ref p) f H Q :=
  ⟨p, _, dx, _, v, rfl, e, k.cl, k.na f (List.mem_of_getElem? hf), zip_lookup k.nd hf hv, h⟩
def PutK (K : PySem.W.Frag) (x y : V) (f : Str) (H2 : Hp) (R : Hp → Prop) : Prop := ∃ a C dx fs, x = .ref a ∧ H2 a = some (.ins C dx fs) ∧ Cls K C ∧ NoAttr K C f ∧ fs.length < 1000 ∧ R (upd H2 a (.ins C dx (putF f y fs)))
theorem i_sfld (h : tv σ H fun y H1 => ta σ H1 fun x H2 => PutK K x y f H2 fun H3 => D.nx σ H3) : sFld K ta tv f D σ H := h
theorem i_putK {R : Hp → Prop} (k : Kls K x ns) (e : H p = some (.ins (gA x K) dx (ns.zip vs))) (i : Nat) (hf : ns[i]? = some f) (hi : i < vs.length) (hl : ns.length ≤ 900) (h : R (upd H p (.ins (gA x K) dx (ns.zip (vs.set i y))))) : PutK K (.ref p) y f H R := by
  refine ⟨p, _, dx, _, rfl, e, k.cl, k.na f (List.mem_of_getElem? hf), ?_, ?_⟩
  · rw [List.length_zip]; omega
  · rw [zip_put k.nd hf hi]; exact h
theorem i_putN {R : Hp → Prop} (k : Kls K x ns) (e : H p = some (.ins (gA x K) dx (ns.zip vs))) (hf : ns[vs.length]? = some f) (hl : ns.length ≤ 900) (h : R (upd H p (.ins (gA x K) dx (ns.zip (vs ++ [y]))))) : PutK K (.ref p) y f H R := by
  refine ⟨p, _, dx, _, rfl, e, k.cl, k.na f (List.mem_of_getElem? hf), ?_, ?_⟩
  · rw [List.length_zip]; omega
  · rw [zip_add k.nd hf]; exact h
def MethK (C : Addr) (m : Str) (sp : Sp) (x : V) (ar : TA) (σ : L2.St) (H1 : Hp) (Q : VK) : Prop := ∃ a dx fs, x = .ref a ∧ H1 a = some (.ins C dx fs) ∧ fs.lookup m = none ∧ ar σ H1 fun vs H2 => sp (x :: (vs ++ [])) H2 Q E0
theorem i_meth (h : ta σ H fun x H1 => MethK C m sp x ar σ H1 Q) : tMeth C m sp [] E0 ta ar σ H Q := h
theorem i_methK (e : H p = some (.ins C dx (ns.zip vs))) (hm : m ∉ ns) (h : ar σ H fun vs H2 => sp (.ref p :: vs) H2 Q E0) : MethK C m sp (.ref p) ar σ H Q :=
  ⟨p, dx, _, rfl, e, zip_none hm, by simpa only [List.append_nil] using h⟩
theorem i_prop (h : ta σ H fun x H1 => ∃ a dx fs, x = .ref a ∧ H1 a = some (.ins C dx fs) ∧ sp [.ref a] H1 Q E0) : tProp C sp [] E0 ta σ H Q := h
theorem i_propK {fs : List (Str × V)} (e : H p = some (.ins C dx fs)) (h : sp [.ref p] H Q E0) : ∃ a dx fs, V.ref p = .ref a ∧ H a = some (.ins C dx fs) ∧ sp [.ref a] H Q E0 := ⟨p, dx, fs, rfl, e, h⟩
def MakeK (C : Addr) (sp : Sp) (vs : List V) (H1 : Hp) (Q : VK) : Prop := ∀ x dx, H1 x = none → H1 dx = none → dx ≠ x → sp (.ref x :: vs) (upd (upd H1 dx (.own x)) x (.ins C dx [])) (fun v H2 => v = .non ∧ Q (.ref x) H2) E0
theorem i_make (h : ar σ H fun vs H1 => MakeK C sp vs H1 Q) : tMake C sp [] E0 ar σ H Q := by
  show ar σ H fun vs H1 => MakeK C sp (vs ++ []) H1 Q
  simpa only [List.append_nil] using h
/-- a new instance: what was stands -/
theorem i_makeK {us : List V} (ns : List Str) (h : ∀ p dx H1, H p = none → H1 p = some (.ins C dx (ns.zip [])) → (∀ S, Keep S H H1) → sp (.ref p :: us) H1 (fun v H2 => v = .non ∧ Q (.ref p) H2) E0) : MakeK C sp us H Q := fun p dx hp hdx ne => by
  refine h p dx _ hp (by rw [upd_same, List.zip_nil_right]) fun S => ?_
  exact ((Keep.refl H).put (.inr hdx)).put (.inr hp)
/-! targets of several names -/
theorem i_gTup {n : Nat} {t : TGs} {QS : L2.St → Hp → Prop} (c : SqT K H p vs) (hl : vs.length = n) (h : t vs σ H QS) : gTup K n t (.ref p) σ H QS := ⟨p, vs, rfl, c, hl, h⟩
theorem i_gCons {t : TG} {u : TGs} {QS : L2.St → Hp → Prop} (h : t v σ H fun σ' H' => u vs σ' H' QS) : gCons t u (v :: vs) σ H QS := ⟨v, vs, rfl, h⟩
theorem i_gNil {QS : L2.St → Hp → Prop} (h : QS σ H) : gNil [] σ H QS := ⟨rfl, h⟩
theorem i_isB {a b : Bool} (h : Q (.bl (decide (a = b))) H) : rIsB (.bl a) (.bl b) H Q := ⟨a, b, rfl, rfl, h⟩
theorem i_notB {a b : Bool} (h : Q (.bl (!decide (a = b))) H) : rNotB (.bl a) (.bl b) H Q := ⟨a, b, rfl, rfl, h⟩
end
theorem const_tup {K : PySem.W.Frag} {h : Heap} {mg : Str → Option Value} (X : K.In h) (G : h.Ns mainGlobals mg) {x : Str} {ls : List Lit} (c : constB x (.tup ls) K = true) : mg x = some (.ref (He.ga K x)) ∧ LitIs K (.ref (He.ga K x)) (.tup ls) := by
  unfold constB at c
  cases q : PySem.W.nsIn K mainGlobals x with
  | none =>
    rw [q] at c
    cases c
  | some o =>
    rw [q] at c
    cases o with
    | none => cases c
    | some u =>
      obtain ⟨v, r, i⟩ := litB_ok (show litB K u (.tup ls) = true from c)
      obtain ⟨a, xs, e, h1, h2⟩ := id i
      subst e
      obtain rfl : u = Value.ref a := r
      have e : He.ga K x = a := by unfold He.ga; rw [q]
      rw [e]
      exact ⟨PySem.W.mg_of X G q, i⟩

/-! ### enumerate over a tuple; a list or a tuple walked -/
set_option maxHeartbeats 2000000 in
theorem meets_enum1 {v : Value} {ob : Obj} {Hc : Heap → Prop} (B : Begins v ob Hc) :
    Meets (Builtin.«enumerate.__new__» ⟨[.type "enumerate", v], []⟩) (fun _ R s => Hc s.heap ∧
      R (.ok (.ret (.ref (s.heap.push ob).objs.size))) { s with heap := (s.heap.push ob).push { cls := .type "enumerate", data := .fields #[.none, .bool false, .ref s.heap.objs.size, rawInt 0, .none, .none] } }) :=
  .of_wp fun pr wd A R s hh => by
    obtain ⟨hp, g, d, tk, os⟩ := s
    obtain ⟨hc, hh⟩ := hh
    have hsub := sub_enumerate
    have go : ∀ {A' : Around} {E : Value → Shared → Prop} {Q : Value → Shared → Prop}, Q (.ref hp.objs.size) ⟨hp.push ob, g, d, tk, os⟩ → wpAny (model pr wd) A' (pyIter v) Q E ⟨hp, g, d, tk, os⟩ := fun q => B.iter pr wd _ _ ⟨hp, g, d, tk, os⟩ _ hc q
    wp_walk using go
    refine wpAny_stack_any fun st => wpAny_pure ?_
    split
    · rename_i cc _ _ _ _ _
      cases (cc == Value.type "enumerate") <;> (wp_walk using go; exact ⟨_, rfl, hh⟩)
    · (wp_walk using go; exact ⟨_, rfl, hh⟩)
theorem call_enum1 {prog : Program} {w : World} {A : Around} {E : Value → Shared → Prop} {s : Shared} {v : Value} {ob : Obj} {Hc : Heap → Prop} {Q : Value → Shared → Prop} (B : Begins v ob Hc) (hc : Hc s.heap)
    (k : ∀ h', IsEnum h' (s.heap.objs.size + 1) s.heap.objs.size 0 .none → h'.get? s.heap.objs.size = some ob → (∀ b u, s.heap.get? b = some u → h'.get? b = some u) → Q (.ref (s.heap.objs.size + 1)) { s with heap := h' }) :
    wpAny (model prog w) A (call (.type "enumerate") [v]) Q E s := by
  refine callType_new F.called_enumerate (by decide) (F.typeCall_enumerate_1 _) (F.newCall_enumerate_1 _) (fun z => F.args_object_init_2 z _) F.entry_enumerate_new (meets_enum1 B) ⟨hc, ?_⟩
  have sz : (s.heap.push ob).objs.size = s.heap.objs.size + 1 := Heap.size_push ..
  show _ ∧ _
  rw [sz]
  have en : IsEnum ((s.heap.push ob).push { cls := .type "enumerate", data := .fields #[.none, .bool false, .ref s.heap.objs.size, rawInt 0, .none, .none] }) (s.heap.objs.size + 1) s.heap.objs.size 0 .none := by
    have z := Heap.get?_push_size (s.heap.push ob) (o := { cls := .type "enumerate", data := .fields #[.none, .bool false, .ref s.heap.objs.size, rawInt 0, .none, .none] }) rfl
    rw [sz] at z
    exact z
  exact ⟨⟨_, en, rfl⟩, k _ en (Heap.get?_push_of_some _ (Heap.get?_push_size _ B.free)) fun b u x => Heap.get?_push_of_some _ (Heap.get?_push_of_some _ x)⟩
theorem enum_endT {prog : Program} {w : World} {A : Around} {E : Value → Shared → Prop} {s : Shared} {e it a : Addr} {c : Int} {i : Nat} {its : Array Value} {old : Value} {Q : Option Value → Shared → Prop} (hh : A.handled = none) (he : IsEnum s.heap e it c old)
    (hit : s.heap.IsTupleIter it a i) (ht : s.heap.IsTuple a its) (hx : its[i]? = none) (k : ∀ h', Heap.ExtBut it s.heap h' → Q none { s with heap := h' }) : wpAny (model prog w) A (pyNext (.ref e)) Q E s := by
  have ty : s.TypeIs (.ref e) "enumerate" := ⟨_, he, rfl⟩
  unfold pyNext
  refine wpAny_bind (wpAny_attempt (wpAny_callSpecial?_slot (name := Str.ofString "__next__") ty F.slot_enumerate_next (wpAny_call_entry F.slot_enumerate_next ty F.entry_enumerate_next ?_ (F.args_enumerate_next_1 _))))
  show wpAny _ _ (field (.ref e) 2 >>= _) _ _ _
  refine wpAny_bind (wpAny_field he rfl (x := .ref it) rfl (wpAny_bind (wpAny_nextOf_tuple_end hh hit ht hx fun h' z ex st => ?_)))
  obtain ⟨o, ho, hc⟩ := st
  exact wpAny_bind (wpAny_isInstance (T := "StopIteration") (b := true) ⟨o, ho, hc⟩ isSubtype_stop (wpAny_pure (k _ ex)))
/-- the tuple at a as it stands at each turn, each item in a new pair -/
def IteT (K : PySem.W.Frag) (a : Addr) : It :=
  ⟨fun i H => ∃ (xs : List V) (x : V), SqT K H a xs ∧ xs[i]? = some x, fun i H v H' => ∃ T x, v = .ref T ∧ H T = none ∧ H' = upd H T (.tup [.int (i : Nat), x]) ∧ ∀ xs, SqT K H a xs → xs[i]? = some x, fun i H => ∃ xs : List V, SqT K H a xs ∧ xs.length ≤ i⟩
theorem turn_enumT {P : Program} {w : World} {K : PySem.W.Frag} {elts : List Expr} {kk : Nat} {tpos : Pos} (a e it : Addr) (hae : a ≠ e) (hai : a ≠ it) :
    Turn P w K (.Tuple elts kk tpos) (IteT K a) [e, it] e (fun i h => (∃ old, IsEnum h e it ((i : Nat) : Int) old) ∧ h.IsTupleIter it a i ∧ e ≠ it) where
  mem := by simp
  obj := fun i h st b hb => by
    obtain ⟨⟨old, he⟩, ⟨o, ho, hc, hd⟩, _⟩ := st
    rcases (show b = e ∨ b = it by simpa using hb) with rfl | rfl
    · exact ⟨_, he, fun v q => nomatch q⟩
    · exact ⟨o, ho, fun v q => by rw [hd] at q; cases q⟩
  keep := fun i h h' st k => by
    obtain ⟨⟨old, he⟩, hi, hne⟩ := st
    exact ⟨⟨old, k e (by simp) _ he⟩, hi.at fun o q => k it (by simp) o q, hne⟩
  item := by
    intro X hP hw hK hc i pins s σ H E I hf st hg
    subst hP hw hK
    obtain ⟨⟨old, he⟩, hit, hne⟩ := st
    obtain ⟨xs, x, hq, hx⟩ := hg
    obtain ⟨its, rv, p, hz⟩ := I.tuple hq
    obtain ⟨u, hu, ru⟩ := rv.get hx
    have tup : s.heap.IsTuple a its.toArray := p
    have lte : e < s.heap.objs.size := Heap.lt_size he
    have lti : it < s.heap.objs.size := by obtain ⟨_, q, _⟩ := hit; exact Heap.lt_size q
    have hlt : i < its.toArray.size := by
      have z := (List.getElem?_eq_some_iff.mp hu).1
      simpa using z
    refine wpAny_pyNext_enum_itemD (Draws.tuple (A := X.A.in1) (I.ok.hd hc) it a hai its.toArray) he ⟨hit, tup⟩ hlt hne (by simp [hne, hae.symm]) fun x' h' tk hx' ho st' hT hsz hk => ?_
    obtain rfl : x' = u := by
      have z : its[i]? = some x' := by simpa using hx'
      rw [hu] at z
      exact (Option.some.inj z).symm
    refine ⟨_, rfl, wpAny_letOwnedTupleGo_enum (s := { s with heap := h', toks := tk + 1 }) ho fun h'' he' sb => ?_⟩
    have hT2 := (sb.2 _ (Nat.ne_of_gt lte)).trans hT
    have new : ObjOk X.prog X.w (upd H s.heap.objs.size (.tup [.int (i : Nat), x])) h'' s.heap.objs.size (.tup [.int (i : Nat), x]) :=
      ⟨small_of (by show 2 ≤ 1000000; decide), _, .cons ⟨_, rfl⟩ (.cons ru .nil), ⟨_, hT2, rfl, _, rfl⟩⟩
    have far : ∀ b, b ∈ [e, it] → b < s.heap.objs.size := fun b hb => by
      rcases (show b = e ∨ b = it by simpa using hb) with rfl | rfl
      · exact lte
      · exact lti
    have I1 : Inv X pins σ (upd H s.heap.objs.size (.tup [.int (i : Nat), x])) { s with heap := h'', toks := tk + 1 } :=
      I.turnedNew (ch := [e, it]) (fun b ob hb q => (sb.2 b (fun z => hb (by simp [z]))).trans (hk b ob (fun z => hb (by simp [z])) (fun z => hb (by simp [z])) q)) hf (Nat.le_refl _) new
    refine ⟨.ref s.heap.objs.size, _, I1, rfl, ⟨_, x, rfl, I.hok.fresh (Nat.le_refl _), rfl, fun ys hy => by rw [I.tuple_inj hy hq]; exact hx⟩, ⟨⟨x', ?_⟩, st'.1.at fun o q => (sb.2 it (Ne.symm hne)).trans q, hne⟩, fun b hb => ?_⟩
    · have z : ((i + 1 : Nat) : Int) = (i : Int) + 1 := by omega
      rw [z]
      exact he'
    · rw [upd_ne (Nat.ne_of_lt (far b hb))]
      exact (hf b hb).1
  done := by
    intro X hP hw hK hc i pins s σ H E I hf st hg
    subst hP hw hK
    obtain ⟨⟨old, he⟩, hit, hne⟩ := st
    obtain ⟨xs, hq, hx⟩ := hg
    obtain ⟨its, rv, p, hz⟩ := I.tuple hq
    have tup : s.heap.IsTuple a its.toArray := p
    obtain ⟨f0, f1, f2, f3, f4, f5⟩ := hf it (by simp)
    have hl := rv.length
    exact enum_endT (I.ok.hd hc) he hit tup (by simp; omega) fun h' eb => ⟨rfl, I.turned (t' := s.toks) (fun b o hb q => eb b o hb q) f0 f1 f3 f4 f5⟩
  self := fun A i s Q E st h => let ⟨⟨_, he⟩, _⟩ := st; wpAny_pyIter_enum he h
/-- what a for walks: one way or another -/
theorem PI.or {X : Cx} {tg e : Expr} {wi wj : TI} (h1 : PI X tg e wi) (h2 : PI X tg e wj) : PI X tg e (fun σ H R => wi σ H R ∨ wj σ H R) := ⟨fun pins s σ H R I h => by
  rcases h with h | h
  · exact h1.run pins s σ H R I h
  · exact h2.run pins s σ H R I h⟩
def iSeq (K : PySem.W.Frag) (tl : TE) : TI := fun σ H R => iList K tl σ H R ∨ iTup K tl σ H R
theorem pi_seq {X : Cx} {tg l : Expr} {tl : TE} (hl : PE X l tl) : PI X tg l (iSeq X.K tl) := PI.or (pi_list hl) (pi_tup hl)
def iEnumT (K : PySem.W.Frag) (ta : TA) : TI := fun σ H R => ta σ H fun vs H1 => ∃ a xs, vs = [.ref a] ∧ SqT K H1 a xs ∧ R (IteT K a) H1
theorem pi_enumT {X : Cx} {e : Expr} {ta : TA} {p pos tpos : Pos} {elts : List Expr} {kk : Nat} (hg : Gl X "enumerate") (hm : X.mg "enumerate" = none) (ha : PA X [e] ta) (hs : starEach [e] X.env = [(false, eval e X.env)] := by rfl) :
    PI X (.Tuple elts kk tpos) (.Call (.Name "enumerate" p) [e] [] pos) (iEnumT X.K ta) := by
  refine ⟨fun pins s σ H R I h => ?_⟩
  refine Call_ (ld_blt I hg hm boot_enumerate (PyProof.Rows.callWith_type1 (thn (ha.run pos pins s σ H _ I h) fun us s1 ⟨vs, H1, I1, r1, a, xs, ex, hq, q⟩ => ?_) hs rfl))
  subst ex
  cases r1 with
  | cons r rr =>
    cases rr
    cases r
    obtain ⟨its, rv, p', hz⟩ := I1.tuple hq
    have tup : s1.heap.IsTuple a its.toArray := p'
    have lta : a < s1.heap.objs.size := by obtain ⟨_, q, _⟩ := tup; exact Heap.lt_size q
    refine call_enum1 (begins_tuple a its.toArray) tup fun h' he hit hk => wpAny_pyIter_enum he ?_
    have I2 : Inv X pins σ H1 { s1 with heap := h' } := I1.kept (t' := s1.toks) hk
    refine ⟨s1.heap.objs.size + 1, [s1.heap.objs.size + 1, s1.heap.objs.size], _, _, H1, rfl, I2, turn_enumT a (s1.heap.objs.size + 1) s1.heap.objs.size (Nat.ne_of_lt (Nat.lt_succ_of_lt lta)) (Nat.ne_of_lt lta), ⟨⟨.none, he⟩, ⟨_, hit, rfl, rfl⟩, Nat.succ_ne_self _⟩, fun b hb => ?_, q⟩
    have le : s1.heap.objs.size ≤ b := by
      rcases (show b = s1.heap.objs.size + 1 ∨ b = s1.heap.objs.size by simpa using hb) with z | z
      · rw [z]; exact Nat.le_add_right _ _
      · rw [z]; exact Nat.le_refl _
    exact I1.fpOk le (I1.hok.fresh le)
def iEnumQ (K : PySem.W.Frag) (ta : TA) : TI := fun σ H R => iEnum K ta σ H R ∨ iEnumT K ta σ H R
theorem pi_enumQ {X : Cx} {e : Expr} {ta : TA} {p pos tpos : Pos} {elts : List Expr} {kk : Nat} (hg : Gl X "enumerate") (hm : X.mg "enumerate" = none) (ha : PA X [e] ta) (hs : starEach [e] X.env = [(false, eval e X.env)] := by rfl) :
    PI X (.Tuple elts kk tpos) (.Call (.Name "enumerate" p) [e] [] pos) (iEnumQ X.K ta) := PI.or (pi_enum hg hm ha hs) (pi_enumT hg hm ha hs)
section
variable {K : PySem.W.Frag} {σ : L2.St} {H H0 : Hp} {D : Ends} {g : TG} {tb : TS} {a : Addr} {xs : List V} {S : List Addr} {n : Nat}
/-- a walk of a list or a tuple that stays -/
theorem i_seqFor (e : σ[n]? = some (some (.ref a))) (hq : SqL K H0 a xs ∨ SqT K H0 a xs) (na : a ∉ S) (Pv : Nat → L2.St → Hp → Prop) (hk : ∀ i σ H1, Pv i σ H1 → Keep S H0 H1) (h0 : Pv 0 σ H)
    (hs : ∀ i x σ H1, xs[i]? = some x → Pv i σ H1 → g x σ H1 fun σ2 H2 => tb { D with nx := Pv (i + 1), ct := Pv (i + 1), bk := D.nx } σ2 H2) (hd : ∀ σ H1, Pv xs.length σ H1 → D.nx σ H1) : tFor (iSeq K (tVar n)) g tb D σ H := by
  rcases hq with h | h
  · exact .inl ⟨_, e, a, rfl, ⟨xs, (hk 0 σ H h0).sqL na h⟩, for_list Pv h0 (fun i σ H1 _ hp => (hk i σ H1 hp).sqL na h) hs hd⟩
  · exact .inr ⟨_, e, a, rfl, ⟨xs, (hk 0 σ H h0).sqT na h⟩, for_tup Pv h0 (fun i σ H1 _ hp => (hk i σ H1 hp).sqT na h) hs hd⟩
theorem i_enumFor (e : σ[n]? = some (some (.ref a))) (hq : SqL K H0 a xs ∨ SqT K H0 a xs) (na : a ∉ S) (Pv : Nat → L2.St → Hp → Prop) (hk : ∀ i σ H1, Pv i σ H1 → Keep S H0 H1) (h0 : Pv 0 σ H)
    (hs : ∀ i x σ H1 T H2, xs[i]? = some x → Pv i σ H1 → NewAt H1 T (.tup [.int (i : Nat), x]) H2 → g (.ref T) σ H2 fun σ2 H3 => tb { D with nx := Pv (i + 1), ct := Pv (i + 1), bk := D.nx } σ2 H3) (hd : ∀ σ H1, Pv xs.length σ H1 → D.nx σ H1) : tFor (iEnumQ K (tCons (tVar n) tNil)) g tb D σ H := by
  rcases hq with h | h
  · refine .inl ⟨_, e, a, xs, rfl, (hk 0 σ H h0).sqL na h, ?_⟩
    refine ⟨fun i m σ H1 => m = xs.length - i ∧ i ≤ xs.length ∧ Pv i σ H1, ⟨xs.length, by simp, Nat.zero_le _, h0⟩, ?_⟩
    rintro i m σ H1 ⟨rfl, hi, p⟩
    have q := (hk i σ H1 p).sqL na h
    by_cases hlt : i < xs.length
    · refine .inr ⟨⟨xs, xs[i], q, by simp [hlt]⟩, Pv (i + 1), fun σ' H' p' => ⟨xs.length - (i + 1), by omega, rfl, hlt, p'⟩, fun x H' y => ?_⟩
      obtain ⟨T, z, rfl, hT, rfl, hz⟩ := y
      exact hs i z σ H1 T _ (hz xs q) p (.mk' hT)
    · obtain rfl : i = xs.length := by omega
      exact .inl ⟨⟨xs, q, Nat.le_refl _⟩, hd σ H1 p⟩
  · refine .inr ⟨_, e, a, xs, rfl, (hk 0 σ H h0).sqT na h, ?_⟩
    refine ⟨fun i m σ H1 => m = xs.length - i ∧ i ≤ xs.length ∧ Pv i σ H1, ⟨xs.length, by simp, Nat.zero_le _, h0⟩, ?_⟩
    rintro i m σ H1 ⟨rfl, hi, p⟩
    have q := (hk i σ H1 p).sqT na h
    by_cases hlt : i < xs.length
    · refine .inr ⟨⟨xs, xs[i], q, by simp [hlt]⟩, Pv (i + 1), fun σ' H' p' => ⟨xs.length - (i + 1), by omega, rfl, hlt, p'⟩, fun x H' y => ?_⟩
      obtain ⟨T, z, rfl, hT, rfl, hz⟩ := y
      exact hs i z σ H1 T _ (hz xs q) p (.mk' hT)
    · obtain rfl : i = xs.length := by omega
      exact .inl ⟨⟨xs, q, Nat.le_refl _⟩, hd σ H1 p⟩
end

local macro_rules | `(tactic| walk_at "s1") => `(tactic| first
  | with_reducible refine i_seq ?_
  | with_reducible refine i_asg ?_
  | ((with_reducible refine i_var (v := ?kv) ?ke ?kh); (case ke => rfl))
  | with_reducible refine i_c ?_
  | with_reducible refine i_op ?_
  | with_reducible refine i_un ?_
  | with_reducible refine i_cons ?_
  | with_reducible refine i_nil ?_
  | with_reducible refine i_call ?_
  | with_reducible refine i_cb ?_
  | with_reducible refine i_test ?_
  | with_reducible refine i_tB ?_
  | with_reducible refine i_ex ?_
  | with_reducible refine i_ifS ?_
  | with_reducible refine i_T ?_
  | with_reducible refine i_F ?_
  | with_reducible refine i_NT ?_
  | with_reducible refine i_NF ?_
  | with_reducible refine i_NN ?_
  | with_reducible refine i_ret ?_
  | with_reducible refine i_retN ?_
  | with_reducible refine i_drop ?_
  | with_reducible refine i_next ?_
  | with_reducible refine i_and ?_
  | with_reducible refine i_or ?_
  | with_reducible refine i_not ?_
  | with_reducible refine i_andV ?_
  | with_reducible refine i_orV ?_
  | with_reducible refine i_notV ?_
  | with_reducible refine i_chain ?_
  | with_reducible refine i_if ?_
  | with_reducible refine i_lst ?_
  | with_reducible refine i_tup ?_
  | with_reducible refine i_append ?_
  | with_reducible refine i_extend ?_
  | with_reducible refine i_sl ?_
  | with_reducible refine i_noPart ?_
  | with_reducible refine i_part ?_
  | with_reducible refine i_partI ?_
  | with_reducible refine i_asgG ?_
  | with_reducible refine i_gSub ?_
  | with_reducible refine i_for ?_
  | with_reducible refine i_rng1 ?_
  | with_reducible refine i_rng2 ?_
  | with_reducible refine i_list ?_
  | with_reducible refine i_tupI ?_
  | with_reducible refine i_lc ?_
  | with_reducible refine i_yes ?_
  | ((with_reducible refine i_rngK1 ?_ ?_); (first | decide | omega))
  | ((with_reducible refine i_rngK2 ?_ ?_); (first | decide | omega))
  | with_reducible refine i_gName ?_
  | with_reducible refine i_add ?_
  | with_reducible refine i_sub ?_
  | with_reducible refine i_lt ?_
  | with_reducible refine i_le ?_
  | with_reducible refine i_gt ?_
  | with_reducible refine i_ge ?_
  | with_reducible refine i_neg ?_
  | with_reducible refine i_eqI ?_
  | with_reducible refine i_neI ?_
  | with_reducible refine i_neB ?_
  | with_reducible refine i_eqB ?_
  | with_reducible refine i_eqS ?_
  | with_reducible refine i_neS ?_
  | with_reducible refine i_isN ?_
  | with_reducible refine i_notN ?_
  | with_reducible refine i_abs ?_
  | with_reducible refine i_int1 ?_
  | with_reducible refine i_int1b ?_
  | with_reducible refine i_max2 ?_
  | with_reducible refine i_band ?_
  | ((with_reducible refine i_div ?_ ?_); (first | decide | omega))
  | ((with_reducible refine i_mod ?_ ?_); (first | decide | omega))
  | ((with_reducible refine i_pow ?_ ?_); (first | decide | omega))
  | ((with_reducible refine i_mulL ?_ ?_); (first | decide | omega))
  | ((with_reducible refine i_mulR ?_ ?_); (first | decide | omega))
  | ((with_reducible refine i_newL ?_ ?_); (exact Nat.le_of_ble_eq_true rfl))
  | ((with_reducible refine i_newT ?_ ?_); (exact Nat.le_of_ble_eq_true rfl)))
local macro_rules | `(tactic| walk_at "go") => `(tactic| repeat (walk_at "s1"))
local macro_rules | `(tactic| walk_at "D") => `(tactic| first
  | ((with_reducible apply i_D); all_goals intro)
  | ((with_reducible apply i_ND); all_goals intro)
  | ((with_reducible apply i_B); all_goals intro))
local macro_rules | `(tactic| walk_at "s1") => `(tactic| first
  | with_reducible refine i_fld ?_
  | with_reducible refine i_sfld ?_
  | with_reducible refine i_meth ?_
  | with_reducible refine i_prop ?_
  | with_reducible refine i_make ?_
  | with_reducible refine i_gCons ?_
  | with_reducible refine i_gNil ?_
  | with_reducible refine i_isB ?_
  | with_reducible refine i_notB ?_)
/-! ### the law's draws -/
def sp__law_cell (K : PySem.W.Frag) : Sp := fun vs H Q _ => ∃ (a : Addr) (ns : List Int) (k : Int), vs = [.ref a, .int k] ∧ SqL K H a (ns.map V.int) ∧ 0 ≤ k ∧ ∀ z, Q (.int z) H
def sp__law_numbers (K : PySem.W.Frag) : Sp := fun vs H Q _ => ∃ (c : Int) (m : Nat), vs = [.int c, .int m] ∧ m ≤ 1000 ∧ ∀ (p : Addr) (ns : List Int) (H1 : Hp), ns.length = m → NewAt H p (.lst (ns.map V.int)) H1 → Q (.ref p) H1
/-- the law's own state: its list, the list of its numbers, the script -/
structure Pst where
  p : Addr
  nl : Addr
  sc : Addr
instance : Coe Pst Addr := ⟨Pst.p⟩
/-- the script stands -/
def Scr (K : PySem.W.Frag) (p : Pst) (ns : List Int) (H : Hp) : Prop := (Rd H p.sc (.lst (ns.map V.int)) ∧ p.sc ≠ p.p) ∨ ∀ H', SqL K H' p.sc (ns.map V.int)
theorem Scr.sq {K : PySem.W.Frag} {p : Pst} {ns : List Int} {H : Hp} (h : Scr K p ns H) : SqL K H p.sc (ns.map V.int) := by
  rcases h with h | h
  · exact .inl h.1
  · exact h H
theorem Scr.keep {K : PySem.W.Frag} {p : Pst} {ns : List Int} {H H1 : Hp} (h : Scr K p ns H) (k : Keep [p] H H1) : Scr K p ns H1 := by
  rcases h with h | h
  · exact .inl ⟨k.rd (by simpa using h.2) h.1, h.2⟩
  · exact .inr h
/-- the law's own state stands at p -/
structure Dr (K : PySem.W.Frag) (p : Pst) (left last : Int) (H : Hp) : Prop where
  ex : ∃ (at_ : Int) (nums ns : List Int), H p = some (.lst [.ref p.nl, .int at_, .int left, .ref p.sc, .int last]) ∧ 0 ≤ at_ ∧ H p.nl = some (.lst (nums.map V.int)) ∧ nums.length = 120 ∧ p.nl ≠ p ∧ Scr K p ns H
def sp__law_state (K : PySem.W.Frag) : Sp := fun vs H Q _ => ∃ (a : Addr) (ns : List Int) (left : Int), vs = [.ref a, .int left] ∧ SqL K H a (ns.map V.int) ∧ ∀ (p : Pst) H1, H p = none → (∀ S, Keep S H H1) → Dr K p left 3 H1 → Q (.ref p) H1
def sp__law_next (K : PySem.W.Frag) : Sp := fun vs H Q _ => ∃ (p : Pst) (left last m : Int), vs = [.ref p, .int m] ∧ 0 < m ∧ Dr K p left last H ∧ ∀ r H1, 0 ≤ r → r < m → Dr K p left last H1 → Keep [p] H H1 → Q (.int r) H1
def sp__law_big (K : PySem.W.Frag) : Sp := sp__law_next K
/-! _law_cell(_law_script, _law_k) : _law_script=0 _law_k=1 -/
def N__law_cell : List Str := ["_law_script", "_law_k"]
-- sp__law_cell
def t__law_cell_0a_0 (K : PySem.W.Frag) : TS := (tRet (tOp (rIxL K) (tVar 0) (tVar 1)))
def t__law_cell_1 (K : PySem.W.Frag) : TS := (tRet (tC (.int 0)))
def t__law_cell_0 (K : PySem.W.Frag) : TS := tSeq (tIfS (tTest (tOp rLtI (tVar 1) (tCB (rLenQ K) (tCons (tVar 0) tNil)))) (t__law_cell_0a_0 K) tNext) (t__law_cell_1 K)
/-! _law_numbers(_law_cell_here, _law_many) : _law_cell_here=0 _law_many=1 _law_rest=2 _law_size=3 _law_numbers_here=4 _law_k=5 _law_mixed=6 -/
def N__law_numbers : List Str := ["_law_cell_here", "_law_many", "_law_rest", "_law_size", "_law_numbers_here", "_law_k", "_law_mixed"]
-- sp__law_numbers
def t__law_numbers_3a_0a_1 (K : PySem.W.Frag) : TS := (tAsg (tOp rDivI (tVar 2) (tC (.int 1000))) (gName 2))
def t__law_numbers_3a_0a_0 (K : PySem.W.Frag) : TS := tSeq (tDrop (tBM K "list" rAppend (tVar 4) (tCons (tOp rModI (tCB rInt1 (tCons (tVar 2) tNil)) (tC (.int 1000))) tNil))) (t__law_numbers_3a_0a_1 K)
def t__law_numbers_3a_0b_2 (K : PySem.W.Frag) : TS := (tDrop (tBM K "list" rAppend (tVar 4) (tCons (tOp rModI (tCB rInt1 (tCons (tOp rDivI (tVar 6) (tC (.int 7))) tNil)) (tC (.int 1000))) tNil)))
def t__law_numbers_3a_0b_1 (K : PySem.W.Frag) : TS := tSeq (tAsg (tOp rModI (tCB rInt1 (tCons (tOp rAddI (tOp rAddI (tOp rMulI (tVar 6) (tVar 6)) (tOp rMulI (tC (.int 40692)) (tVar 5))) (tC (.int 3))) tNil)) (tC (.int 2147483629))) (gName 6)) (t__law_numbers_3a_0b_2 K)
def t__law_numbers_3a_0b_0 (K : PySem.W.Frag) : TS := tSeq (tAsg (tOp rModI (tCB rInt1 (tCons (tOp rAddI (tOp rAddI (tOp rMulI (tVar 3) (tC (.int 48271))) (tOp rMulI (tVar 5) (tC (.int 69621)))) (tC (.int 11))) tNil)) (tC (.int 2147483647))) (gName 6)) (t__law_numbers_3a_0b_1 K)
def t__law_numbers_3a_0 (K : PySem.W.Frag) : TS := (tIfS (tAnd (tTest (tOp rGeI (tVar 3) (tOp rPowI (tC (.int 10)) (tC (.int 18))))) (tTest (tOp rGtI (tVar 2) (tC (.int 0))))) (t__law_numbers_3a_0a_0 K) (t__law_numbers_3a_0b_0 K))
def t__law_numbers_4 (K : PySem.W.Frag) : TS := (tRet (tVar 4))
def t__law_numbers_3 (K : PySem.W.Frag) : TS := tSeq (tFor (iRng1 (tCons (tVar 1) tNil)) (gName 5) (t__law_numbers_3a_0 K)) (t__law_numbers_4 K)
def t__law_numbers_2 (K : PySem.W.Frag) : TS := tSeq (tAsg (tLst tNil) (gName 4)) (t__law_numbers_3 K)
def t__law_numbers_1 (K : PySem.W.Frag) : TS := tSeq (tAsg (tVar 2) (gName 3)) (t__law_numbers_2 K)
def t__law_numbers_0 (K : PySem.W.Frag) : TS := tSeq (tAsg (tCB rAbs (tCons (tVar 0) tNil)) (gName 2)) (t__law_numbers_1 K)
/-! _law_state(_law_script, _law_left) : _law_script=0 _law_left=1 _law_numbers_here=2 _law_parted=3 _law_k=4 -/
def N__law_state : List Str := ["_law_script", "_law_left", "_law_numbers_here", "_law_parted", "_law_k"]
-- sp__law_state
def t__law_state_2a_2 (K : PySem.W.Frag) : TS := (tDrop (tBM K "list" rAppend (tVar 2) (tCons (tOp (rIxL K) (tOp (rIxL K) (tVar 3) (tC (.int 2))) (tVar 4)) tNil)))
def t__law_state_2a_1 (K : PySem.W.Frag) : TS := tSeq (tDrop (tBM K "list" rAppend (tVar 2) (tCons (tOp (rIxL K) (tOp (rIxL K) (tVar 3) (tC (.int 1))) (tVar 4)) tNil))) (t__law_state_2a_2 K)
def t__law_state_2a_0 (K : PySem.W.Frag) : TS := tSeq (tDrop (tBM K "list" rAppend (tVar 2) (tCons (tOp (rIxL K) (tOp (rIxL K) (tVar 3) (tC (.int 0))) (tVar 4)) tNil))) (t__law_state_2a_1 K)
def t__law_state_3 (K : PySem.W.Frag) : TS := (tRet (tLst (tCons (tVar 2) (tCons (tC (.int 0)) (tCons (tVar 1) (tCons (tVar 0) (tCons (tC (.int 3)) tNil)))))))
def t__law_state_2 (K : PySem.W.Frag) : TS := tSeq (tFor (iRng1 (tCons (tC (.int 40)) tNil)) (gName 4) (t__law_state_2a_0 K)) (t__law_state_3 K)
def t__law_state_1 (K : PySem.W.Frag) : TS := tSeq (tAsg (tLc (iRng1 (tCons (tC (.int 3)) tNil)) (gName 4) tYes (tCall (sp__law_numbers K) [] E0 (tCons (tCall (sp__law_cell K) [] E0 (tCons (tVar 0) (tCons (tVar 4) tNil))) (tCons (tC (.int 40)) tNil))) [4]) (gName 3)) (t__law_state_2 K)
def t__law_state_0 (K : PySem.W.Frag) : TS := tSeq (tAsg (tLst tNil) (gName 2)) (t__law_state_1 K)
/-! _law_next(_law_state_here, _law_many) : _law_state_here=0 _law_many=1 _law_at=2 -/
def N__law_next : List Str := ["_law_state_here", "_law_many", "_law_at"]
-- sp__law_next
def t__law_next_2 (K : PySem.W.Frag) : TS := (tRet (tOp rModI (tCB rInt1 (tCons (tOp rAddI (tOp (rIxL K) (tOp (rIxL K) (tVar 0) (tC (.int 0))) (tOp rModI (tVar 2) (tC (.int 120)))) (tOp rMulI (tC (.int 7)) (tOp rDivI (tVar 2) (tC (.int 120))))) tNil)) (tVar 1)))
def t__law_next_1 (K : PySem.W.Frag) : TS := tSeq (tAsg (tOp rAddI (tVar 2) (tC (.int 1))) (gSub (tVar 0) (tC (.int 1)) rSetL)) (t__law_next_2 K)
def t__law_next_0 (K : PySem.W.Frag) : TS := tSeq (tAsg (tOp (rIxL K) (tVar 0) (tC (.int 1))) (gName 2)) (t__law_next_1 K)
/-! _law_big(_law_state_here, _law_many) : _law_state_here=0 _law_many=1 _law_cell_here=2 -/
def N__law_big : List Str := ["_law_state_here", "_law_many", "_law_cell_here"]
-- sp__law_big
def t__law_big_1 (K : PySem.W.Frag) : TS := (tRet (tOp rModI (tCB rInt1 (tCons (tOp rAddI (tOp rMulI (tVar 2) (tC (.int 1009))) (tCall (sp__law_next K) [] E0 (tCons (tVar 0) (tCons (tC (.int 1000)) tNil)))) tNil)) (tVar 1)))
def t__law_big_0 (K : PySem.W.Frag) : TS := tSeq (tAsg (tCB rAbs (tCons (tCall (sp__law_cell K) [] E0 (tCons (tOp (rIxL K) (tVar 0) (tC (.int 3))) (tCons (tOp rAddI (tC (.int 3)) (tCall (sp__law_next K) [] E0 (tCons (tVar 0) (tCons (tC (.int 30)) tNil)))) tNil))) tNil)) (gName 2)) (t__law_big_1 K)
section
variable {K : PySem.W.Frag}
theorem Dr.keep {p : Pst} {left last : Int} {H H1 : Hp} (h : Dr K p left last H) (k : Keep [] H H1) : Dr K p left last H1 := by
  obtain ⟨at_, nums, ns, hp, ha, hn, hl, nn, hs⟩ := h
  exact ⟨at_, nums, ns, k _ _ (by simp) hp, ha, k _ _ (by simp) hn, hl, nn, hs.keep k.all⟩
theorem Dr.new {p : Pst} {q : Addr} {o : HO} {left last : Int} {H H1 : Hp} (h : Dr K p left last H) (n : NewAt H q o H1) : Dr K p left last H1 := h.keep (n.keep [])
theorem Dr.at_ {p : Pst} {left last : Int} {H : Hp} (h : Dr K p left last H) : ∃ xs, H p = some (.lst xs) := by
  obtain ⟨at_, nums, ns, hp, _⟩ := h
  exact ⟨_, hp⟩
theorem Dr.ne {p : Pst} {q : Addr} {o : HO} {left last : Int} {H H1 : Hp} (h : Dr K p left last H) (n : NewAt H q o H1) : p.p ≠ q := by
  obtain ⟨xs, hp⟩ := h.at_
  exact ne_of_none hp n.free
theorem Dr.neT {p : Pst} {q : Addr} {xs : List V} {left last : Int} {H : Hp} (h : Dr K p left last H) (n : H q = some (.tup xs)) : q ≠ p.p := by
  obtain ⟨ys, e⟩ := h.at_
  exact ne_of n e (by intro z; cases z)
/-- what was not there when the state stood may be written -/
theorem Dr.upd {p : Pst} {P : Addr} {o : HO} {l l' t t' : Int} {H0 H : Hp} (h0 : Dr K p l t H0) (hP : H0 P = none) (h : Dr K p l' t' H) : Dr K p l' t' (upd H P o) := by
  obtain ⟨at0, nums0, ns0, hp0, ha0, hn0, hl0, nn0, hs0⟩ := h0
  obtain ⟨at_, nums, ns, hp, ha, hn, hl, nn, hs⟩ := h
  have n1 : p.p ≠ P := ne_of_none hp0 hP
  have n2 : p.nl ≠ P := ne_of_none hn0 hP
  rcases hs0 with ⟨r, _⟩ | r
  · refine ⟨at_, nums, ns, by rw [upd_ne n1]; exact hp, ha, by rw [upd_ne n2]; exact hn, hl, nn, ?_⟩
    rcases hs with ⟨q, e⟩ | q
    · have n3 : p.sc ≠ P := by rcases r with r | ⟨_, r⟩ <;> exact ne_of_none r hP
      refine .inl ⟨?_, e⟩
      rcases q with q | ⟨u, q⟩
      · exact .inl (by rw [upd_ne n3]; exact q)
      · exact .inr ⟨u, by rw [upd_ne n3]; exact q⟩
    · exact .inr q
  · exact ⟨at_, nums, ns0, by rw [upd_ne n1]; exact hp, ha, by rw [upd_ne n2]; exact hn, hl, nn, .inr r⟩
theorem atI_map {ns : List Int} {j : Nat} (h : j < ns.length) : atI (ns.map V.int) (j : Int) = some (.int (ns[j]'h)) := atI_nat (by simp [h])
theorem len__law_cell {vs : List V} {H : Hp} {Q : VK} {E : XK} (h : sp__law_cell K vs H Q E) : vs.length = 2 := by obtain ⟨_, _, _, rfl, _⟩ := h; rfl
theorem r__law_cell {vs : List V} {H : Hp} {Q : VK} {E : XK} (h : sp__law_cell K vs H Q E) : t__law_cell_0 K { nx := fun _ H' => Q .non H', rt := Q } (start N__law_cell vs) H := by
  obtain ⟨a, ns, k, rfl, hs, hk, hq⟩ := h
  obtain ⟨j, rfl⟩ : ∃ j : Nat, k = j := ⟨k.toNat, by omega⟩
  unfold t__law_cell_0
  walk_at "go"
  refine i_lenL hs ?_
  walk_at "go"
  walk_at "D"
  all_goals rename_i h
  · unfold t__law_cell_0a_0
    walk_at "go"
    have h' : j < ns.length := by simpa using h
    exact i_ixL hs (atI_map h') (hq _)
  · walk_at "go"
    unfold t__law_cell_1
    walk_at "go"
    exact hq 0
theorem len__law_next {vs : List V} {H : Hp} {Q : VK} {E : XK} (h : sp__law_next K vs H Q E) : vs.length = 2 := by obtain ⟨_, _, _, _, rfl, _⟩ := h; rfl
theorem r__law_next {vs : List V} {H : Hp} {Q : VK} {E : XK} (h : sp__law_next K vs H Q E) : t__law_next_0 K { nx := fun _ H' => Q .non H', rt := Q } (start N__law_next vs) H := by
  obtain ⟨p, left, last, m, rfl, hm, ⟨at_, nums, ns, hp, ha, hn, hl, nn, hs⟩, hq⟩ := h
  unfold t__law_next_0
  walk_at "go"
  refine i_ixL (SqL.of hp) rfl ?_
  unfold t__law_next_1
  walk_at "go"
  refine i_setL hp rfl ?_
  have k1 : Keep [p] H (upd H p (.lst [.ref p.nl, .int (at_ + 1), .int left, .ref p.sc, .int last])) := Keep.put (.refl H) (.inl (by simp))
  have nn' : p.nl ∉ [p.p] := by simpa using nn
  have hn1 := k1 _ _ nn' hn
  have hs1 := hs.keep k1
  unfold t__law_next_2
  walk_at "go"
  refine i_ixL (SqL.of upd_same) rfl ?_
  walk_at "go"
  obtain ⟨j, hj, hj2⟩ : ∃ j : Nat, at_ % 120 = j ∧ j < nums.length := ⟨(at_ % 120).toNat, by omega, by omega⟩
  rw [hj]
  refine i_ixL (SqL.of hn1) (atI_map hj2) ?_
  walk_at "go"
  refine hq _ _ (Int.emod_nonneg _ (by omega)) (Int.emod_lt_of_pos _ hm) ⟨at_ + 1, nums, ns, upd_same, by omega, hn1, hl, nn, hs1⟩ k1
theorem len__law_big {vs : List V} {H : Hp} {Q : VK} {E : XK} (h : sp__law_big K vs H Q E) : vs.length = 2 := by obtain ⟨_, _, _, _, rfl, _⟩ := h; rfl
theorem r__law_big {vs : List V} {H : Hp} {Q : VK} {E : XK} (h : sp__law_big K vs H Q E) : t__law_big_0 K { nx := fun _ H' => Q .non H', rt := Q } (start N__law_big vs) H := by
  obtain ⟨p, left, last, m, rfl, hm, hd, hq⟩ := h
  obtain ⟨at_, nums, ns, hp, ha, hn, hl, nn, hs⟩ := id hd
  unfold t__law_big_0
  walk_at "go"
  refine i_ixL (SqL.of hp) rfl ?_
  walk_at "go"
  refine ⟨p, left, last, 30, rfl, by decide, hd, fun r H1 r0 r1 hd1 k1 => ?_⟩
  walk_at "go"
  refine ⟨p.sc, ns, 3 + r, rfl, (hs.keep k1).sq, by omega, fun z => ?_⟩
  walk_at "go"
  unfold t__law_big_1
  walk_at "go"
  refine ⟨p, left, last, 1000, rfl, by decide, hd1, fun r2 H2 r20 r21 hd2 k2 => ?_⟩
  walk_at "go"
  exact hq _ _ (Int.emod_nonneg _ (by omega)) (Int.emod_lt_of_pos _ hm) hd2 (k1.trans k2)

theorem len__law_numbers {vs : List V} {H : Hp} {Q : VK} {E : XK} (h : sp__law_numbers K vs H Q E) : vs.length = 2 := by obtain ⟨_, _, rfl, _⟩ := h; rfl
theorem r__law_numbers {vs : List V} {H : Hp} {Q : VK} {E : XK} (h : sp__law_numbers K vs H Q E) : t__law_numbers_0 K { nx := fun _ H' => Q .non H', rt := Q } (start N__law_numbers vs) H := by
  obtain ⟨c, m, rfl, hm, hq⟩ := h
  unfold t__law_numbers_0
  walk_at "go"
  generalize (if c < 0 then -c else c) = s
  unfold t__law_numbers_1
  walk_at "go"
  unfold t__law_numbers_2
  walk_at "go"
  intro p H1 new
  walk_at "go"
  unfold t__law_numbers_3
  walk_at "go"
  refine f_rng (fun i σ H2 => ∃ (r : Int) (ns : List Int) (k mx : Option V), σ = [some (.int c), some (.int m), some (.int r), some (.int s), some (.ref p), k, mx] ∧ ns.length = i ∧ NewAt H p (.lst (ns.map V.int)) H2)
    ⟨s, [], none, none, rfl, rfl, new⟩ ?_ ?_
  · rintro i σ H2 hi ⟨r, ns, k, mx, rfl, hl, new2⟩
    have hi' : i < m := by simpa using hi
    walk_at "go"
    unfold t__law_numbers_3a_0
    have up : ∀ v : Int, NewAt H p (.lst ((ns ++ [v]).map V.int)) (upd H2 p (.lst (ns.map V.int ++ [.int v]))) := fun v => ⟨new2.free, by rw [upd_same, List.map_append]; rfl, fun S => (new2.keep S).put (.inr new2.free)⟩
    walk_at "go"
    have two : t__law_numbers_3a_0b_0 K { nx := fun σ H2 => ∃ (r : Int) (ns : List Int) (k mx : Option V), σ = [some (.int c), some (.int m), some (.int r), some (.int s), some (.ref p), k, mx] ∧ ns.length = i + 1 ∧ NewAt H p (.lst (ns.map V.int)) H2, rt := Q, bk := t__law_numbers_4 K { nx := fun _ H' => Q .non H', rt := Q }, ct := fun σ H2 => ∃ (r : Int) (ns : List Int) (k mx : Option V), σ = [some (.int c), some (.int m), some (.int r), some (.int s), some (.ref p), k, mx] ∧ ns.length = i + 1 ∧ NewAt H p (.lst (ns.map V.int)) H2 } [some (.int c), some (.int m), some (.int r), some (.int s), some (.ref p), some (.int i), mx] H2 := by
      unfold t__law_numbers_3a_0b_0
      walk_at "go"
      generalize hz : ((s * 48271 + (i : Int) * 69621 + 11) % 2147483647) = z
      have z0 : 0 ≤ z ∧ z < 2147483647 := by omega
      unfold t__law_numbers_3a_0b_1
      walk_at "go"
      generalize ((z * z + 40692 * (i : Int) + 3) % 2147483629) = y
      unfold t__law_numbers_3a_0b_2
      walk_at "go"
      refine ⟨ty_lst new2.at_, ?_⟩
      walk_at "go"
      refine i_app new2.at_ (by simp; omega) ?_
      exact ⟨r, ns ++ [y / 7 % 1000], _, _, rfl, by simp [hl], up _⟩
    walk_at "D"
    · walk_at "go"
      walk_at "D"
      · unfold t__law_numbers_3a_0a_0
        walk_at "go"
        refine ⟨ty_lst new2.at_, ?_⟩
        walk_at "go"
        refine i_app new2.at_ (by simp; omega) ?_
        unfold t__law_numbers_3a_0a_1
        walk_at "go"
        exact ⟨r / 1000, ns ++ [r % 1000], _, _, rfl, by simp [hl], up _⟩
      · exact two
    · walk_at "go"
      exact two
  · rintro σ H2 ⟨r, ns, k, mx, rfl, hl, new2⟩
    unfold t__law_numbers_4
    walk_at "go"
    exact hq _ ns _ (by simpa using hl) new2
theorem len__law_state {vs : List V} {H : Hp} {Q : VK} {E : XK} (h : sp__law_state K vs H Q E) : vs.length = 2 := by obtain ⟨_, _, _, rfl, _⟩ := h; rfl
theorem r__law_state {vs : List V} {H : Hp} {Q : VK} {E : XK} (h : sp__law_state K vs H Q E) : t__law_state_0 K { nx := fun _ H' => Q .non H', rt := Q } (start N__law_state vs) H := by
  obtain ⟨a, ns, left, rfl, hs, hq⟩ := h
  unfold t__law_state_0
  walk_at "go"
  intro nl H1 new
  walk_at "go"
  unfold t__law_state_1
  walk_at "go"
  -- the three rows
  have hs1 := (new.keep []).sqL (K := K) (by simp) hs
  refine c_rng (fun D i H2 => ∃ rows : List (Addr × List Int), H2 D = some (.lst (rows.map fun r => V.ref r.1)) ∧ rows.length = i ∧ (∀ r ∈ rows, H2 r.1 = some (.lst (r.2.map V.int)) ∧ r.2.length = 40 ∧ H r.1 = none ∧ r.1 ≠ nl ∧ r.1 ≠ D) ∧ ∀ S, Keep S H1 H2) ?_ ?_ ?_
  · intro D hD
    exact ⟨[], upd_same, rfl, by simp, fun S => .new hD⟩
  · rintro D i H2 hD hi ⟨rows, hDl, hl, hr, kp⟩
    walk_at "go"
    refine ⟨rfl, ?_⟩
    walk_at "go"
    refine ⟨a, ns, i, rfl, (kp []).sqL (by simp) hs1, by omega, fun z => ?_⟩
    walk_at "go"
    refine ⟨z, 40, rfl, by decide, fun p ms H3 hm n3 => ?_⟩
    have hD3 := n3.keep [] _ _ (by simp) hDl
    have hi3 : i < 3 := by simpa using hi
    have nDp : D ≠ p := ne_of_none hDl n3.free
    refine ⟨_, hD3, small_lt (by simp; omega), rows ++ [(p, ms)], by rw [upd_same]; simp, by simp [hl], fun r hr' => ?_, fun S => ((kp S).trans (n3.keep S)).put (.inr hD)⟩
    rcases List.mem_append.mp hr' with h | h
    · obtain ⟨e1, e2, e3, e4, e5⟩ := hr r h
      exact ⟨by rw [upd_ne e5]; exact n3.keep [] _ _ (by simp) e1, e2, e3, e4, e5⟩
    · obtain rfl : r = (p, ms) := by simpa using h
      have f0 : H1 p = none := (kp []).fresh (by simp) n3.free
      exact ⟨by rw [upd_ne nDp.symm]; exact n3.at_, hm, (new.keep []).fresh (by simp) f0, (ne_of_none new.at_ f0).symm, nDp.symm⟩
  · rintro D H2 hD ⟨rows, hDl, hl, hr, kp⟩
    have hl3 : rows.length = 3 := by simpa using hl
    obtain ⟨r0, r1, r2, rfl⟩ : ∃ r0 r1 r2, rows = [r0, r1, r2] := by
      match rows, hl3 with
      | [r0, r1, r2], _ => exact ⟨r0, r1, r2, rfl⟩
    have q0 := hr r0 (by simp)
    have q1 := hr r1 (by simp)
    have q2 := hr r2 (by simp)
    have nlD : nl ≠ D := ne_of_none new.at_ hD
    walk_at "go"
    unfold t__law_state_2
    walk_at "go"
    have hnl : H2 nl = some (.lst []) := kp [] _ _ (by simp) new.at_
    have kp0 : ∀ S, Keep S H H2 := fun S => (new.keep S).trans (kp S)
    refine f_rng (fun i σ H3 => ∃ (nums : List Int) (k : Option V), σ = [some (.ref a), some (.int left), some (.ref nl), some (.ref D), k] ∧ nums.length = 3 * i ∧ H3 nl = some (.lst (nums.map V.int)) ∧ Keep [nl] H2 H3) ⟨[], none, rfl, rfl, hnl, .refl _⟩ ?_ ?_
    · rintro i σ H3 hi ⟨nums, k, rfl, hn, h3, k3⟩
      have hi40 : i < 40 := by simpa using hi
      walk_at "go"
      unfold t__law_state_2a_0
      walk_at "go"
      have put : ∀ (H4 : Hp) (o : HO), Keep [nl] H2 H4 → Keep [nl] H2 (upd H4 nl o) := fun H4 o k => k.put (.inl (by simp))
      have gD : ∀ H4, Keep [nl] H2 H4 → SqL K H4 D [.ref r0.1, .ref r1.1, .ref r2.1] := fun H4 k => SqL.of (k _ _ (by simpa using nlD.symm) (by simpa using hDl))
      have gr : ∀ H4 (r : Addr × List Int), Keep [nl] H2 H4 → (H2 r.1 = some (.lst (r.2.map V.int)) ∧ r.2.length = 40 ∧ H r.1 = none ∧ r.1 ≠ nl ∧ r.1 ≠ D) → SqL K H4 r.1 (r.2.map V.int) := fun H4 r k q => SqL.of (k _ _ (by simpa using q.2.2.2.1) q.1)
      refine ⟨ty_lst h3, ?_⟩
      walk_at "go"
      refine i_ixL (gD _ k3) rfl ?_
      walk_at "go"
      refine i_ixL (gr _ r0 k3 q0) (atI_map (by omega)) ?_
      walk_at "go"
      refine i_app h3 (by simp; omega) ?_
      unfold t__law_state_2a_1
      walk_at "go"
      refine ⟨ty_lst upd_same, ?_⟩
      have k4 := put H3 (.lst (nums.map V.int ++ [.int (r0.2[i]'(by omega))])) k3
      walk_at "go"
      refine i_ixL (gD _ k4) rfl ?_
      walk_at "go"
      refine i_ixL (gr _ r1 k4 q1) (atI_map (by omega)) ?_
      walk_at "go"
      refine i_app upd_same (by simp; omega) ?_
      have k5 := put _ (.lst (nums.map V.int ++ [.int (r0.2[i]'(by omega))] ++ [.int (r1.2[i]'(by omega))])) k4
      unfold t__law_state_2a_2
      walk_at "go"
      refine ⟨ty_lst upd_same, ?_⟩
      walk_at "go"
      refine i_ixL (gD _ k5) rfl ?_
      walk_at "go"
      refine i_ixL (gr _ r2 k5 q2) (atI_map (by omega)) ?_
      walk_at "go"
      refine i_app upd_same (by simp; omega) ?_
      refine ⟨nums ++ [r0.2[i]'(by omega)] ++ [r1.2[i]'(by omega)] ++ [r2.2[i]'(by omega)], _, rfl, by simp; omega, by rw [upd_same]; simp, put _ _ k5⟩
    · rintro σ H3 ⟨nums, k, rfl, hn, h3, k3⟩
      unfold t__law_state_3
      walk_at "go"
      have kH : ∀ S, Keep S H H3 := fun S x o n e => k3 x o (by simpa using ne_of_none e new.free) ((kp0 S) x o n e)
      intro p H4 n4
      refine hq ⟨p, nl, a⟩ H4 ((kH []).fresh (by simp) n4.free) (fun S => (kH S).trans (n4.keep S)) ⟨0, nums, ns, n4.at_, by decide, n4.keep [] _ _ (by simp) h3, by simpa using hn, ne_of_none h3 n4.free, ?_⟩
      rcases hs with h | ⟨o, its, n, h1, h2, h3, h4⟩
      · have h' := (kH []).rd (by simp) h
        refine .inl ⟨(n4.keep []).rd (by simp) h', ?_⟩
        rcases h' with h' | ⟨_, h'⟩ <;> exact ne_of_none h' n4.free
      · exact .inr fun H' => .inr ⟨o, its, n, h1, h2, h3, h4⟩
end
def F_Utf8 : List Str := ["points", "left", "low", "high", "bits"]
def L_LEADS : List Lit := [.tup [.int 194, .int 223, .int 128, .int 191, .int 1, .int 192], .tup [.int 224, .int 224, .int 160, .int 191, .int 2, .int 224], .tup [.int 225, .int 236, .int 128, .int 191, .int 2, .int 224], .tup [.int 237, .int 237, .int 128, .int 159, .int 2, .int 224], .tup [.int 238, .int 239, .int 128, .int 191, .int 2, .int 224], .tup [.int 240, .int 240, .int 144, .int 191, .int 3, .int 240], .tup [.int 241, .int 243, .int 128, .int 191, .int 3, .int 240], .tup [.int 244, .int 244, .int 128, .int 143, .int 3, .int 240]]
/-! ### UTF-8: the mathematics -/
structure U8 where
  pts : List Int
  left : Int
  low : Int
  high : Int
  bits : Int
def u8new : U8 := ⟨[], 0, 128, 191, 0⟩
abbrev Lead := Int × Int × Int × Int × Int × Int
def leadsZ : List Lead := [(194, 223, 128, 191, 1, 192), (224, 224, 160, 191, 2, 224), (225, 236, 128, 191, 2, 224), (237, 237, 128, 159, 2, 224), (238, 239, 128, 191, 2, 224), (240, 240, 144, 191, 3, 240), (241, 243, 128, 191, 3, 240), (244, 244, 128, 143, 3, 240)]
def pickL (o : Int) : List Lead → Option Lead
  | [] => none
  | l :: ls => if l.1 ≤ o ∧ o ≤ l.2.1 then some l else pickL o ls
def u8begin (u : U8) (o : Int) : Option U8 := if o < 128 then some { u with pts := u.pts ++ [o] } else
  match pickL o leadsZ with
  | some l => some { u with low := l.2.2.1, high := l.2.2.2.1, left := l.2.2.2.2.1, bits := o - l.2.2.2.2.2 }
  | none => none
def u8step (u : U8) (o : Int) : U8 := ⟨if u.left - 1 = 0 then u.pts ++ [u.bits * 64 + o - 128] else u.pts, u.left - 1, 128, 191, u.bits * 64 + o - 128⟩
def u8take (u : U8) (o : Int) : Option U8 := if u.left = 0 then u8begin u o else if u.low ≤ o ∧ o ≤ u.high then some (u8step u o) else none
/-- the run over octets from the i-th on: the state, or the index of the octet that is refused -/
def u8run : U8 → Nat → List Int → U8 ⊕ Nat
  | u, _, [] => .inl u
  | u, i, o :: os => match u8take u o with
    | some u' => u8run u' (i + 1) os
    | none => .inr i
def u8dec (os : List Int) : Option (List Int) × Option Int := match u8run u8new 0 os with
  | .inr i => (none, some i)
  | .inl u => if u.left > 0 then (none, some ((os.length : Int) - 1)) else (some u.pts, none)
theorem u8take_len {u u' : U8} {o : Int} (h : u8take u o = some u') : u'.pts.length ≤ u.pts.length + 1 := by
  unfold u8take at h
  split at h
  · unfold u8begin at h
    split at h
    · cases h; simp
    · split at h
      · cases h; simp
      · cases h
  · split at h
    · cases h
      unfold u8step
      dsimp only
      split <;> simp
    · cases h
def u8enc1 (c : Int) : List Int := if c < 128 then [c] else if c < 2048 then [192 + c / 64, 128 + c % 64] else if c < 65536 then [224 + c / 4096, 128 + c / 64 % 64, 128 + c % 64] else [240 + c / 262144, 128 + c / 4096 % 64, 128 + c / 64 % 64, 128 + c % 64]
def u8enc (cs : List Int) : List Int := cs.flatMap u8enc1
theorem u8enc1_len (c : Int) : (u8enc1 c).length ≤ 4 := by
  unfold u8enc1
  split
  · simp
  · split
    · simp
    · split <;> simp
theorem u8enc_len : ∀ cs : List Int, (u8enc cs).length ≤ 4 * cs.length
  | [] => by simp [u8enc]
  | c :: cs => by
    have h1 := u8enc_len cs
    have h2 := u8enc1_len c
    unfold u8enc at h1 ⊢
    rw [List.flatMap_cons, List.length_append, List.length_cons]
    omega
/-! ### promises -/
abbrev cU (K : PySem.W.Frag) : Addr := gA "Utf8" K
def uRow (l : Addr) (u : U8) : List V := [.ref l, .int u.left, .int u.low, .int u.high, .int u.bits]
structure U8At (K : PySem.W.Frag) (H : Hp) (p l : Addr) (u : U8) : Prop where
  ob : ∃ dx, H p = some (.ins (cU K) dx (F_Utf8.zip (uRow l u)))
  pt : H l = some (.lst (u.pts.map V.int))
theorem U8At.ne {K : PySem.W.Frag} {H : Hp} {p l : Addr} {u : U8} (h : U8At K H p l u) : l ≠ p := by
  obtain ⟨⟨dx, e⟩, f⟩ := h
  exact ne_of f e (by intro z; cases z)
theorem U8At.keep {K : PySem.W.Frag} {S : List Addr} {H H1 : Hp} {p l : Addr} {u : U8} (h : U8At K H p l u) (k : Keep S H H1) (hp : p ∉ S) (hl : l ∉ S) : U8At K H1 p l u := by
  obtain ⟨⟨dx, e⟩, f⟩ := h
  exact ⟨⟨dx, k _ _ hp e⟩, k _ _ hl f⟩
def sp_encode_point (K : PySem.W.Frag) : Sp := fun vs H Q _ => ∃ c : Int, vs = [.int c] ∧ ∀ p H1, NewAt H p (.lst ((u8enc1 c).map V.int)) H1 → Q (.ref p) H1
def sp_encode (K : PySem.W.Frag) : Sp := fun vs H Q _ => ∃ (a : Addr) (cs : List Int), vs = [.ref a] ∧ (SqL K H a (cs.map V.int) ∨ SqT K H a (cs.map V.int)) ∧ cs.length ≤ 200000 ∧ ∀ p H1, H p = none → H1 p = some (.lst ((u8enc cs).map V.int)) → Keep [] H H1 → Q (.ref p) H1
def sp_Utf8_init (K : PySem.W.Frag) : Sp := fun vs H Q _ => ∃ p dx : Addr, vs = [.ref p] ∧ H p = some (.ins (cU K) dx (F_Utf8.zip [])) ∧ ∀ l H1, H l = none → U8At K H1 p l u8new → Keep [p] H H1 → Q .non H1
def sp_Utf8_is_open (K : PySem.W.Frag) : Sp := fun vs H Q _ => ∃ (p l : Addr) (u : U8), vs = [.ref p] ∧ U8At K H p l u ∧ Q (.bl (decide (0 < u.left))) H
def spTake (K : PySem.W.Frag) (f : U8 → Int → Option U8) : Sp := fun vs H Q _ => ∃ (p l : Addr) (u : U8) (o : Int), vs = [.ref p, .int o] ∧ U8At K H p l u ∧ u.pts.length < 900000 ∧ (f u o = none → Q (.bl false) H) ∧ ∀ u' H1, f u o = some u' → U8At K H1 p l u' → Keep [p, l] H H1 → Q (.bl true) H1
def sp_Utf8_begin (K : PySem.W.Frag) : Sp := spTake K u8begin
def sp_Utf8_take (K : PySem.W.Frag) : Sp := spTake K u8take
/-- a pair that decode hands back stands at q -/
def DecAt (H : Hp) (q : Addr) : Option (List Int) × Option Int → Prop
  | (some ps, _) => ∃ t, H q = some (.tup [.ref t, .non]) ∧ H t = some (.tup (ps.map V.int))
  | (none, some i) => H q = some (.tup [.non, .int i])
  | (none, none) => False
def sp_decode (K : PySem.W.Frag) : Sp := fun vs H Q _ => ∃ (a : Addr) (os : List Int), vs = [.ref a] ∧ (SqL K H a (os.map V.int) ∨ SqT K H a (os.map V.int)) ∧ os.length ≤ 800000 ∧ ∀ q H1, H q = none → Keep [] H H1 → DecAt H1 q (u8dec os) → Q (.ref q) H1
/-! encode_point(point) : point=0 -/
def N_encode_point : List Str := ["point"]
def t_encode_point_0a_0 (K : PySem.W.Frag) : TS := (tRet (tLst (tCons (tVar 0) tNil)))
def t_encode_point_1a_0 (K : PySem.W.Frag) : TS := (tRet (tLst (tCons (tOp rAddI (tC (.int 192)) (tOp rDivI (tVar 0) (tC (.int 64)))) (tCons (tOp rAddI (tC (.int 128)) (tOp rModI (tVar 0) (tC (.int 64)))) tNil))))
def t_encode_point_2a_0 (K : PySem.W.Frag) : TS := (tRet (tLst (tCons (tOp rAddI (tC (.int 224)) (tOp rDivI (tVar 0) (tC (.int 4096)))) (tCons (tOp rAddI (tC (.int 128)) (tOp rModI (tOp rDivI (tVar 0) (tC (.int 64))) (tC (.int 64)))) (tCons (tOp rAddI (tC (.int 128)) (tOp rModI (tVar 0) (tC (.int 64)))) tNil)))))
def t_encode_point_3 (K : PySem.W.Frag) : TS := (tRet (tLst (tCons (tOp rAddI (tC (.int 240)) (tOp rDivI (tVar 0) (tC (.int 262144)))) (tCons (tOp rAddI (tC (.int 128)) (tOp rModI (tOp rDivI (tVar 0) (tC (.int 4096))) (tC (.int 64)))) (tCons (tOp rAddI (tC (.int 128)) (tOp rModI (tOp rDivI (tVar 0) (tC (.int 64))) (tC (.int 64)))) (tCons (tOp rAddI (tC (.int 128)) (tOp rModI (tVar 0) (tC (.int 64)))) tNil))))))
def t_encode_point_2 (K : PySem.W.Frag) : TS := tSeq (tIfS (tTest (tOp rLtI (tVar 0) (tC (.int 65536)))) (t_encode_point_2a_0 K) tNext) (t_encode_point_3 K)
def t_encode_point_1 (K : PySem.W.Frag) : TS := tSeq (tIfS (tTest (tOp rLtI (tVar 0) (tC (.int 2048)))) (t_encode_point_1a_0 K) tNext) (t_encode_point_2 K)
def t_encode_point_0 (K : PySem.W.Frag) : TS := tSeq (tIfS (tTest (tOp rLtI (tVar 0) (tC (.int 128)))) (t_encode_point_0a_0 K) tNext) (t_encode_point_1 K)
/-! encode(points) : points=0 octets=1 point=2 -/
def N_encode : List Str := ["points", "octets", "point"]
def t_encode_1a_0 (K : PySem.W.Frag) : TS := (tDrop (tBM K "list" rExtend (tVar 1) (tCons (tCall (sp_encode_point K) [] E0 (tCons (tVar 2) tNil)) tNil)))
def t_encode_2 (K : PySem.W.Frag) : TS := (tRet (tVar 1))
def t_encode_1 (K : PySem.W.Frag) : TS := tSeq (tFor (iSeq K (tVar 0)) (gName 2) (t_encode_1a_0 K)) (t_encode_2 K)
def t_encode_0 (K : PySem.W.Frag) : TS := tSeq (tAsg (tLst tNil) (gName 1)) (t_encode_1 K)
/-! __init__(self) : self=0 -/
def N_Utf8_init : List Str := ["self"]
def t_Utf8_init_4 (K : PySem.W.Frag) : TS := (sFld K (tVar 0) (tC (.int 0)) "bits")
def t_Utf8_init_3 (K : PySem.W.Frag) : TS := tSeq (sFld K (tVar 0) (tC (.int 191)) "high") (t_Utf8_init_4 K)
def t_Utf8_init_2 (K : PySem.W.Frag) : TS := tSeq (sFld K (tVar 0) (tC (.int 128)) "low") (t_Utf8_init_3 K)
def t_Utf8_init_1 (K : PySem.W.Frag) : TS := tSeq (sFld K (tVar 0) (tC (.int 0)) "left") (t_Utf8_init_2 K)
def t_Utf8_init_0 (K : PySem.W.Frag) : TS := tSeq (sFld K (tVar 0) (tLst tNil) "points") (t_Utf8_init_1 K)
/-! is_open(self) : self=0 -/
def N_Utf8_is_open : List Str := ["self"]
def t_Utf8_is_open_0 (K : PySem.W.Frag) : TS := (tRet (tOp rGtI (tFld K (tVar 0) "left") (tC (.int 0))))
/-! begin(self, octet) : self=0 octet=1 first=2 last=3 low=4 high=5 left=6 base=7 -/
def N_Utf8_begin : List Str := ["self", "octet", "first", "last", "low", "high", "left", "base"]
def t_Utf8_begin_0a_1 (K : PySem.W.Frag) : TS := (tRet (tC (.bl true)))
def t_Utf8_begin_0a_0 (K : PySem.W.Frag) : TS := tSeq (tDrop (tBM K "list" rAppend (tFld K (tVar 0) "points") (tCons (tVar 1) tNil))) (t_Utf8_begin_0a_1 K)
def t_Utf8_begin_1a_0a_4 (K : PySem.W.Frag) : TS := (tRet (tC (.bl true)))
def t_Utf8_begin_1a_0a_3 (K : PySem.W.Frag) : TS := tSeq (sFld K (tVar 0) (tOp rSubI (tVar 1) (tVar 7)) "bits") (t_Utf8_begin_1a_0a_4 K)
def t_Utf8_begin_1a_0a_2 (K : PySem.W.Frag) : TS := tSeq (sFld K (tVar 0) (tVar 6) "left") (t_Utf8_begin_1a_0a_3 K)
def t_Utf8_begin_1a_0a_1 (K : PySem.W.Frag) : TS := tSeq (sFld K (tVar 0) (tVar 5) "high") (t_Utf8_begin_1a_0a_2 K)
def t_Utf8_begin_1a_0a_0 (K : PySem.W.Frag) : TS := tSeq (sFld K (tVar 0) (tVar 4) "low") (t_Utf8_begin_1a_0a_1 K)
def t_Utf8_begin_1a_0 (K : PySem.W.Frag) : TS := (tIfS (tTest (tChain rLeI rLeI (tVar 2) (tVar 1) (tVar 3))) (t_Utf8_begin_1a_0a_0 K) tNext)
def t_Utf8_begin_2 (K : PySem.W.Frag) : TS := (tRet (tC (.bl false)))
def t_Utf8_begin_1 (K : PySem.W.Frag) : TS := tSeq (tFor (iTup K (tC (.ref (gA "LEADS" K)))) (gTup K 6 (gCons (gName 2) (gCons (gName 3) (gCons (gName 4) (gCons (gName 5) (gCons (gName 6) (gCons (gName 7) gNil))))))) (t_Utf8_begin_1a_0 K)) (t_Utf8_begin_2 K)
def t_Utf8_begin_0 (K : PySem.W.Frag) : TS := tSeq (tIfS (tTest (tOp rLtI (tVar 1) (tC (.int 128)))) (t_Utf8_begin_0a_0 K) tNext) (t_Utf8_begin_1 K)
/-! take(self, octet) : self=0 octet=1 -/
def N_Utf8_take : List Str := ["self", "octet"]
def t_Utf8_take_0a_0 (K : PySem.W.Frag) : TS := (tRet (tMeth (gA "Utf8" K) "begin" (sp_Utf8_begin K) [] E0 (tVar 0) (tCons (tVar 1) tNil)))
def t_Utf8_take_1a_0 (K : PySem.W.Frag) : TS := (tRet (tC (.bl false)))
def t_Utf8_take_6a_0 (K : PySem.W.Frag) : TS := (tDrop (tBM K "list" rAppend (tFld K (tVar 0) "points") (tCons (tFld K (tVar 0) "bits") tNil)))
def t_Utf8_take_7 (K : PySem.W.Frag) : TS := (tRet (tC (.bl true)))
def t_Utf8_take_6 (K : PySem.W.Frag) : TS := tSeq (tIfS (tTest (tOp rEq (tFld K (tVar 0) "left") (tC (.int 0)))) (t_Utf8_take_6a_0 K) tNext) (t_Utf8_take_7 K)
def t_Utf8_take_5 (K : PySem.W.Frag) : TS := tSeq (sFld K (tVar 0) (tOp rSubI (tFld K (tVar 0) "left") (tC (.int 1))) "left") (t_Utf8_take_6 K)
def t_Utf8_take_4 (K : PySem.W.Frag) : TS := tSeq (sFld K (tVar 0) (tC (.int 191)) "high") (t_Utf8_take_5 K)
def t_Utf8_take_3 (K : PySem.W.Frag) : TS := tSeq (sFld K (tVar 0) (tC (.int 128)) "low") (t_Utf8_take_4 K)
def t_Utf8_take_2 (K : PySem.W.Frag) : TS := tSeq (sFld K (tVar 0) (tOp rSubI (tOp rAddI (tOp rMulI (tFld K (tVar 0) "bits") (tC (.int 64))) (tVar 1)) (tC (.int 128))) "bits") (t_Utf8_take_3 K)
def t_Utf8_take_1 (K : PySem.W.Frag) : TS := tSeq (tIfS (tNot (tTest (tChain rLeI rLeI (tFld K (tVar 0) "low") (tVar 1) (tFld K (tVar 0) "high")))) (t_Utf8_take_1a_0 K) tNext) (t_Utf8_take_2 K)
def t_Utf8_take_0 (K : PySem.W.Frag) : TS := tSeq (tIfS (tTest (tOp rEq (tFld K (tVar 0) "left") (tC (.int 0)))) (t_Utf8_take_0a_0 K) tNext) (t_Utf8_take_1 K)
/-! decode(octets) : octets=0 machine=1 index=2 octet=3 -/
def N_decode : List Str := ["octets", "machine", "index", "octet"]
def t_decode_1a_0a_0 (K : PySem.W.Frag) : TS := (tRet (tTup (tCons (tC .non) (tCons (tVar 2) tNil))))
def t_decode_1a_0 (K : PySem.W.Frag) : TS := (tIfS (tNot (tB (tMeth (gA "Utf8" K) "take" (sp_Utf8_take K) [] E0 (tVar 1) (tCons (tVar 3) tNil)))) (t_decode_1a_0a_0 K) tNext)
def t_decode_2a_0 (K : PySem.W.Frag) : TS := (tRet (tTup (tCons (tC .non) (tCons (tOp rSubI (tCB (rLenQ K) (tCons (tVar 0) tNil)) (tC (.int 1))) tNil))))
def t_decode_3 (K : PySem.W.Frag) : TS := (tRet (tTup (tCons (tCB (rTupOf K) (tCons (tFld K (tVar 1) "points") tNil)) (tCons (tC .non) tNil))))
def t_decode_2 (K : PySem.W.Frag) : TS := tSeq (tIfS (tB (tProp (gA "Utf8" K) (sp_Utf8_is_open K) [] E0 (tVar 1))) (t_decode_2a_0 K) tNext) (t_decode_3 K)
def t_decode_1 (K : PySem.W.Frag) : TS := tSeq (tFor (iEnumQ K (tCons (tVar 0) tNil)) (gTup K 2 (gCons (gName 2) (gCons (gName 3) gNil))) (t_decode_1a_0 K)) (t_decode_2 K)
def t_decode_0 (K : PySem.W.Frag) : TS := tSeq (tAsg (tMake (gA "Utf8" K) (sp_Utf8_init K) [] E0 tNil) (gName 1)) (t_decode_1 K)
section
variable {K : PySem.W.Frag}
theorem len_encode_point {vs : List V} {H : Hp} {Q : VK} {E : XK} (h : sp_encode_point K vs H Q E) : vs.length = 1 := by obtain ⟨_, rfl, _⟩ := h; rfl
theorem r_encode_point {vs : List V} {H : Hp} {Q : VK} {E : XK} (h : sp_encode_point K vs H Q E) : t_encode_point_0 K { nx := fun _ H' => Q .non H', rt := Q } (start N_encode_point vs) H := by
  obtain ⟨c, rfl, hq⟩ := h
  unfold u8enc1 at hq
  unfold t_encode_point_0
  walk_at "go"
  walk_at "D"
  all_goals rename_i h1
  · unfold t_encode_point_0a_0
    walk_at "go"
    rw [if_pos h1] at hq
    exact hq
  · rw [if_neg h1] at hq
    walk_at "go"
    unfold t_encode_point_1
    walk_at "go"
    walk_at "D"
    all_goals rename_i h2
    · unfold t_encode_point_1a_0
      walk_at "go"
      rw [if_pos h2] at hq
      exact hq
    · rw [if_neg h2] at hq
      walk_at "go"
      unfold t_encode_point_2
      walk_at "go"
      walk_at "D"
      all_goals rename_i h3
      · unfold t_encode_point_2a_0
        walk_at "go"
        rw [if_pos h3] at hq
        exact hq
      · rw [if_neg h3] at hq
        walk_at "go"
        unfold t_encode_point_3
        walk_at "go"
        exact hq
theorem len_encode {vs : List V} {H : Hp} {Q : VK} {E : XK} (h : sp_encode K vs H Q E) : vs.length = 1 := by obtain ⟨_, _, rfl, _⟩ := h; rfl
theorem get_map {ns : List Int} {i : Nat} {x : V} (h : (ns.map V.int)[i]? = some x) : ∃ n, ns[i]? = some n ∧ x = .int n := by
  rw [List.getElem?_map] at h
  cases e : ns[i]? with
  | none => rw [e] at h; cases h
  | some n => rw [e] at h; exact ⟨n, rfl, (Option.some.inj h).symm⟩
theorem take_succ {ns : List Int} {i : Nat} {x : Int} (h : ns[i]? = some x) : ns.take (i + 1) = ns.take i ++ [x] := by
  rw [List.take_succ, h]
  rfl
theorem r_encode {vs : List V} {H : Hp} {Q : VK} {E : XK} (h : sp_encode K vs H Q E) : t_encode_0 K { nx := fun _ H' => Q .non H', rt := Q } (start N_encode vs) H := by
  obtain ⟨a, cs, rfl, ha, hl, hq⟩ := h
  unfold t_encode_0
  walk_at "go"
  intro p H1 n1
  walk_at "go"
  unfold t_encode_1
  walk_at "go"
  have np : p ∉ ([] : List Addr) := by simp
  have ha1 : SqL K H1 a (cs.map V.int) ∨ SqT K H1 a (cs.map V.int) := by
    rcases ha with h | h
    · exact .inl ((n1.keep []).sqL (by simp) h)
    · exact .inr ((n1.keep []).sqT (by simp) h)
  have kH : ∀ {H2 : Hp} {o : HO}, Keep [] H H2 → Keep [] H (upd H2 p o) := fun k => k.put (.inr n1.free)
  refine i_seqFor (S := []) ha (by simp) (e := rfl) (Pv := fun i σ H2 => ∃ x : Option V, σ = [some (.ref a), some (.ref p), x] ∧ H2 p = some (.lst ((u8enc (cs.take i)).map V.int)) ∧ Keep [] H H2) ?_ ?_ ?_ ?_
  · rintro i σ H2 ⟨x, rfl, e, k⟩
    exact k
  · exact ⟨none, rfl, n1.at_, n1.keep []⟩
  · rintro i x σ H2 hi ⟨y, rfl, e, k⟩
    obtain ⟨c, hc, rfl⟩ := get_map hi
    walk_at "go"
    unfold t_encode_1a_0
    walk_at "go"
    refine ⟨ty_lst e, ?_⟩
    walk_at "go"
    refine ⟨c, rfl, fun q H3 n3 => ?_⟩
    walk_at "go"
    have e3 := n3.keep [] _ _ (by simp) e
    have h1 := u8enc_len (cs.take i)
    have h2 := u8enc1_len c
    have h3 : (cs.take i).length ≤ cs.length := by rw [List.length_take]; omega
    refine i_ext e3 n3.at_ (by simp only [List.length_map]; omega) ?_
    refine ⟨_, rfl, ?_, kH (k.trans (n3.keep []))⟩
    rw [upd_same, take_succ hc]
    simp [u8enc, List.flatMap_append]
  · rintro σ H2 ⟨x, rfl, e, k⟩
    unfold t_encode_2
    walk_at "go"
    rw [List.length_map, List.take_length] at e
    exact hq p H2 n1.free e k
end
section
variable {K : PySem.W.Frag}
theorem len_Utf8_init {vs : List V} {H : Hp} {Q : VK} {E : XK} (h : sp_Utf8_init K vs H Q E) : vs.length = 1 := by obtain ⟨_, _, rfl, _⟩ := h; rfl
theorem r_Utf8_init (kU : Kls K "Utf8" F_Utf8) {vs : List V} {H : Hp} {Q : VK} {E : XK} (h : sp_Utf8_init K vs H Q E) : t_Utf8_init_0 K { nx := fun _ H' => Q .non H', rt := Q } (start N_Utf8_init vs) H := by
  obtain ⟨p, dx, rfl, hp, hq⟩ := h
  unfold t_Utf8_init_0
  walk_at "go"
  intro l H1 n1
  walk_at "go"
  refine i_putN kU (n1.keep [] _ _ (by simp) hp) rfl (by decide) ?_
  unfold t_Utf8_init_1
  walk_at "go"
  refine i_putN kU upd_same rfl (by decide) ?_
  unfold t_Utf8_init_2
  walk_at "go"
  refine i_putN kU upd_same rfl (by decide) ?_
  unfold t_Utf8_init_3
  walk_at "go"
  refine i_putN kU upd_same rfl (by decide) ?_
  unfold t_Utf8_init_4
  walk_at "go"
  refine i_putN kU upd_same rfl (by decide) ?_
  have ne : l ≠ p := (ne_of_none hp n1.free).symm
  refine hq l _ n1.free ⟨⟨dx, upd_same⟩, ?_⟩ ?_
  · rw [upd_ne ne, upd_ne ne, upd_ne ne, upd_ne ne, upd_ne ne]
    exact n1.at_
  · have k : Keep [p] H H1 := n1.keep _
    exact ((((k.put (.inl (by simp))).put (.inl (by simp))).put (.inl (by simp))).put (.inl (by simp))).put (.inl (by simp))
theorem len_Utf8_is_open {vs : List V} {H : Hp} {Q : VK} {E : XK} (h : sp_Utf8_is_open K vs H Q E) : vs.length = 1 := by obtain ⟨_, _, _, rfl, _⟩ := h; rfl
theorem r_Utf8_is_open (kU : Kls K "Utf8" F_Utf8) {vs : List V} {H : Hp} {Q : VK} {E : XK} (h : sp_Utf8_is_open K vs H Q E) : t_Utf8_is_open_0 K { nx := fun _ H' => Q .non H', rt := Q } (start N_Utf8_is_open vs) H := by
  obtain ⟨p, l, u, rfl, ⟨⟨dx, hp⟩, hl⟩, hq⟩ := h
  unfold t_Utf8_is_open_0
  walk_at "go"
  refine i_fldK kU hp 1 rfl rfl ?_
  walk_at "go"
  exact hq
theorem len_Utf8_begin {vs : List V} {H : Hp} {Q : VK} {E : XK} (h : sp_Utf8_begin K vs H Q E) : vs.length = 2 := by obtain ⟨_, _, _, _, rfl, _⟩ := h; rfl
theorem lits_get : ∀ {ls : List Lit} {xs : List V}, LitsAre K xs ls → xs.length = ls.length ∧ ∀ (i : Nat) (x : V), xs[i]? = some x → ∃ l, ls[i]? = some l ∧ LitIs K x l
  | [], xs, h => by
    obtain rfl : xs = [] := h
    exact ⟨rfl, fun i x e => by simp at e⟩
  | l :: ls, xs, h => by
    obtain ⟨y, ys, rfl, h1, h2⟩ := h
    obtain ⟨a, b⟩ := lits_get h2
    refine ⟨by simp [a], fun i x e => ?_⟩
    cases i with
    | zero =>
      obtain rfl : y = x := by simpa using e
      exact ⟨l, rfl, h1⟩
    | succ i => exact b i x (by simpa using e)
def leadV (l : Lead) : List V := [.int l.1, .int l.2.1, .int l.2.2.1, .int l.2.2.2.1, .int l.2.2.2.2.1, .int l.2.2.2.2.2]
def leadL (l : Lead) : Lit := .tup [.int l.1, .int l.2.1, .int l.2.2.1, .int l.2.2.2.1, .int l.2.2.2.2.1, .int l.2.2.2.2.2]
theorem leads_eq : L_LEADS = leadsZ.map leadL := rfl
theorem lead_is {v : V} {l : Lead} (h : LitIs K v (leadL l)) : ∃ b, v = .ref b ∧ ∀ H, SqT K H b (leadV l) := by
  obtain ⟨b, xs, rfl, hs, h⟩ := h
  obtain ⟨_, _, rfl, rfl, _, _, rfl, rfl, _, _, rfl, rfl, _, _, rfl, rfl, _, _, rfl, rfl, _, _, rfl, rfl, rfl⟩ := h
  exact ⟨b, rfl, hs⟩
theorem r_Utf8_begin (kU : Kls K "Utf8" F_Utf8) (hL : LitIs K (.ref (He.ga K "LEADS")) (.tup L_LEADS)) {vs : List V} {H : Hp} {Q : VK} {E : XK} (h : sp_Utf8_begin K vs H Q E) : t_Utf8_begin_0 K { nx := fun _ H' => Q .non H', rt := Q } (start N_Utf8_begin vs) H := by
  obtain ⟨p, l, u, o, rfl, hu, hz, hn, hs⟩ := h
  have ne := hu.ne
  obtain ⟨⟨dx, hp⟩, hl⟩ := id hu
  unfold t_Utf8_begin_0
  walk_at "go"
  walk_at "D"
  all_goals rename_i h1
  · unfold t_Utf8_begin_0a_0
    walk_at "go"
    refine i_fldK kU hp 0 rfl rfl ⟨ty_lst hl, ?_⟩
    walk_at "go"
    refine i_app hl (by simp only [List.length_map]; omega) ?_
    unfold t_Utf8_begin_0a_1
    walk_at "go"
    have e : u8begin u o = some { u with pts := u.pts ++ [o] } := by unfold u8begin; rw [if_pos h1]
    refine hs _ _ e ⟨⟨dx, by rw [upd_ne ne.symm]; exact hp⟩, by rw [upd_same]; simp⟩ ((Keep.refl H).put (.inl (by simp)))
  · walk_at "go"
    have e : u8begin u o = match pickL o leadsZ with
      | some l => some { u with low := l.2.2.1, high := l.2.2.2.1, left := l.2.2.2.2.1, bits := o - l.2.2.2.2.2 }
      | none => none := by unfold u8begin; rw [if_neg h1]
    obtain ⟨b, xs, eb, hsq, hli⟩ := hL
    obtain ⟨hlen, hget⟩ := lits_get hli
    have h8 : xs.length = 8 := hlen
    have eb' : gA "LEADS" K = b := V.ref.inj eb
    unfold t_Utf8_begin_1
    walk_at "go"
    rw [eb']
    refine i_tupK (hsq H) ?_
    refine f_tup (xs := xs) (fun i σ H1 => H1 = H ∧ pickL o leadsZ = pickL o (leadsZ.drop i) ∧ ∃ x1 x2 x3 x4 x5 x6 : Option V, σ = [some (.ref p), some (.int o), x1, x2, x3, x4, x5, x6]) ⟨rfl, rfl, none, none, none, none, none, none, rfl⟩ (fun i σ H1 _ _ => hsq H1) ?_ ?_
    · rintro i x σ H1 hi ⟨rfl, hpk, x1, x2, x3, x4, x5, x6, rfl⟩
      obtain ⟨lt, hlt, his⟩ := hget i x hi
      rw [leads_eq, List.getElem?_map] at hlt
      obtain ⟨ld, hld, rfl⟩ : ∃ ld, leadsZ[i]? = some ld ∧ lt = leadL ld := by
        cases q : leadsZ[i]? with
        | none => rw [q] at hlt; cases hlt
        | some z => rw [q] at hlt; exact ⟨z, rfl, (Option.some.inj hlt).symm⟩
      have hdrop : leadsZ.drop i = ld :: leadsZ.drop (i + 1) := by
        obtain ⟨hb, he⟩ := List.getElem?_eq_some_iff.mp hld
        rw [← he]
        exact (List.getElem_cons_drop hb).symm
      obtain ⟨c, rfl, hc⟩ := lead_is his
      refine i_gTup (hc H1) rfl ?_
      unfold leadV
      walk_at "go"
      unfold t_Utf8_begin_1a_0
      have miss : ¬ (ld.1 ≤ o ∧ o ≤ ld.2.1) → pickL o leadsZ = pickL o (leadsZ.drop (i + 1)) := fun c => by
        rw [hpk, hdrop]
        exact if_neg c
      have miss' : ¬ (ld.1 ≤ o ∧ o ≤ ld.2.1) → ∀ x1 x2 x3 x4 x5 x6 : Option V, H1 = H1 ∧ pickL o leadsZ = pickL o (leadsZ.drop (i + 1)) ∧ ∃ y1 y2 y3 y4 y5 y6 : Option V, [some (V.ref p), some (.int o), x1, x2, x3, x4, x5, x6] = [some (.ref p), some (.int o), y1, y2, y3, y4, y5, y6] := fun c x1 x2 x3 x4 x5 x6 => ⟨rfl, miss c, x1, x2, x3, x4, x5, x6, rfl⟩
      walk_at "go"
      walk_at "D"
      all_goals rename_i h2
      · walk_at "go"
        walk_at "D"
        all_goals rename_i h3
        · unfold t_Utf8_begin_1a_0a_0
          walk_at "go"
          refine i_putK kU hp 2 rfl (Nat.le_of_ble_eq_true rfl) (by decide) ?_
          unfold t_Utf8_begin_1a_0a_1
          walk_at "go"
          refine i_putK kU upd_same 3 rfl (Nat.le_of_ble_eq_true rfl) (by decide) ?_
          unfold t_Utf8_begin_1a_0a_2
          walk_at "go"
          refine i_putK kU upd_same 1 rfl (Nat.le_of_ble_eq_true rfl) (by decide) ?_
          unfold t_Utf8_begin_1a_0a_3
          walk_at "go"
          refine i_putK kU upd_same 4 rfl (Nat.le_of_ble_eq_true rfl) (by decide) ?_
          unfold t_Utf8_begin_1a_0a_4
          walk_at "go"
          have pk : pickL o leadsZ = some ld := by
            rw [hpk, hdrop]
            exact if_pos ⟨h2, h3⟩
          rw [pk] at e
          refine hs _ _ e ⟨⟨dx, upd_same⟩, ?_⟩ (((((Keep.refl H1).put (.inl (by simp))).put (.inl (by simp))).put (.inl (by simp))).put (.inl (by simp)))
          rw [upd_ne ne, upd_ne ne, upd_ne ne, upd_ne ne]
          exact hl
        · walk_at "go"
          exact miss' (fun c => h3 c.2) _ _ _ _ _ _
      · walk_at "go"
        exact miss' (fun c => h2 c.1) _ _ _ _ _ _
    · rintro σ H1 ⟨rfl, hpk, x1, x2, x3, x4, x5, x6, rfl⟩
      unfold t_Utf8_begin_2
      walk_at "go"
      have pk : pickL o leadsZ = none := by
        rw [hpk, h8]
        rfl
      rw [pk] at e
      exact hn e
theorem len_Utf8_take {vs : List V} {H : Hp} {Q : VK} {E : XK} (h : sp_Utf8_take K vs H Q E) : vs.length = 2 := by obtain ⟨_, _, _, _, rfl, _⟩ := h; rfl
theorem r_Utf8_take (kU : Kls K "Utf8" F_Utf8) {vs : List V} {H : Hp} {Q : VK} {E : XK} (h : sp_Utf8_take K vs H Q E) : t_Utf8_take_0 K { nx := fun _ H' => Q .non H', rt := Q } (start N_Utf8_take vs) H := by
  obtain ⟨p, l, u, o, rfl, hu, hz, hn, hs⟩ := h
  have ne := hu.ne
  obtain ⟨⟨dx, hp⟩, hl⟩ := id hu
  unfold t_Utf8_take_0
  walk_at "go"
  refine i_fldK kU hp 1 rfl rfl ?_
  walk_at "go"
  walk_at "D"
  all_goals rename_i h0
  · have e : u8take u o = u8begin u o := by unfold u8take; rw [if_pos h0]
    rw [e] at hn
    unfold t_Utf8_take_0a_0
    walk_at "go"
    refine i_methK hp (by decide +kernel) ?_
    walk_at "go"
    exact ⟨p, l, u, o, rfl, hu, hz, hn, fun u' H1 e1 => hs u' H1 (e.trans e1)⟩
  · walk_at "go"
    have no : ¬ (u.low ≤ o ∧ o ≤ u.high) → t_Utf8_take_1a_0 K { nx := t_Utf8_take_2 K { nx := fun _ H' => Q .non H', rt := Q }, rt := Q } [some (.ref p), some (.int o)] H := fun c => by
      unfold t_Utf8_take_1a_0
      walk_at "go"
      refine hn ?_
      unfold u8take
      rw [if_neg h0, if_neg c]
    unfold t_Utf8_take_1
    walk_at "go"
    refine i_fldK kU hp 2 rfl rfl ?_
    walk_at "go"
    walk_at "D"
    all_goals rename_i h2
    · walk_at "go"
      refine i_fldK kU hp 3 rfl rfl ?_
      walk_at "go"
      walk_at "D"
      · rename_i h3
        exact no fun c => h3 c.2
      · rename_i h3
        have e : u8take u o = some (u8step u o) := by unfold u8take; rw [if_neg h0, if_pos ⟨h2, h3⟩]
        walk_at "go"
        unfold t_Utf8_take_2
        walk_at "go"
        refine i_fldK kU hp 4 rfl rfl ?_
        walk_at "go"
        refine i_putK kU hp 4 rfl (Nat.le_of_ble_eq_true rfl) (by decide) ?_
        unfold t_Utf8_take_3
        walk_at "go"
        refine i_putK kU upd_same 2 rfl (Nat.le_of_ble_eq_true rfl) (by decide) ?_
        unfold t_Utf8_take_4
        walk_at "go"
        refine i_putK kU upd_same 3 rfl (Nat.le_of_ble_eq_true rfl) (by decide) ?_
        unfold t_Utf8_take_5
        walk_at "go"
        refine i_fldK kU upd_same 1 rfl rfl ?_
        walk_at "go"
        refine i_putK kU upd_same 1 rfl (Nat.le_of_ble_eq_true rfl) (by decide) ?_
        unfold t_Utf8_take_6
        walk_at "go"
        refine i_fldK kU upd_same 1 rfl rfl ?_
        walk_at "go"
        have kp : ∀ {H1 : Hp} {o : HO}, Keep [p, l] H H1 → Keep [p, l] H (upd H1 p o) := fun k => k.put (.inl (by simp))
        have kp4 := kp (o := .ins (cU K) dx (F_Utf8.zip (((((uRow l u).set 4 (.int (u.bits * 64 + o - 128))).set 2 (.int 128)).set 3 (.int 191)).set 1 (.int (u.left - 1))))) (kp (o := .ins (cU K) dx (F_Utf8.zip ((((uRow l u).set 4 (.int (u.bits * 64 + o - 128))).set 2 (.int 128)).set 3 (.int 191)))) (kp (o := .ins (cU K) dx (F_Utf8.zip (((uRow l u).set 4 (.int (u.bits * 64 + o - 128))).set 2 (.int 128)))) (kp (o := .ins (cU K) dx (F_Utf8.zip ((uRow l u).set 4 (.int (u.bits * 64 + o - 128))))) (.refl H))))
        generalize hH : upd (upd (upd (upd H p _) p _) p _) p _ = H4 at kp4 ⊢
        have hp4 : H4 p = some (.ins (cU K) dx (F_Utf8.zip (((((uRow l u).set 4 (.int (u.bits * 64 + o - 128))).set 2 (.int 128)).set 3 (.int 191)).set 1 (.int (u.left - 1))))) := by rw [← hH, upd_same]
        have hl4 : H4 l = some (.lst (u.pts.map V.int)) := by rw [← hH, upd_ne ne, upd_ne ne, upd_ne ne, upd_ne ne]; exact hl
        walk_at "D"
        all_goals rename_i h4
        · unfold t_Utf8_take_6a_0
          walk_at "go"
          refine i_fldK kU hp4 0 rfl rfl ⟨ty_lst hl4, ?_⟩
          walk_at "go"
          refine i_fldK kU hp4 4 rfl rfl ?_
          walk_at "go"
          refine i_app hl4 (by simp only [List.length_map]; omega) ?_
          unfold t_Utf8_take_7
          walk_at "go"
          refine hs _ _ e ⟨⟨dx, by rw [upd_ne ne.symm]; exact hp4⟩, ?_⟩ (kp4.put (.inl (by simp)))
          rw [upd_same]
          unfold u8step
          rw [if_pos h4]
          simp
        · walk_at "go"
          unfold t_Utf8_take_7
          walk_at "go"
          refine hs _ _ e ⟨⟨dx, hp4⟩, ?_⟩ kp4
          unfold u8step
          rw [if_neg h4]
          exact hl4
    · walk_at "go"
      exact no fun c => h2 c.1
end
section
variable {K : PySem.W.Frag}
theorem drop_get {os : List Int} {i : Nat} {o : Int} (h : os[i]? = some o) : os.drop i = o :: os.drop (i + 1) := by
  obtain ⟨hb, he⟩ := List.getElem?_eq_some_iff.mp h
  rw [← he]
  exact (List.getElem_cons_drop hb).symm
theorem notin2 {p l : Addr} {S : List Addr} (h : ∀ x ∈ S, x = p ∨ x = l) {H0 : Hp} (hp : H0 p = none) (hl : H0 l = none) {H1 H2 : Hp} (k0 : Keep [] H0 H1) (k : Keep S H1 H2) : Keep [] H0 H2 := fun a o _ e => by
  refine k a o (fun m => ?_) (k0 a o (by simp) e)
  rcases h a m with z | z
  · rw [z, hp] at e; cases e
  · rw [z, hl] at e; cases e
theorem len_decode {vs : List V} {H : Hp} {Q : VK} {E : XK} (h : sp_decode K vs H Q E) : vs.length = 1 := by obtain ⟨_, _, rfl, _⟩ := h; rfl
theorem r_decode (kU : Kls K "Utf8" F_Utf8) {vs : List V} {H : Hp} {Q : VK} {E : XK} (h : sp_decode K vs H Q E) : t_decode_0 K { nx := fun _ H' => Q .non H', rt := Q } (start N_decode vs) H := by
  obtain ⟨a, os, rfl, ha, hlen, hq⟩ := h
  unfold t_decode_0
  walk_at "go"
  refine i_makeK F_Utf8 fun p dx H1 hp0 hp k1 => ?_
  refine ⟨p, dx, rfl, hp, fun l H2 hl0 hu k2 => ⟨rfl, ?_⟩⟩
  have hl00 : H l = none := (k1 []).fresh (by simp) hl0
  have kH : ∀ {H3 : Hp}, Keep [] H H3 → ∀ {H4 : Hp}, Keep [p, l] H3 H4 → Keep [] H H4 := fun {H3} k0 {H4} k => notin2 (S := [p, l]) (fun x hx => by simpa using hx) hp0 hl00 k0 k
  have k12 : Keep [] H H2 := kH (k1 []) (k2.mono (by simp))
  walk_at "go"
  unfold t_decode_1
  walk_at "go"
  refine i_enumFor (S := []) ha (by simp) (e := rfl) (Pv := fun i σ H3 => ∃ (u : U8) (x2 x3 : Option V), σ = [some (.ref a), some (.ref p), x2, x3] ∧ U8At K H3 p l u ∧ u8run u8new 0 os = u8run u i (os.drop i) ∧ u.pts.length ≤ i ∧ Keep [] H H3) ?_ ?_ ?_ ?_
  · rintro i σ H3 ⟨u, x2, x3, rfl, _, _, _, k⟩
    exact k
  · exact ⟨u8new, none, none, rfl, hu, rfl, Nat.le_refl _, k12⟩
  · rintro i x σ H3 T H4 hi ⟨u, x2, x3, rfl, hu3, hrun, hle, k3⟩ n4
    obtain ⟨o, ho, rfl⟩ := get_map hi
    have hil : i < os.length := (List.getElem?_eq_some_iff.mp ho).1
    have hu4 := hu3.keep (n4.keep []) (by simp) (by simp)
    obtain ⟨⟨dx4, hp4⟩, hl4⟩ := id hu4
    refine i_gTup n4.sqT rfl ?_
    walk_at "go"
    unfold t_decode_1a_0
    walk_at "go"
    refine i_methK hp4 (by decide +kernel) ?_
    walk_at "go"
    rw [drop_get ho] at hrun
    have hrun' : u8run u8new 0 os = match u8take u o with
      | some u' => u8run u' (i + 1) (os.drop (i + 1))
      | none => .inr i := hrun
    refine ⟨p, l, u, o, rfl, hu4, by omega, fun e => ?_, fun u' H5 e hu5 k5 => ?_⟩
    · rw [e] at hrun'
      walk_at "go"
      unfold t_decode_1a_0a_0
      walk_at "go"
      intro q H5 n5
      refine hq q H5 ((k3.trans (n4.keep [])).fresh (by simp) n5.free) ((k3.trans (n4.keep [])).trans (n5.keep [])) ?_
      have e2 : u8dec os = (none, some (i : Int)) := by unfold u8dec; rw [hrun']
      rw [e2]
      exact n5.at_
    · rw [e] at hrun'
      walk_at "go"
      exact ⟨u', _, _, rfl, hu5, hrun', by have := u8take_len e; omega, kH (k3.trans (n4.keep [])) k5⟩
  · rintro σ H3 ⟨u, x2, x3, rfl, hu3, hrun, hle, k3⟩
    obtain ⟨⟨dx3, hp3⟩, hl3⟩ := id hu3
    rw [List.length_map, List.drop_length] at hrun
    have hrun' : u8run u8new 0 os = .inl u := hrun
    unfold t_decode_2
    walk_at "go"
    refine i_propK hp3 ⟨p, l, u, rfl, hu3, ?_⟩
    walk_at "go"
    walk_at "D"
    all_goals rename_i hz
    · unfold t_decode_2a_0
      walk_at "go"
      refine i_lenQ (ys := os.map V.int) (by
        rcases ha with h | h
        · exact .inl (k3.sqL (by simp) h)
        · exact .inr (k3.sqT (by simp) h)) ?_
      walk_at "go"
      intro q H5 n5
      refine hq q H5 (k3.fresh (by simp) n5.free) (k3.trans (n5.keep [])) ?_
      have e2 : u8dec os = (none, some ((os.length : Int) - 1)) := by
        unfold u8dec
        rw [hrun']
        exact if_pos hz
      rw [e2]
      have z := n5.at_
      rw [List.length_map] at z
      exact z
    · walk_at "go"
      unfold t_decode_3
      walk_at "go"
      refine i_fldK kU hp3 0 rfl rfl ?_
      walk_at "go"
      refine i_tupL (SqL.of hl3) fun t H4 n4 => ?_
      walk_at "go"
      intro q H5 n5
      refine hq q H5 ((k3.trans (n4.keep [])).fresh (by simp) n5.free) ((k3.trans (n4.keep [])).trans (n5.keep [])) ?_
      have e2 : u8dec os = (some u.pts, none) := by
        unfold u8dec
        rw [hrun']
        exact if_neg hz
      rw [e2]
      exact ⟨t, n5.at_, n5.keep [] _ _ (by simp) n4.at_⟩
end
/-! ### UTF-8: written and taken again -/
def okPt (c : Int) : Prop := 0 ≤ c ∧ c ≤ 1114111 ∧ ¬ (55296 ≤ c ∧ c ≤ 57343)
theorem pk1 {o : Int} (h : 194 ≤ o ∧ o ≤ 223) : pickL o leadsZ = some (194, 223, 128, 191, 1, 192) := by
  simp only [leadsZ, pickL]
  repeat (first | rw [if_pos (by omega)] | rw [if_neg (by omega)])
theorem pk2 {o : Int} (h : 224 ≤ o ∧ o ≤ 224) : pickL o leadsZ = some (224, 224, 160, 191, 2, 224) := by
  simp only [leadsZ, pickL]
  repeat (first | rw [if_pos (by omega)] | rw [if_neg (by omega)])
theorem pk3 {o : Int} (h : 225 ≤ o ∧ o ≤ 236) : pickL o leadsZ = some (225, 236, 128, 191, 2, 224) := by
  simp only [leadsZ, pickL]
  repeat (first | rw [if_pos (by omega)] | rw [if_neg (by omega)])
theorem pk4 {o : Int} (h : 237 ≤ o ∧ o ≤ 237) : pickL o leadsZ = some (237, 237, 128, 159, 2, 224) := by
  simp only [leadsZ, pickL]
  repeat (first | rw [if_pos (by omega)] | rw [if_neg (by omega)])
theorem pk5 {o : Int} (h : 238 ≤ o ∧ o ≤ 239) : pickL o leadsZ = some (238, 239, 128, 191, 2, 224) := by
  simp only [leadsZ, pickL]
  repeat (first | rw [if_pos (by omega)] | rw [if_neg (by omega)])
theorem pk6 {o : Int} (h : 240 ≤ o ∧ o ≤ 240) : pickL o leadsZ = some (240, 240, 144, 191, 3, 240) := by
  simp only [leadsZ, pickL]
  repeat (first | rw [if_pos (by omega)] | rw [if_neg (by omega)])
theorem pk7 {o : Int} (h : 241 ≤ o ∧ o ≤ 243) : pickL o leadsZ = some (241, 243, 128, 191, 3, 240) := by
  simp only [leadsZ, pickL]
  repeat (first | rw [if_pos (by omega)] | rw [if_neg (by omega)])
theorem pk8 {o : Int} (h : 244 ≤ o ∧ o ≤ 244) : pickL o leadsZ = some (244, 244, 128, 143, 3, 240) := by
  simp only [leadsZ, pickL]
  repeat (first | rw [if_pos (by omega)] | rw [if_neg (by omega)])
theorem begin_lead {u : U8} {o : Int} {l : Lead} (h0 : u.left = 0) (h : 128 ≤ o) (p : pickL o leadsZ = some l) : u8take u o = some { u with low := l.2.2.1, high := l.2.2.2.1, left := l.2.2.2.2.1, bits := o - l.2.2.2.2.2 } := by
  unfold u8take u8begin
  rw [if_pos h0, if_neg (by omega), p]
theorem take_more {u : U8} {o : Int} (h0 : 1 < u.left) (h : u.low ≤ o ∧ o ≤ u.high) : u8take u o = some ⟨u.pts, u.left - 1, 128, 191, u.bits * 64 + o - 128⟩ := by
  unfold u8take u8step
  rw [if_neg (by omega), if_pos h, if_neg (by omega)]
theorem take_last {u : U8} {o : Int} (h0 : u.left = 1) (h : u.low ≤ o ∧ o ≤ u.high) : u8take u o = some ⟨u.pts ++ [u.bits * 64 + o - 128], 0, 128, 191, u.bits * 64 + o - 128⟩ := by
  unfold u8take u8step
  rw [if_neg (by omega), if_pos h, if_pos (by omega), h0]
  rfl
/-- the states on the way through the octets of one code point -/
inductive Way : U8 → List Int → List U8 → Prop
  | nil (u : U8) : Way u [] [u]
  | cons {u v : U8} {o : Int} {os : List Int} {us : List U8} : u8take u o = some v → Way v os us → Way u (o :: os) (u :: us)
theorem two_ways {u : U8} {pts : List Int} {lo hi b : Int} {o1 o2 : Int} (h1 : u8take u o1 = some ⟨pts, 1, lo, hi, b⟩) (h2 : lo ≤ o2 ∧ o2 ≤ hi) :
    Way u [o1, o2] [u, ⟨pts, 1, lo, hi, b⟩, ⟨pts ++ [b * 64 + o2 - 128], 0, 128, 191, b * 64 + o2 - 128⟩] :=
  .cons h1 (.cons (take_last rfl h2) (.nil _))
theorem three_ways {u : U8} {pts : List Int} {lo hi b : Int} {o1 o2 o3 : Int} (h1 : u8take u o1 = some ⟨pts, 2, lo, hi, b⟩) (h2 : lo ≤ o2 ∧ o2 ≤ hi) (h3 : 128 ≤ o3 ∧ o3 ≤ 191) :
    Way u [o1, o2, o3] [u, ⟨pts, 2, lo, hi, b⟩, ⟨pts, 1, 128, 191, b * 64 + o2 - 128⟩, ⟨pts ++ [(b * 64 + o2 - 128) * 64 + o3 - 128], 0, 128, 191, (b * 64 + o2 - 128) * 64 + o3 - 128⟩] :=
  .cons h1 (.cons (take_more (by show (1 : Int) < 2; decide) h2) (.cons (take_last rfl h3) (.nil _)))
theorem four_ways {u : U8} {pts : List Int} {lo hi b : Int} {o1 o2 o3 o4 : Int} (h1 : u8take u o1 = some ⟨pts, 3, lo, hi, b⟩) (h2 : lo ≤ o2 ∧ o2 ≤ hi) (h3 : 128 ≤ o3 ∧ o3 ≤ 191) (h4 : 128 ≤ o4 ∧ o4 ≤ 191) :
    Way u [o1, o2, o3, o4] [u, ⟨pts, 3, lo, hi, b⟩, ⟨pts, 2, 128, 191, b * 64 + o2 - 128⟩, ⟨pts, 1, 128, 191, (b * 64 + o2 - 128) * 64 + o3 - 128⟩, ⟨pts ++ [((b * 64 + o2 - 128) * 64 + o3 - 128) * 64 + o4 - 128], 0, 128, 191, ((b * 64 + o2 - 128) * 64 + o3 - 128) * 64 + o4 - 128⟩] :=
  .cons h1 (.cons (take_more (by show (1 : Int) < 3; decide) h2) (.cons (take_more (by show (1 : Int) < 2; decide) h3) (.cons (take_last rfl h4) (.nil _))))
/-- the states within a character have the points as before and wait; the last one has the point -/
structure Mid (u : U8) (c : Int) (us : List U8) : Prop where
  way : Way u (u8enc1 c) us
  mid : ∀ k a, 0 < k → k < (u8enc1 c).length → us[k]? = some a → a.pts = u.pts ∧ 0 < a.left
  last : ∀ a, us[(u8enc1 c).length]? = some a → a.pts = u.pts ++ [c] ∧ a.left = 0
theorem mid_of {u : U8} {c : Int} (h0 : u.left = 0) (h : okPt c) : ∃ us, Mid u c us := by
  obtain ⟨g0, g1, g2⟩ := h
  by_cases c1 : c < 128
  · have e : u8enc1 c = [c] := if_pos c1
    refine ⟨[u, { u with pts := u.pts ++ [c] }], ?_, ?_, ?_⟩
    · rw [e]
      refine .cons ?_ (.nil _)
      unfold u8take u8begin
      rw [if_pos h0, if_pos c1]
    · intro k a k0 k1
      rw [e] at k1
      simp at k1
      omega
    · intro a ha
      rw [e] at ha
      obtain rfl := Option.some.inj ha
      exact ⟨rfl, h0⟩
  · by_cases c2 : c < 2048
    · have e : u8enc1 c = [192 + c / 64, 128 + c % 64] := by unfold u8enc1; rw [if_neg c1, if_pos c2]
      have w := two_ways (begin_lead h0 (by omega) (pk1 (o := 192 + c / 64) (by omega))) (o2 := 128 + c % 64) (by dsimp only; omega)
      refine ⟨_, by rw [e]; exact w, ?_, ?_⟩
      · intro k a k0 k1 ha
        rw [e] at k1
        have k1' : k < 2 := k1
        obtain rfl : k = 1 := by omega
        obtain rfl := Option.some.inj ha
        exact ⟨rfl, by show (0 : Int) < 1; decide⟩
      · intro a ha
        rw [e] at ha
        obtain rfl := Option.some.inj ha
        refine ⟨?_, rfl⟩
        dsimp only
        rw [show (192 + c / 64 - 192) * 64 + (128 + c % 64) - 128 = c by omega]
    · by_cases c3 : c < 65536
      · have e : u8enc1 c = [224 + c / 4096, 128 + c / 64 % 64, 128 + c % 64] := by unfold u8enc1; rw [if_neg c1, if_neg c2, if_pos c3]
        have w : ∃ lo hi b, Way u [224 + c / 4096, 128 + c / 64 % 64, 128 + c % 64] [u, ⟨u.pts, 2, lo, hi, b⟩, ⟨u.pts, 1, 128, 191, b * 64 + (128 + c / 64 % 64) - 128⟩, ⟨u.pts ++ [(b * 64 + (128 + c / 64 % 64) - 128) * 64 + (128 + c % 64) - 128], 0, 128, 191, (b * 64 + (128 + c / 64 % 64) - 128) * 64 + (128 + c % 64) - 128⟩] ∧ b = 224 + c / 4096 - 224 := by
          have l3 : 128 ≤ 128 + c % 64 ∧ 128 + c % 64 ≤ 191 := by omega
          by_cases d1 : c < 4096
          · exact ⟨_, _, _, three_ways (begin_lead h0 (by omega) (pk2 (o := 224 + c / 4096) (by omega))) (by dsimp only; omega) l3, rfl⟩
          · by_cases d2 : c < 53248
            · exact ⟨_, _, _, three_ways (begin_lead h0 (by omega) (pk3 (o := 224 + c / 4096) (by omega))) (by dsimp only; omega) l3, rfl⟩
            · by_cases d3 : c < 57344
              · exact ⟨_, _, _, three_ways (begin_lead h0 (by omega) (pk4 (o := 224 + c / 4096) (by omega))) (by dsimp only; omega) l3, rfl⟩
              · exact ⟨_, _, _, three_ways (begin_lead h0 (by omega) (pk5 (o := 224 + c / 4096) (by omega))) (by dsimp only; omega) l3, rfl⟩
        obtain ⟨lo, hi, b, w, hb⟩ := w
        refine ⟨_, by rw [e]; exact w, ?_, ?_⟩
        · intro k a k0 k1 ha
          rw [e] at k1
          have k1' : k < 3 := k1
          rcases (show k = 1 ∨ k = 2 by omega) with rfl | rfl
          · obtain rfl := Option.some.inj ha
            exact ⟨rfl, by show (0 : Int) < 2; decide⟩
          · obtain rfl := Option.some.inj ha
            exact ⟨rfl, by show (0 : Int) < 1; decide⟩
        · intro a ha
          rw [e] at ha
          obtain rfl := Option.some.inj ha
          refine ⟨?_, rfl⟩
          dsimp only
          rw [show (b * 64 + (128 + c / 64 % 64) - 128) * 64 + (128 + c % 64) - 128 = c by omega]
      · have e : u8enc1 c = [240 + c / 262144, 128 + c / 4096 % 64, 128 + c / 64 % 64, 128 + c % 64] := by unfold u8enc1; rw [if_neg c1, if_neg c2, if_neg c3]
        have w : ∃ lo hi b, Way u [240 + c / 262144, 128 + c / 4096 % 64, 128 + c / 64 % 64, 128 + c % 64] [u, ⟨u.pts, 3, lo, hi, b⟩, ⟨u.pts, 2, 128, 191, b * 64 + (128 + c / 4096 % 64) - 128⟩, ⟨u.pts, 1, 128, 191, (b * 64 + (128 + c / 4096 % 64) - 128) * 64 + (128 + c / 64 % 64) - 128⟩, ⟨u.pts ++ [((b * 64 + (128 + c / 4096 % 64) - 128) * 64 + (128 + c / 64 % 64) - 128) * 64 + (128 + c % 64) - 128], 0, 128, 191, ((b * 64 + (128 + c / 4096 % 64) - 128) * 64 + (128 + c / 64 % 64) - 128) * 64 + (128 + c % 64) - 128⟩] ∧ b = 240 + c / 262144 - 240 := by
          have l3 : 128 ≤ 128 + c / 64 % 64 ∧ 128 + c / 64 % 64 ≤ 191 := by omega
          have l4 : 128 ≤ 128 + c % 64 ∧ 128 + c % 64 ≤ 191 := by omega
          by_cases d1 : c < 262144
          · exact ⟨_, _, _, four_ways (begin_lead h0 (by omega) (pk6 (o := 240 + c / 262144) (by omega))) (by dsimp only; omega) l3 l4, rfl⟩
          · by_cases d2 : c < 1048576
            · exact ⟨_, _, _, four_ways (begin_lead h0 (by omega) (pk7 (o := 240 + c / 262144) (by omega))) (by dsimp only; omega) l3 l4, rfl⟩
            · exact ⟨_, _, _, four_ways (begin_lead h0 (by omega) (pk8 (o := 240 + c / 262144) (by omega))) (by dsimp only; omega) l3 l4, rfl⟩
        obtain ⟨lo, hi, b, w, hb⟩ := w
        refine ⟨_, by rw [e]; exact w, ?_, ?_⟩
        · intro k a k0 k1 ha
          rw [e] at k1
          have k1' : k < 4 := k1
          rcases (show k = 1 ∨ k = 2 ∨ k = 3 by omega) with rfl | rfl | rfl
          · obtain rfl := Option.some.inj ha
            exact ⟨rfl, by show (0 : Int) < 3; decide⟩
          · obtain rfl := Option.some.inj ha
            exact ⟨rfl, by show (0 : Int) < 2; decide⟩
          · obtain rfl := Option.some.inj ha
            exact ⟨rfl, by show (0 : Int) < 1; decide⟩
        · intro a ha
          rw [e] at ha
          obtain rfl := Option.some.inj ha
          refine ⟨?_, rfl⟩
          dsimp only
          rw [show ((b * 64 + (128 + c / 4096 % 64) - 128) * 64 + (128 + c / 64 % 64) - 128) * 64 + (128 + c % 64) - 128 = c by omega]
theorem way_run {u : U8} {os rest : List Int} {us : List U8} (w : Way u os us) : ∀ i, ∃ v, us[os.length]? = some v ∧ u8run u i (os ++ rest) = u8run v (i + os.length) rest := by
  induction w with
  | nil u => exact fun i => ⟨u, rfl, rfl⟩
  | cons h w ih =>
    intro i
    obtain ⟨v, h1, h2⟩ := ih (i + 1)
    refine ⟨v, h1, ?_⟩
    rename_i u v' o os us
    have e : u8run u i (o :: (os ++ rest)) = u8run v' (i + 1) (os ++ rest) := by
      show (match u8take u o with
        | some u' => u8run u' (i + 1) (os ++ rest)
        | none => .inr i) = _
      rw [h]
    rw [List.cons_append, e, h2, List.length_cons, Nat.add_assoc, Nat.add_comm 1]
theorem way_at {u : U8} {os : List Int} {us : List U8} (w : Way u os us) : us[0]? = some u ∧ us.length = os.length + 1 ∧ ∀ (k : Nat) (o : Int), os[k]? = some o → ∃ a b, us[k]? = some a ∧ us[k + 1]? = some b ∧ u8take a o = some b := by
  induction w with
  | nil u => exact ⟨rfl, rfl, fun k o h => by simp at h⟩
  | cons h w ih =>
    obtain ⟨i1, i2, i3⟩ := ih
    refine ⟨rfl, by simp [i2], fun k o' ho => ?_⟩
    cases k with
    | zero =>
      rename_i u v o os us
      obtain rfl : o = o' := by simpa using ho
      exact ⟨u, v, rfl, by simpa using i1, h⟩
    | succ k => exact i3 k o' (by simpa using ho)
theorem run_enc : ∀ (cs : List Int) (u : U8) (i : Nat), u.left = 0 → (∀ c ∈ cs, okPt c) → ∃ v, u8run u i (u8enc cs) = .inl v ∧ v.left = 0 ∧ v.pts = u.pts ++ cs
  | [], u, i, h0, _ => ⟨u, rfl, h0, by simp⟩
  | c :: cs, u, i, h0, h => by
    obtain ⟨us, m⟩ := mid_of h0 (h c (by simp))
    obtain ⟨v, e1, e2⟩ := way_run (rest := u8enc cs) m.way i
    obtain ⟨l1, l2⟩ := m.last v e1
    obtain ⟨w, f1, f2, f3⟩ := run_enc cs v (i + (u8enc1 c).length) l2 fun x hx => h x (by simp [hx])
    refine ⟨w, ?_, f2, by rw [f3, l1]; simp⟩
    rw [← f1, ← e2]
    rfl
theorem dec_enc {cs : List Int} (h : ∀ c ∈ cs, okPt c) : u8dec (u8enc cs) = (some cs, none) := by
  obtain ⟨v, e, h0, hp⟩ := run_enc cs u8new 0 rfl h
  unfold u8dec
  rw [e]
  show (if v.left > 0 then _ else _) = _
  rw [if_neg (by omega), hp]
  rfl
/-! ### the law's own count of what can still come -/
def cnt (l : Int) : Int := 1 + (if 192 ≤ l then 1 else 0) + (if 224 ≤ l then 1 else 0) + (if 240 ≤ l then 1 else 0)
def baseOf (c : Int) : Int := if c = 1 then 0 else if c = 2 then 192 else if c = 3 then 224 else 240
def minOf (c : Int) : Int := if c = 1 then 0 else if c = 2 then 128 else if c = 3 then 2048 else 65536
def maxOf (c : Int) : Int := if c = 1 then 127 else if c = 2 then 2047 else if c = 3 then 65535 else 1114111
def ccFold : Int → List Int → Option Int
  | b, [] => some b
  | b, o :: os => if o < 128 ∨ 191 < o then none else ccFold (b * 64 + o - 128) os
def lowK : Nat → Int → Int
  | 0, b => b
  | k + 1, b => lowK k b * 64
def highK : Nat → Int → Int
  | 0, b => b
  | k + 1, b => highK k b * 64 + 63
def ccFin (c k b : Int) : Int := if max (lowK k.toNat b) (minOf c) > min (highK k.toNat b) (maxOf c) ∨ (max (lowK k.toNat b) (minOf c) ≥ 55296 ∧ min (highK k.toNat b) (maxOf c) ≤ 57343) then -1 else k
def canCome : List Int → Int
  | [] => 0
  | l :: r => if 248 ≤ l ∨ (128 ≤ l ∧ l < 192) then -1 else match ccFold (l - baseOf (cnt l)) r with
    | none => -1
    | some b => ccFin (cnt l) (cnt l - ((l :: r).length : Int)) b
theorem cnt1 {l : Int} (h : l < 192) : cnt l = 1 := by unfold cnt; rw [if_neg (by omega), if_neg (by omega), if_neg (by omega)]; rfl
theorem cnt2 {l : Int} (h : 192 ≤ l ∧ l < 224) : cnt l = 2 := by unfold cnt; rw [if_pos (by omega), if_neg (by omega), if_neg (by omega)]; rfl
theorem cnt3 {l : Int} (h : 224 ≤ l ∧ l < 240) : cnt l = 3 := by unfold cnt; rw [if_pos (by omega), if_pos (by omega), if_neg (by omega)]; rfl
theorem cnt4 {l : Int} (h : 240 ≤ l) : cnt l = 4 := by unfold cnt; rw [if_pos (by omega), if_pos (by omega), if_pos (by omega)]; rfl
theorem fin1 (b : Int) (h : 0 ≤ b ∧ b < 128) : ccFin 1 0 b = 0 := by
  have e1 : minOf 1 = 0 := rfl
  have e2 : maxOf 1 = 127 := rfl
  unfold ccFin
  rw [e1, e2]
  show (if max b 0 > min b 127 ∨ (max b 0 ≥ 55296 ∧ min b 127 ≤ 57343) then (-1 : Int) else 0) = 0
  rw [if_neg (by omega)]
/-- the count 2, one or none to come -/
theorem fin2 (b : Int) : ccFin 2 1 b = (if b * 64 + 63 < 128 ∨ 2047 < b * 64 then -1 else 1) ∧ ccFin 2 0 b = (if b < 128 ∨ 2047 < b then -1 else 0) := by
  have e1 : minOf 2 = 128 := rfl
  have e2 : maxOf 2 = 2047 := rfl
  unfold ccFin
  rw [e1, e2]
  constructor
  · show (if max (b * 64) 128 > min (b * 64 + 63) 2047 ∨ (max (b * 64) 128 ≥ 55296 ∧ min (b * 64 + 63) 2047 ≤ 57343) then (-1 : Int) else 1) = _
    by_cases h : b * 64 + 63 < 128 ∨ 2047 < b * 64
    · rw [if_pos h, if_pos (by omega)]
    · rw [if_neg h, if_neg (by omega)]
  · show (if max b 128 > min b 2047 ∨ (max b 128 ≥ 55296 ∧ min b 2047 ≤ 57343) then (-1 : Int) else 0) = _
    by_cases h : b < 128 ∨ 2047 < b
    · rw [if_pos h, if_pos (by omega)]
    · rw [if_neg h, if_neg (by omega)]
theorem fin3 (b : Int) : ccFin 3 2 b = (if (b * 64 + 63) * 64 + 63 < 2048 ∨ 65535 < b * 64 * 64 ∨ (55296 ≤ max (b * 64 * 64) 2048 ∧ min ((b * 64 + 63) * 64 + 63) 65535 ≤ 57343) then -1 else 2) ∧
    ccFin 3 1 b = (if b * 64 + 63 < 2048 ∨ 65535 < b * 64 ∨ (55296 ≤ b * 64 ∧ b * 64 + 63 ≤ 57343) then -1 else 1) ∧ ccFin 3 0 b = (if b < 2048 ∨ 65535 < b ∨ (55296 ≤ b ∧ b ≤ 57343) then -1 else 0) := by
  have e1 : minOf 3 = 2048 := rfl
  have e2 : maxOf 3 = 65535 := rfl
  unfold ccFin
  rw [e1, e2]
  refine ⟨?_, ?_, ?_⟩
  · show (if max (b * 64 * 64) 2048 > min ((b * 64 + 63) * 64 + 63) 65535 ∨ (max (b * 64 * 64) 2048 ≥ 55296 ∧ min ((b * 64 + 63) * 64 + 63) 65535 ≤ 57343) then (-1 : Int) else 2) = _
    by_cases h : (b * 64 + 63) * 64 + 63 < 2048 ∨ 65535 < b * 64 * 64 ∨ (55296 ≤ max (b * 64 * 64) 2048 ∧ min ((b * 64 + 63) * 64 + 63) 65535 ≤ 57343)
    · rw [if_pos h, if_pos (by omega)]
    · rw [if_neg h, if_neg (by omega)]
  · show (if max (b * 64) 2048 > min (b * 64 + 63) 65535 ∨ (max (b * 64) 2048 ≥ 55296 ∧ min (b * 64 + 63) 65535 ≤ 57343) then (-1 : Int) else 1) = _
    by_cases h : b * 64 + 63 < 2048 ∨ 65535 < b * 64 ∨ (55296 ≤ b * 64 ∧ b * 64 + 63 ≤ 57343)
    · rw [if_pos h, if_pos (by omega)]
    · rw [if_neg h, if_neg (by omega)]
  · show (if max b 2048 > min b 65535 ∨ (max b 2048 ≥ 55296 ∧ min b 65535 ≤ 57343) then (-1 : Int) else 0) = _
    by_cases h : b < 2048 ∨ 65535 < b ∨ (55296 ≤ b ∧ b ≤ 57343)
    · rw [if_pos h, if_pos (by omega)]
    · rw [if_neg h, if_neg (by omega)]
theorem fin4 (b : Int) : ccFin 4 3 b = (if ((b * 64 + 63) * 64 + 63) * 64 + 63 < 65536 ∨ 1114111 < b * 64 * 64 * 64 then -1 else 3) ∧
    ccFin 4 2 b = (if (b * 64 + 63) * 64 + 63 < 65536 ∨ 1114111 < b * 64 * 64 then -1 else 2) ∧
    ccFin 4 1 b = (if b * 64 + 63 < 65536 ∨ 1114111 < b * 64 then -1 else 1) ∧ ccFin 4 0 b = (if b < 65536 ∨ 1114111 < b then -1 else 0) := by
  have e1 : minOf 4 = 65536 := rfl
  have e2 : maxOf 4 = 1114111 := rfl
  unfold ccFin
  rw [e1, e2]
  refine ⟨?_, ?_, ?_, ?_⟩
  · show (if max (b * 64 * 64 * 64) 65536 > min (((b * 64 + 63) * 64 + 63) * 64 + 63) 1114111 ∨ (max (b * 64 * 64 * 64) 65536 ≥ 55296 ∧ min (((b * 64 + 63) * 64 + 63) * 64 + 63) 1114111 ≤ 57343) then (-1 : Int) else 3) = _
    by_cases h : ((b * 64 + 63) * 64 + 63) * 64 + 63 < 65536 ∨ 1114111 < b * 64 * 64 * 64
    · rw [if_pos h, if_pos (by omega)]
    · rw [if_neg h, if_neg (by omega)]
  · show (if max (b * 64 * 64) 65536 > min ((b * 64 + 63) * 64 + 63) 1114111 ∨ (max (b * 64 * 64) 65536 ≥ 55296 ∧ min ((b * 64 + 63) * 64 + 63) 1114111 ≤ 57343) then (-1 : Int) else 2) = _
    by_cases h : (b * 64 + 63) * 64 + 63 < 65536 ∨ 1114111 < b * 64 * 64
    · rw [if_pos h, if_pos (by omega)]
    · rw [if_neg h, if_neg (by omega)]
  · show (if max (b * 64) 65536 > min (b * 64 + 63) 1114111 ∨ (max (b * 64) 65536 ≥ 55296 ∧ min (b * 64 + 63) 1114111 ≤ 57343) then (-1 : Int) else 1) = _
    by_cases h : b * 64 + 63 < 65536 ∨ 1114111 < b * 64
    · rw [if_pos h, if_pos (by omega)]
    · rw [if_neg h, if_neg (by omega)]
  · show (if max b 65536 > min b 1114111 ∨ (max b 65536 ≥ 55296 ∧ min b 1114111 ≤ 57343) then (-1 : Int) else 0) = _
    by_cases h : b < 65536 ∨ 1114111 < b
    · rw [if_pos h, if_pos (by omega)]
    · rw [if_neg h, if_neg (by omega)]
theorem cc_in {b o : Int} {os : List Int} (h : 128 ≤ o ∧ o ≤ 191) : ccFold b (o :: os) = ccFold (b * 64 + o - 128) os := if_neg (by omega)
theorem cc_out {b o : Int} {os : List Int} (h : o < 128 ∨ 191 < o) : ccFold b (o :: os) = none := if_pos h
def lowL (l : Int) : Int := if l = 224 then 160 else if l = 240 then 144 else 128
def highL (l : Int) : Int := if l = 237 then 159 else if l = 244 then 143 else 191
/-- a state within a character, told by its octets -/
structure Wt (u : U8) (l : Int) (r : List Int) (c : Int) : Prop where
  lead : (c = 2 ∧ 194 ≤ l ∧ l ≤ 223) ∨ (c = 3 ∧ 224 ≤ l ∧ l ≤ 239) ∨ (c = 4 ∧ 240 ≤ l ∧ l ≤ 244)
  fold : ccFold (l - baseOf c) r = some u.bits
  left : u.left = c - 1 - (r.length : Int)
  pos : 0 < u.left
  one : r = [] → u.low = lowL l ∧ u.high = highL l
  more : r ≠ [] → u.low = 128 ∧ u.high = 191
  val : ∀ a t, r = a :: t → lowL l ≤ a ∧ a ≤ highL l
theorem lowL_is (l : Int) : (l = 224 ∧ lowL l = 160) ∨ (l = 240 ∧ lowL l = 144) ∨ (l ≠ 224 ∧ l ≠ 240 ∧ lowL l = 128) := by
  unfold lowL
  by_cases h : l = 224
  · exact .inl ⟨h, if_pos h⟩
  · by_cases h2 : l = 240
    · exact .inr (.inl ⟨h2, by rw [if_neg h, if_pos h2]⟩)
    · exact .inr (.inr ⟨h, h2, by rw [if_neg h, if_neg h2]⟩)
theorem highL_is (l : Int) : (l = 237 ∧ highL l = 159) ∨ (l = 244 ∧ highL l = 143) ∨ (l ≠ 237 ∧ l ≠ 244 ∧ highL l = 191) := by
  unfold highL
  by_cases h : l = 237
  · exact .inl ⟨h, if_pos h⟩
  · by_cases h2 : l = 244
    · exact .inr (.inl ⟨h2, by rw [if_neg h, if_pos h2]⟩)
    · exact .inr (.inr ⟨h, h2, by rw [if_neg h, if_neg h2]⟩)
theorem can_cons {l : Int} {r : List Int} {c : Int} (hc : cnt l = c) (h : ¬ (248 ≤ l ∨ (128 ≤ l ∧ l < 192))) : canCome (l :: r) = match ccFold (l - baseOf c) r with
    | none => -1
    | some b => ccFin c (c - ((l :: r).length : Int)) b := by
  subst hc
  exact if_neg h
/-- the three ends of a step -/
def Step3 (u : U8) (o : Int) (os : List Int) (P : U8 → Prop) (pt : Int) : Prop := (canCome os = -1 ∧ u8take u o = none) ∨ (canCome os = 0 ∧ ∃ u', u8take u o = some u' ∧ u'.left = 0 ∧ u'.pts = u.pts ++ [pt]) ∨ (0 < canCome os ∧ ∃ u', u8take u o = some u' ∧ u'.pts = u.pts ∧ P u')
theorem no_lead {u : U8} {o : Int} (h0 : u.left = 0) (h : 128 ≤ o) (p : pickL o leadsZ = none) : u8take u o = none := by
  unfold u8take u8begin
  rw [if_pos h0, if_neg (by omega), p]
theorem pk0 {o : Int} (h : o < 194 ∨ 244 < o) : pickL o leadsZ = none := by
  simp only [leadsZ, pickL]
  repeat (first | rw [if_neg (by omega)])
theorem lead_wt {u : U8} {o c : Int} {ld : Lead} (h0 : u.left = 0) (h : 128 ≤ o) (p : pickL o leadsZ = some ld) (hl : (c = 2 ∧ 194 ≤ o ∧ o ≤ 223) ∨ (c = 3 ∧ 224 ≤ o ∧ o ≤ 239) ∨ (c = 4 ∧ 240 ≤ o ∧ o ≤ 244))
    (e1 : ld.2.2.1 = lowL o) (e2 : ld.2.2.2.1 = highL o) (e3 : ld.2.2.2.2.1 = c - 1) (e4 : ld.2.2.2.2.2 = baseOf c) : ∃ u', u8take u o = some u' ∧ u'.pts = u.pts ∧ Wt u' o [] c := by
  refine ⟨_, begin_lead h0 h p, rfl, hl, ?_, ?_, ?_, fun _ => ⟨e1, e2⟩, fun z => absurd rfl z, fun a t z => by cases z⟩
  · show some (o - baseOf c) = some (o - ld.2.2.2.2.2)
    rw [e4]
  · show ld.2.2.2.2.1 = c - 1 - ((0 : Nat) : Int)
    rw [e3]; omega
  · show 0 < ld.2.2.2.2.1
    omega
theorem start_step {u : U8} {o : Int} (h0 : u.left = 0) (ho : 0 ≤ o) : Step3 u o [o] (fun u' => ∃ c, Wt u' o [] c) o := by
  by_cases h1 : o < 128
  · refine .inr (.inl ⟨?_, { u with pts := u.pts ++ [o] }, ?_, h0, rfl⟩)
    · rw [can_cons (cnt1 (by omega)) (by omega)]
      exact fin1 _ (by show 0 ≤ o - 0 ∧ o - 0 < 128; omega)
    · unfold u8take u8begin
      rw [if_pos h0, if_pos h1]
  · by_cases h2 : o < 194 ∨ 244 < o
    · refine .inl ⟨?_, no_lead h0 (by omega) (pk0 h2)⟩
      by_cases h3 : 248 ≤ o ∨ (128 ≤ o ∧ o < 192)
      · exact if_pos h3
      · by_cases h4 : o < 194
        · rw [can_cons (cnt2 (by omega)) h3]
          show ccFin 2 1 (o - 192) = -1
          rw [(fin2 _).1, if_pos (by omega)]
        · rw [can_cons (cnt4 (by omega)) h3]
          show ccFin 4 3 (o - 240) = -1
          rw [(fin4 _).1, if_pos (by omega)]
    · have hl := lowL_is o
      have hh := highL_is o
      refine .inr (.inr ?_)
      by_cases h3 : o < 224
      · refine ⟨?_, ?_⟩
        · rw [can_cons (cnt2 (by omega)) (by omega)]
          show 0 < ccFin 2 1 (o - 192)
          rw [(fin2 _).1, if_neg (by omega)]
          decide
        · obtain ⟨u', a, b, d⟩ := lead_wt (u := u) (o := o) (c := 2) h0 (by omega) (pk1 (by omega)) (by omega) (by show 128 = _; omega) (by show 191 = _; omega) rfl rfl
          exact ⟨u', a, b, 2, d⟩
      · by_cases h4 : o < 240
        · refine ⟨?_, ?_⟩
          · rw [can_cons (cnt3 (by omega)) (by omega)]
            show 0 < ccFin 3 2 (o - 224)
            rw [(fin3 _).1, if_neg (by omega)]
            decide
          · have z : ∃ u', u8take u o = some u' ∧ u'.pts = u.pts ∧ Wt u' o [] 3 := by
              by_cases d1 : o < 225
              · exact lead_wt h0 (by omega) (pk2 (by omega)) (by omega) (by show 160 = _; omega) (by show 191 = _; omega) rfl rfl
              · by_cases d2 : o < 237
                · exact lead_wt h0 (by omega) (pk3 (by omega)) (by omega) (by show 128 = _; omega) (by show 191 = _; omega) rfl rfl
                · by_cases d3 : o < 238
                  · exact lead_wt h0 (by omega) (pk4 (by omega)) (by omega) (by show 128 = _; omega) (by show 159 = _; omega) rfl rfl
                  · exact lead_wt h0 (by omega) (pk5 (by omega)) (by omega) (by show 128 = _; omega) (by show 191 = _; omega) rfl rfl
            obtain ⟨u', a, b, d⟩ := z
            exact ⟨u', a, b, 3, d⟩
        · refine ⟨?_, ?_⟩
          · rw [can_cons (cnt4 (by omega)) (by omega)]
            show 0 < ccFin 4 3 (o - 240)
            rw [(fin4 _).1, if_neg (by omega)]
            decide
          · have z : ∃ u', u8take u o = some u' ∧ u'.pts = u.pts ∧ Wt u' o [] 4 := by
              by_cases d1 : o < 241
              · exact lead_wt h0 (by omega) (pk6 (by omega)) (by omega) (by show 144 = _; omega) (by show 191 = _; omega) rfl rfl
              · by_cases d2 : o < 244
                · exact lead_wt h0 (by omega) (pk7 (by omega)) (by omega) (by show 128 = _; omega) (by show 191 = _; omega) rfl rfl
                · exact lead_wt h0 (by omega) (pk8 (by omega)) (by omega) (by show 128 = _; omega) (by show 143 = _; omega) rfl rfl
            obtain ⟨u', a, b, d⟩ := z
            exact ⟨u', a, b, 4, d⟩
theorem take_no {u : U8} {o : Int} (h0 : 0 < u.left) (h : ¬ (u.low ≤ o ∧ o ≤ u.high)) : u8take u o = none := by
  unfold u8take
  rw [if_neg (by omega), if_neg h]
theorem fold_app {b d o : Int} : ∀ {r : List Int}, ccFold b r = some d → ccFold b (r ++ [o]) = ccFold d [o]
  | [], h => by cases h; rfl
  | a :: t, h => by
    by_cases c : a < 128 ∨ 191 < a
    · rw [cc_out c] at h
      cases h
    · rw [cc_in (by omega)] at h
      rw [List.cons_append, cc_in (by omega)]
      exact fold_app h
theorem in_step {u : U8} {l o c : Int} {r : List Int} (w : Wt u l r c) : Step3 u o (l :: (r ++ [o])) (fun u' => Wt u' l (r ++ [o]) c) (u.bits * 64 + o - 128) := by
  obtain ⟨hl, hf, hle, hp, h1, h2, hv⟩ := w
  have llo := lowL_is l
  have lhi := highL_is l
  have hc : cnt l = c := by
    rcases hl with ⟨rfl, a, b⟩ | ⟨rfl, a, b⟩ | ⟨rfl, a, b⟩
    · exact cnt2 (by omega)
    · exact cnt3 (by omega)
    · exact cnt4 (by omega)
  have hn : ¬ (248 ≤ l ∨ (128 ≤ l ∧ l < 192)) := by omega
  have hcc : canCome (l :: (r ++ [o])) = match ccFold u.bits [o] with
      | none => -1
      | some b => ccFin c (u.left - 1) b := by
    rw [can_cons hc hn, fold_app hf]
    have e : c - ((l :: (r ++ [o])).length : Int) = u.left - 1 := by
      simp only [List.length_cons, List.length_append, List.length_nil]
      omega
    rw [e]
  by_cases ho : o < 128 ∨ 191 < o
  · refine .inl ⟨by rw [hcc, cc_out ho], take_no hp fun z => ?_⟩
    by_cases hr : r = []
    · have := h1 hr
      omega
    · have := h2 hr
      omega
  · rw [cc_in (by omega)] at hcc
    have hcc : canCome (l :: (r ++ [o])) = ccFin c (u.left - 1) (u.bits * 64 + o - 128) := hcc
    generalize hb : u.bits * 64 + o - 128 = b at hcc ⊢
    -- what comes of it where the bounds let it in
    have goes : u.low ≤ o ∧ o ≤ u.high → canCome (l :: (r ++ [o])) = u.left - 1 → Step3 u o (l :: (r ++ [o])) (fun u' => Wt u' l (r ++ [o]) c) b := fun hin hcn => by
      by_cases hle1 : u.left = 1
      · refine .inr (.inl ⟨by omega, _, take_last hle1 hin, rfl, by dsimp only; rw [hb]⟩)
      · refine .inr (.inr ⟨by omega, _, take_more (by omega) hin, rfl, hl, ?_, ?_, ?_, fun z => by simp at z, fun _ => ⟨rfl, rfl⟩, fun a t z => ?_⟩)
        · rw [fold_app hf, cc_in (by omega)]
          rfl
        · simp only [List.length_append, List.length_cons, List.length_nil]
          omega
        · dsimp only
          omega
        · cases r with
          | nil =>
            obtain ⟨rfl, rfl⟩ := List.cons.inj z
            have := h1 rfl
            omega
          | cons a' t' =>
            obtain ⟨rfl, _⟩ := List.cons.inj z
            exact hv _ _ rfl
    have stays : ¬ (u.low ≤ o ∧ o ≤ u.high) → canCome (l :: (r ++ [o])) = -1 → Step3 u o (l :: (r ++ [o])) (fun u' => Wt u' l (r ++ [o]) c) b := fun hin hcn => .inl ⟨hcn, take_no hp hin⟩
    match r, hf, hle, h1, h2, hv with
    | [], hf, hle, h1, h2, hv =>
      have hbits : u.bits = l - baseOf c := (Option.some.inj hf).symm
      obtain ⟨b1, b2⟩ := h1 rfl
      have hle' : u.left = c - 1 := by simpa using hle
      rcases hl with ⟨rfl, a1, a2⟩ | ⟨rfl, a1, a2⟩ | ⟨rfl, a1, a2⟩
      · have hb2 : u.bits = l - 192 := hbits
        have e : u.left - 1 = 0 := by omega
        rw [e, (fin2 _).2] at hcc
        exact goes (by omega) (by rw [hcc, if_neg (by omega), e])
      · have hb2 : u.bits = l - 224 := hbits
        have e : u.left - 1 = 1 := by omega
        rw [e, (fin3 _).2.1] at hcc
        by_cases z : u.low ≤ o ∧ o ≤ u.high
        · exact goes z (by rw [hcc, if_neg (by omega), e])
        · exact stays z (by rw [hcc, if_pos (by omega)])
      · have hb2 : u.bits = l - 240 := hbits
        have e : u.left - 1 = 2 := by omega
        rw [e, (fin4 _).2.1] at hcc
        by_cases z : u.low ≤ o ∧ o ≤ u.high
        · exact goes z (by rw [hcc, if_neg (by omega), e])
        · exact stays z (by rw [hcc, if_pos (by omega)])
    | [a], hf, hle, h1, h2, hv =>
      obtain ⟨b1, b2⟩ := h2 (by simp)
      obtain ⟨v1, v2⟩ := hv a [] rfl
      have hin : u.low ≤ o ∧ o ≤ u.high := by omega
      have ha : 128 ≤ a ∧ a ≤ 191 := by omega
      rw [cc_in ha] at hf
      have hbits : u.bits = (l - baseOf c) * 64 + a - 128 := (Option.some.inj hf).symm
      have hle' : u.left = c - 2 := by simp at hle; omega
      rcases hl with ⟨rfl, a1, a2⟩ | ⟨rfl, a1, a2⟩ | ⟨rfl, a1, a2⟩
      · omega
      · have hb2 : u.bits = (l - 224) * 64 + a - 128 := hbits
        have e : u.left - 1 = 0 := by omega
        rw [e, (fin3 _).2.2] at hcc
        exact goes hin (by rw [hcc, if_neg (by omega), e])
      · have hb2 : u.bits = (l - 240) * 64 + a - 128 := hbits
        have e : u.left - 1 = 1 := by omega
        rw [e, (fin4 _).2.2.1] at hcc
        exact goes hin (by rw [hcc, if_neg (by omega), e])
    | [a, a'], hf, hle, h1, h2, hv =>
      obtain ⟨b1, b2⟩ := h2 (by simp)
      obtain ⟨v1, v2⟩ := hv a [a'] rfl
      have hin : u.low ≤ o ∧ o ≤ u.high := by omega
      have ha : 128 ≤ a ∧ a ≤ 191 := by omega
      rw [cc_in ha] at hf
      have ha' : ¬ (a' < 128 ∨ 191 < a') := fun z => by rw [cc_out z] at hf; cases hf
      rw [cc_in (by omega)] at hf
      have hbits : u.bits = ((l - baseOf c) * 64 + a - 128) * 64 + a' - 128 := (Option.some.inj hf).symm
      have hle' : u.left = c - 3 := by simp at hle; omega
      rcases hl with ⟨rfl, a1, a2⟩ | ⟨rfl, a1, a2⟩ | ⟨rfl, a1, a2⟩
      · omega
      · omega
      · have hb2 : u.bits = ((l - 240) * 64 + a - 128) * 64 + a' - 128 := hbits
        have e : u.left - 1 = 0 := by omega
        rw [e, (fin4 _).2.2.2] at hcc
        exact goes hin (by rw [hcc, if_neg (by omega), e])
    | a :: a' :: a'' :: t, hf, hle, h1, h2, hv =>
      simp at hle
      omega
/-! ### == of rows of ints and of pairs -/
section
variable {K : PySem.W.Frag} {H : Hp} {Q : VK} {a b : Addr}
theorem dpInts : ∀ ns : List Int, DpAll K H (ns.map V.int) (ns.map PyData.int)
  | [] => .nil
  | n :: ns => .cons (.int n) (dpInts ns)
theorem layInts : ∀ ns : List Int, PyData.canLayAll0 (ns.map PyData.int) = true
  | [] => by simp [PyData.canLayAll0]
  | n :: ns => by simp [PyData.canLayAll0, PyData.canLay0, layInts ns]
theorem depInts : ∀ ns : List Int, PyData.depthAll (ns.map PyData.int) = 0
  | [] => by simp [PyData.depthAll]
  | n :: ns => by simp [PyData.depthAll, PyData.depth, depInts ns]
theorem eqvInts : ∀ ns ms : List Int, PyData.eqvAll (ns.map PyData.int) (ms.map PyData.int) = decide (ns = ms)
  | [], [] => by simp [PyData.eqvAll]
  | [], m :: ms => by simp [PyData.eqvAll]
  | n :: ns, [] => by simp [PyData.eqvAll]
  | n :: ns, m :: ms => by simp [PyData.eqvAll, PyData.eqv, eqvInts ns ms, Bool.beq_eq_decide_eq]
theorem shL (ns : List Int) : SeqAt.shaped (.list (ns.map PyData.int)) = true := by simp [SeqAt.shaped, PyData.canLay0, PyData.depth, layInts, depInts]
theorem shT (ns : List Int) : SeqAt.shaped (.tuple (ns.map PyData.int)) = true := by simp [SeqAt.shaped, PyData.canLay0, PyData.depth, layInts, depInts]
theorem i_neL {ns ms : List Int} (h : SqL K H a (ns.map V.int)) (h2 : SqL K H b (ms.map V.int)) (hq : Q (.bl (!decide (ns = ms))) H) : rNeD K (.ref a) (.ref b) H Q :=
  ⟨_, _, .lst h (dpInts ns), .lst h2 (dpInts ms), shL _, shL _, by simpa [PyData.eqv, eqvInts] using hq⟩
theorem i_eqL {ns ms : List Int} (h : SqL K H a (ns.map V.int)) (h2 : SqL K H b (ms.map V.int)) (hq : Q (.bl (decide (ns = ms))) H) : rEqD K (.ref a) (.ref b) H Q :=
  ⟨_, _, .lst h (dpInts ns), .lst h2 (dpInts ms), shL _, shL _, by simpa [PyData.eqv, eqvInts] using hq⟩
/-- a pair: a tuple of ints or None; an int or None -/
def prD : Option (List Int) → Option Int → PyData
  | some ps, some i => .tuple [.tuple (ps.map PyData.int), .int i]
  | some ps, none => .tuple [.tuple (ps.map PyData.int), .none]
  | none, some i => .tuple [.none, .int i]
  | none, none => .tuple [.none, .none]
theorem shP (x : Option (List Int)) (y : Option Int) : SeqAt.shaped (prD x y) = true := by
  cases x <;> cases y <;> simp [prD, SeqAt.shaped, PyData.canLay0, PyData.canLayAll0, PyData.depth, PyData.depthAll, layInts, depInts]
theorem eqvP (x x' : Option (List Int)) (y y' : Option Int) : PyData.eqv (prD x y) (prD x' y') = decide (x = x' ∧ y = y') := by
  cases x <;> cases y <;> cases x' <;> cases y' <;> simp [prD, PyData.eqv, PyData.eqvAll, eqvInts, Bool.beq_eq_decide_eq]
/-- such a pair stands at a -/
def PrAt (K : PySem.W.Frag) (H : Hp) (q : Addr) (x : Option (List Int)) (y : Option Int) : Prop := Dp K H (.ref q) (prD x y)
theorem prT {t : Addr} {ps : List Int} (h : SqT K H a [.ref t, .non]) (h2 : SqT K H t (ps.map V.int)) : PrAt K H a (some ps) none := Dp.tup h (.cons (.tup h2 (dpInts ps)) (.cons .non .nil))
theorem prI {i : Int} (h : SqT K H a [.non, .int i]) : PrAt K H a none (some i) := Dp.tup h (.cons .non (.cons (.int i) .nil))
theorem i_neR {x x' : Option (List Int)} {y y' : Option Int} (h : PrAt K H a x y) (h2 : PrAt K H b x' y') (hq : Q (.bl (!decide (x = x' ∧ y = y'))) H) : rNeD K (.ref a) (.ref b) H Q :=
  ⟨_, _, h, h2, shP _ _, shP _ _, by rw [eqvP]; exact hq⟩
theorem i_eqR {x x' : Option (List Int)} {y y' : Option Int} (h : PrAt K H a x y) (h2 : PrAt K H b x' y') (hq : Q (.bl (decide (x = x' ∧ y = y'))) H) : rEqD K (.ref a) (.ref b) H Q :=
  ⟨_, _, h, h2, shP _ _, shP _ _, by rw [eqvP]; exact hq⟩
theorem DecAt.pr {q : Addr} {r : Option (List Int) × Option Int} (h : DecAt H q r) (w : r.1.isSome = true → r.2 = none) : PrAt K H q r.1 r.2 := by
  obtain ⟨x, y⟩ := r
  cases x with
  | some ps =>
    obtain ⟨t, h1, h2⟩ := h
    obtain rfl : y = none := w rfl
    exact prT (SqT.of h1) (SqT.of h2)
  | none =>
    cases y with
    | some i => exact prI (SqT.of h)
    | none => exact h.elim
end
/-! ### pairs of ints, picks out of a list -/
section
variable {K : PySem.W.Frag} {H : Hp} {q : Addr}
theorem atI_pick {xs : List Int} {r : Int} (h0 : 0 ≤ r) (h1 : r < xs.length) : ∃ v ∈ xs, atI (xs.map V.int) r = some (.int v) := by
  obtain ⟨j, rfl⟩ : ∃ j : Nat, r = j := ⟨r.toNat, by omega⟩
  have h : j < xs.length := by omega
  exact ⟨xs[j], List.getElem_mem h, atI_map h⟩
theorem dp2 {u v : Int} (h : SqT K H q [.int u, .int v]) : Dp K H (.ref q) (.tuple [.int u, .int v]) := .tup h (.cons (.int u) (.cons (.int v) .nil))
theorem sh2 (u v : Int) : SeqAt.shaped (.tuple [.int u, .int v]) = true := by
  simp [SeqAt.shaped, PyData.canLay0, PyData.canLayAll0, PyData.depth, PyData.depthAll]
theorem eqv2 (u v u' v' : Int) : PyData.eqv (.tuple [.int u, .int v]) (.tuple [.int u', .int v']) = decide (u = u' ∧ v = v') := by
  simp [PyData.eqv, PyData.eqvAll, Bool.beq_eq_decide_eq]
theorem i_neP {q q2 : Addr} {u v u' v' : Int} {Q : VK} (h : SqT K H q [.int u, .int v]) (h2 : SqT K H q2 [.int u', .int v']) (hq : Q (.bl (!decide (u = u' ∧ v = v'))) H) : rNeD K (.ref q) (.ref q2) H Q :=
  ⟨_, _, dp2 h, dp2 h2, sh2 _ _, sh2 _ _, by rw [eqv2]; exact hq⟩
theorem i_eqP {q q2 : Addr} {u v u' v' : Int} {Q : VK} (h : SqT K H q [.int u, .int v]) (h2 : SqT K H q2 [.int u', .int v']) (hq : Q (.bl (decide (u = u' ∧ v = v'))) H) : rEqD K (.ref q) (.ref q2) H Q :=
  ⟨_, _, dp2 h, dp2 h2, sh2 _ _, sh2 _ _, by rw [eqv2]; exact hq⟩
theorem kitI : kitB "int" "int" = some true := by decide +kernel
theorem kitIB : kitB "int" "bool" = some false := by decide +kernel
theorem kitT : kitB "tuple" "tuple" = some true := by decide +kernel
theorem i_isi {x : V} {t c : String} {b : Bool} {Q : VK} (ty : TyX K H x (.type t)) (k : kitB t c = some b) (h : Q (.bl b) H) : rIsi K [x, .ty c] H Q := ⟨x, .ty c, .type t, .type c, b, rfl, .ty c, ty, kit_ty k, h⟩
theorem i_isiIB {i : Int} {Q : VK} (h : Q (.bl false) H) : rIsi K [.int i, .ty "bool"] H Q := i_isi (.base (.int i)) kitIB h
theorem i_isiT {xs : List V} {Q : VK} (e : H q = some (.tup xs)) (h : Q (.bl true) H) : rIsi K [.ref q, .ty "tuple"] H Q := i_isi (.base (.tup e)) kitT h
theorem natAbs_lt {x : Int} {n : Nat} (h0 : 0 ≤ x) (h : x < (n : Int)) : x.natAbs < n := by omega
/-- a pick out of a list of ints that was just made -/
theorem i_pick {p : Pst} {l : Addr} {xs : List Int} {r : Int} {H0 H1 H2 : Hp} {Q : VK} {left last : Int} (d : Dr K p left last H0) (n : NewAt H0 l (.lst (xs.map V.int)) H1) (k : Keep [p] H1 H2) (r0 : 0 ≤ r) (r1 : r < xs.length) (h : ∀ v ∈ xs, Q (.int v) H2) : rIxL K (.ref l) (.int r) H2 Q := by
  obtain ⟨v, hv, ha⟩ := atI_pick r0 r1
  exact i_ixL (k.sqL (by simpa using (d.ne n).symm) n.sqL) ha (h v hv)
end
def sp__law_written (K : PySem.W.Frag) : Sp := sp_encode_point K
def okOc (o : Int) : Prop := 0 ≤ o ∧ o ≤ 255
def sp__law_octets (K : PySem.W.Frag) : Sp := fun vs H Q _ => ∃ p : Pst, vs = [.ref p] ∧ Dr K p 0 3 H ∧ ∀ (q : Addr) (os : List Int) (H1 : Hp), H q = none → H1 q = some (.lst (os.map V.int)) → os.length ≤ 100 → (∀ o ∈ os, okOc o) → Dr K p 0 3 H1 → Keep [p] H H1 → Q (.ref q) H1
def sp__law_can_come (K : PySem.W.Frag) : Sp := fun vs H Q _ => ∃ (a : Addr) (l : Int) (r : List Int), vs = [.ref a] ∧ SqL K H a ((l :: r).map V.int) ∧ r.length ≤ 1000 ∧ ∀ H1, Keep [] H H1 → Q (.int (canCome (l :: r))) H1
def sp_law (K : PySem.W.Frag) : Sp := fun vs H Q _ => ∃ (a : Addr) (ns : List Int), vs = [.ref a] ∧ SqL K H a (ns.map V.int) ∧ ns.length ≤ 63 ∧ Only H ∧ ∀ H', Q (.bl true) H'
/-! _law_written(_law_point) : _law_point=0 -/
def N__law_written : List Str := ["_law_point"]
def t__law_written_0a_0 (K : PySem.W.Frag) : TS := (tRet (tLst (tCons (tVar 0) tNil)))
def t__law_written_1a_0 (K : PySem.W.Frag) : TS := (tRet (tLst (tCons (tOp rAddI (tC (.int 192)) (tOp rDivI (tVar 0) (tC (.int 64)))) (tCons (tOp rAddI (tC (.int 128)) (tOp rModI (tVar 0) (tC (.int 64)))) tNil))))
def t__law_written_2a_0 (K : PySem.W.Frag) : TS := (tRet (tLst (tCons (tOp rAddI (tC (.int 224)) (tOp rDivI (tVar 0) (tC (.int 4096)))) (tCons (tOp rAddI (tC (.int 128)) (tOp rModI (tOp rDivI (tVar 0) (tC (.int 64))) (tC (.int 64)))) (tCons (tOp rAddI (tC (.int 128)) (tOp rModI (tVar 0) (tC (.int 64)))) tNil)))))
def t__law_written_3 (K : PySem.W.Frag) : TS := (tRet (tLst (tCons (tOp rAddI (tC (.int 240)) (tOp rDivI (tVar 0) (tC (.int 262144)))) (tCons (tOp rAddI (tC (.int 128)) (tOp rModI (tOp rDivI (tVar 0) (tC (.int 4096))) (tC (.int 64)))) (tCons (tOp rAddI (tC (.int 128)) (tOp rModI (tOp rDivI (tVar 0) (tC (.int 64))) (tC (.int 64)))) (tCons (tOp rAddI (tC (.int 128)) (tOp rModI (tVar 0) (tC (.int 64)))) tNil))))))
def t__law_written_2 (K : PySem.W.Frag) : TS := tSeq (tIfS (tTest (tOp rLtI (tVar 0) (tC (.int 65536)))) (t__law_written_2a_0 K) tNext) (t__law_written_3 K)
def t__law_written_1 (K : PySem.W.Frag) : TS := tSeq (tIfS (tTest (tOp rLtI (tVar 0) (tC (.int 2048)))) (t__law_written_1a_0 K) tNext) (t__law_written_2 K)
def t__law_written_0 (K : PySem.W.Frag) : TS := tSeq (tIfS (tTest (tOp rLtI (tVar 0) (tC (.int 128)))) (t__law_written_0a_0 K) tNext) (t__law_written_1 K)
/-! _law_octets(_law_state_here) : _law_state_here=0 _law_octets_here=1 _law_k=2 _law_edges=3 _law_at=4 _law_pick=5 _law_odd=6 -/
def N__law_octets : List Str := ["_law_state_here", "_law_octets_here", "_law_k", "_law_edges", "_law_at", "_law_pick", "_law_odd"]
def t__law_octets_1a_0 (K : PySem.W.Frag) : TS := (tRet (tLc (iRng1 (tCons (tOp rAddI (tC (.int 1)) (tCall (sp__law_next K) [] E0 (tCons (tVar 0) (tCons (tC (.int 4)) tNil)))) tNil)) (gName 2) tYes (tOp rAddI (tC (.int 120)) (tCall (sp__law_next K) [] E0 (tCons (tVar 0) (tCons (tC (.int 136)) tNil)))) [2]))
def t__law_octets_2a_1 (K : PySem.W.Frag) : TS := (tAsg (tOp rCat (tVar 1) (tCall (sp__law_written K) [] E0 (tCons (tOp (rIxL K) (tVar 3) (tCall (sp__law_next K) [] E0 (tCons (tVar 0) (tCons (tC (.int 12)) tNil)))) tNil))) (gName 1))
def t__law_octets_2a_0 (K : PySem.W.Frag) : TS := tSeq (tAsg (tLst (tCons (tC (.int 0)) (tCons (tC (.int 127)) (tCons (tC (.int 128)) (tCons (tC (.int 2047)) (tCons (tC (.int 2048)) (tCons (tC (.int 55295)) (tCons (tC (.int 57344)) (tCons (tC (.int 65535)) (tCons (tC (.int 65536)) (tCons (tC (.int 1114111)) (tCons (tC (.int 97)) (tCons (tC (.int 8364)) tNil))))))))))))) (gName 3)) (t__law_octets_2a_1 K)
def t__law_octets_3a_3a_0 (K : PySem.W.Frag) : TS := (tAsg (tOp rCat (tSl (rSlL K) (tVar 1) tNoPart (tPart (tVar 4))) (tSl (rSlL K) (tVar 1) (tPart (tOp rAddI (tVar 4) (tC (.int 1)))) tNoPart)) (gName 1))
def t__law_octets_3a_3b_0a_0 (K : PySem.W.Frag) : TS := (tAsg (tOp rCat (tOp rCat (tSl (rSlL K) (tVar 1) tNoPart (tPart (tVar 4))) (tLst (tCons (tVar 6) tNil))) (tSl (rSlL K) (tVar 1) (tPart (tVar 4)) tNoPart)) (gName 1))
def t__law_octets_3a_3b_0b_0a_0 (K : PySem.W.Frag) : TS := (tAsg (tOp rCat (tOp rCat (tSl (rSlL K) (tVar 1) tNoPart (tPart (tVar 4))) (tLst (tCons (tVar 6) tNil))) (tSl (rSlL K) (tVar 1) (tPart (tOp rAddI (tVar 4) (tC (.int 1)))) tNoPart)) (gName 1))
def t__law_octets_3a_3b_0b_0b_0 (K : PySem.W.Frag) : TS := (tAsg (tSl (rSlL K) (tVar 1) tNoPart (tPart (tVar 4))) (gName 1))
def t__law_octets_3a_3b_0b_0 (K : PySem.W.Frag) : TS := (tIfS (tTest (tOp rEq (tVar 5) (tC (.int 2)))) (t__law_octets_3a_3b_0b_0a_0 K) (t__law_octets_3a_3b_0b_0b_0 K))
def t__law_octets_3a_3b_0 (K : PySem.W.Frag) : TS := (tIfS (tTest (tOp rEq (tVar 5) (tC (.int 1)))) (t__law_octets_3a_3b_0a_0 K) (t__law_octets_3a_3b_0b_0 K))
def t__law_octets_3a_3 (K : PySem.W.Frag) : TS := (tIfS (tTest (tOp rEq (tVar 5) (tC (.int 0)))) (t__law_octets_3a_3a_0 K) (t__law_octets_3a_3b_0 K))
def t__law_octets_3a_2 (K : PySem.W.Frag) : TS := tSeq (tAsg (tOp (rIxL K) (tLst (tCons (tC (.int 128)) (tCons (tC (.int 191)) (tCons (tC (.int 192)) (tCons (tC (.int 193)) (tCons (tC (.int 224)) (tCons (tC (.int 237)) (tCons (tC (.int 240)) (tCons (tC (.int 244)) (tCons (tC (.int 245)) (tCons (tC (.int 255)) (tCons (tC (.int 97)) (tCons (tC (.int 159)) (tCons (tC (.int 160)) (tCons (tC (.int 143)) (tCons (tC (.int 144)) tNil)))))))))))))))) (tCall (sp__law_next K) [] E0 (tCons (tVar 0) (tCons (tC (.int 15)) tNil)))) (gName 6)) (t__law_octets_3a_3 K)
def t__law_octets_3a_1 (K : PySem.W.Frag) : TS := tSeq (tAsg (tCall (sp__law_next K) [] E0 (tCons (tVar 0) (tCons (tC (.int 4)) tNil))) (gName 5)) (t__law_octets_3a_2 K)
def t__law_octets_3a_0 (K : PySem.W.Frag) : TS := tSeq (tAsg (tCall (sp__law_next K) [] E0 (tCons (tVar 0) (tCons (tOp rAddI (tCB (rLenQ K) (tCons (tVar 1) tNil)) (tC (.int 1))) tNil))) (gName 4)) (t__law_octets_3a_1 K)
def t__law_octets_4 (K : PySem.W.Frag) : TS := (tRet (tVar 1))
def t__law_octets_3 (K : PySem.W.Frag) : TS := tSeq (tFor (iRng1 (tCons (tCall (sp__law_next K) [] E0 (tCons (tVar 0) (tCons (tC (.int 3)) tNil))) tNil)) (gName 2) (t__law_octets_3a_0 K)) (t__law_octets_4 K)
def t__law_octets_2 (K : PySem.W.Frag) : TS := tSeq (tFor (iRng1 (tCons (tCall (sp__law_next K) [] E0 (tCons (tVar 0) (tCons (tC (.int 5)) tNil))) tNil)) (gName 2) (t__law_octets_2a_0 K)) (t__law_octets_3 K)
def t__law_octets_1 (K : PySem.W.Frag) : TS := tSeq (tIfS (tTest (tOp rEq (tCall (sp__law_next K) [] E0 (tCons (tVar 0) (tCons (tC (.int 4)) tNil))) (tC (.int 0)))) (t__law_octets_1a_0 K) tNext) (t__law_octets_2 K)
def t__law_octets_0 (K : PySem.W.Frag) : TS := tSeq (tAsg (tLst tNil) (gName 1)) (t__law_octets_1 K)
/-! _law_can_come(_law_octets_here) : _law_octets_here=0 _law_lead=1 _law_count=2 _law_bits=3 _law_octet=4 _law_low=5 _law_high=6 _law_k=7 -/
def N__law_can_come : List Str := ["_law_octets_here", "_law_lead", "_law_count", "_law_bits", "_law_octet", "_law_low", "_law_high", "_law_k"]
def t__law_can_come_2a_0 (K : PySem.W.Frag) : TS := (tRet (tUn rNegI (tC (.int 1))))
def t__law_can_come_4a_0a_0 (K : PySem.W.Frag) : TS := (tRet (tUn rNegI (tC (.int 1))))
def t__law_can_come_4a_1 (K : PySem.W.Frag) : TS := (tAsg (tOp rSubI (tOp rAddI (tOp rMulI (tVar 3) (tC (.int 64))) (tVar 4)) (tC (.int 128))) (gName 3))
def t__law_can_come_4a_0 (K : PySem.W.Frag) : TS := tSeq (tIfS (tOr (tTest (tOp rLtI (tVar 4) (tC (.int 128)))) (tTest (tOp rGtI (tVar 4) (tC (.int 191))))) (t__law_can_come_4a_0a_0 K) tNext) (t__law_can_come_4a_1 K)
def t__law_can_come_7a_1 (K : PySem.W.Frag) : TS := (tAsg (tOp rAddI (tOp rMulI (tVar 6) (tC (.int 64))) (tC (.int 63))) (gName 6))
def t__law_can_come_7a_0 (K : PySem.W.Frag) : TS := tSeq (tAsg (tOp rMulI (tVar 5) (tC (.int 64))) (gName 5)) (t__law_can_come_7a_1 K)
def t__law_can_come_10a_0 (K : PySem.W.Frag) : TS := (tRet (tUn rNegI (tC (.int 1))))
def t__law_can_come_11 (K : PySem.W.Frag) : TS := (tRet (tOp rSubI (tVar 2) (tCB (rLenQ K) (tCons (tVar 0) tNil))))
def t__law_can_come_10 (K : PySem.W.Frag) : TS := tSeq (tIfS (tOr (tTest (tOp rGtI (tVar 5) (tVar 6))) (tAnd (tTest (tOp rGeI (tVar 5) (tC (.int 55296)))) (tTest (tOp rLeI (tVar 6) (tC (.int 57343)))))) (t__law_can_come_10a_0 K) tNext) (t__law_can_come_11 K)
def t__law_can_come_9 (K : PySem.W.Frag) : TS := tSeq (tAsg (tCB (rMin K) (tCons (tLst (tCons (tVar 6) (tCons (tOp (rIxL K) (tLst (tCons (tC (.int 127)) (tCons (tC (.int 2047)) (tCons (tC (.int 65535)) (tCons (tC (.int 1114111)) tNil))))) (tOp rSubI (tVar 2) (tC (.int 1)))) tNil))) tNil)) (gName 6)) (t__law_can_come_10 K)
def t__law_can_come_8 (K : PySem.W.Frag) : TS := tSeq (tAsg (tCB (rMax K) (tCons (tLst (tCons (tVar 5) (tCons (tOp (rIxL K) (tLst (tCons (tC (.int 0)) (tCons (tC (.int 128)) (tCons (tC (.int 2048)) (tCons (tC (.int 65536)) tNil))))) (tOp rSubI (tVar 2) (tC (.int 1)))) tNil))) tNil)) (gName 5)) (t__law_can_come_9 K)
def t__law_can_come_7 (K : PySem.W.Frag) : TS := tSeq (tFor (iRng1 (tCons (tOp rSubI (tVar 2) (tCB (rLenQ K) (tCons (tVar 0) tNil))) tNil)) (gName 7) (t__law_can_come_7a_0 K)) (t__law_can_come_8 K)
def t__law_can_come_6 (K : PySem.W.Frag) : TS := tSeq (tAsg (tVar 3) (gName 6)) (t__law_can_come_7 K)
def t__law_can_come_5 (K : PySem.W.Frag) : TS := tSeq (tAsg (tVar 3) (gName 5)) (t__law_can_come_6 K)
def t__law_can_come_4 (K : PySem.W.Frag) : TS := tSeq (tFor (iList K (tSl (rSlL K) (tVar 0) (tPart (tC (.int 1))) tNoPart)) (gName 4) (t__law_can_come_4a_0 K)) (t__law_can_come_5 K)
def t__law_can_come_3 (K : PySem.W.Frag) : TS := tSeq (tAsg (tOp rSubI (tVar 1) (tOp (rIxL K) (tLst (tCons (tC (.int 0)) (tCons (tC (.int 192)) (tCons (tC (.int 224)) (tCons (tC (.int 240)) tNil))))) (tOp rSubI (tVar 2) (tC (.int 1))))) (gName 3)) (t__law_can_come_4 K)
def t__law_can_come_2 (K : PySem.W.Frag) : TS := tSeq (tIfS (tOr (tTest (tOp rGeI (tVar 1) (tC (.int 248)))) (tAnd (tTest (tOp rLeI (tC (.int 128)) (tVar 1))) (tTest (tOp rLtI (tVar 1) (tC (.int 192)))))) (t__law_can_come_2a_0 K) tNext) (t__law_can_come_3 K)
def t__law_can_come_1 (K : PySem.W.Frag) : TS := tSeq (tAsg (tOp rAddI (tOp rAddI (tOp rAddI (tC (.int 1)) (tCB rInt1 (tCons (tOp rGeI (tVar 1) (tC (.int 192))) tNil))) (tCB rInt1 (tCons (tOp rGeI (tVar 1) (tC (.int 224))) tNil))) (tCB rInt1 (tCons (tOp rGeI (tVar 1) (tC (.int 240))) tNil))) (gName 2)) (t__law_can_come_2 K)
def t__law_can_come_0 (K : PySem.W.Frag) : TS := tSeq (tAsg (tOp (rIxL K) (tVar 0) (tC (.int 0))) (gName 1)) (t__law_can_come_1 K)
/-! law(_law_script) : _law_script=0 _law_state_here=1 _law_octets_here=2 _law_due=3 _law_begun=4 _law_k=5 _law_left=6 _law_told=7 _law_machine=8 _law_octet=9 _law_before=10 _law_odd=11 _law_follow=12 _law_point=13 -/
def N_law : List Str := ["_law_script", "_law_state_here", "_law_octets_here", "_law_due", "_law_begun", "_law_k", "_law_left", "_law_told", "_law_machine", "_law_octet", "_law_before", "_law_odd", "_law_follow", "_law_point"]
def t_law_4a_0a_1a_0 (K : PySem.W.Frag) : TS := (tAsg (tVar 5) (gName 3))
def t_law_4a_0a_1b_0a_0 (K : PySem.W.Frag) : TS := (tAsg (tLst tNil) (gName 4))
def t_law_4a_0a_1b_0b_0 (K : PySem.W.Frag) : TS := (tAsg (tOp rCat (tVar 4) (tLst (tCons (tOp (rIxL K) (tVar 2) (tVar 5)) tNil))) (gName 4))
def t_law_4a_0a_1b_0 (K : PySem.W.Frag) : TS := (tIfS (tTest (tOp rEq (tVar 6) (tC (.int 0)))) (t_law_4a_0a_1b_0a_0 K) (t_law_4a_0a_1b_0b_0 K))
def t_law_4a_0a_1 (K : PySem.W.Frag) : TS := (tIfS (tTest (tOp rLtI (tVar 6) (tC (.int 0)))) (t_law_4a_0a_1a_0 K) (t_law_4a_0a_1b_0 K))
def t_law_4a_0a_0 (K : PySem.W.Frag) : TS := tSeq (tAsg (tCall (sp__law_can_come K) [] E0 (tCons (tOp rCat (tVar 4) (tLst (tCons (tOp (rIxL K) (tVar 2) (tVar 5)) tNil))) tNil)) (gName 6)) (t_law_4a_0a_1 K)
def t_law_4a_0 (K : PySem.W.Frag) : TS := (tIfS (tTest (tOp rIsN (tVar 3) (tC .non))) (t_law_4a_0a_0 K) tNext)
def t_law_6a_0 (K : PySem.W.Frag) : TS := (tRet (tAndV (tCB (rIsi K) (tCons (tVar 7) (tCons (tC (.ty "tuple")) tNil))) (tAndV (tOp rEq (tCB (rLenQ K) (tCons (tVar 7) tNil)) (tC (.int 2))) (tOp rIsN (tOp (rIxT K) (tVar 7) (tC (.int 1))) (tC .non)))))
def t_law_7a_0 (K : PySem.W.Frag) : TS := (tRet (tOp (rEqD K) (tVar 7) (tTup (tCons (tC .non) (tCons (tOp rSubI (tCB (rLenQ K) (tCons (tVar 2) tNil)) (tC (.int 1))) tNil)))))
def t_law_8a_0 (K : PySem.W.Frag) : TS := (tRet (tC (.bl false)))
def t_law_10a_0a_0 (K : PySem.W.Frag) : TS := (tRet (tC (.bl false)))
def t_law_10a_0 (K : PySem.W.Frag) : TS := (tIfS (tTest (tOp rNotB (tMeth (gA "Utf8" K) "take" (sp_Utf8_take K) [] E0 (tVar 8) (tCons (tVar 9) tNil)) (tC (.bl true)))) (t_law_10a_0a_0 K) tNext)
def t_law_12a_0a_0 (K : PySem.W.Frag) : TS := (tRet (tC (.bl false)))
def t_law_12a_0 (K : PySem.W.Frag) : TS := (tIfS (tOr (tTest (tOp rNotB (tMeth (gA "Utf8" K) "take" (sp_Utf8_take K) [] E0 (tVar 8) (tCons (tVar 9) tNil)) (tC (.bl false)))) (tTest (tOp (rNeD K) (tTup (tCons (tFld K (tVar 8) "points") (tCons (tProp (gA "Utf8" K) (sp_Utf8_is_open K) [] E0 (tVar 8)) tNil))) (tVar 10)))) (t_law_12a_0a_0 K) tNext)
def t_law_13a_0 (K : PySem.W.Frag) : TS := (tRet (tAndV (tOp rIsB (tMeth (gA "Utf8" K) "take" (sp_Utf8_take K) [] E0 (tVar 8) (tCons (tC (.int 97)) tNil)) (tC (.bl true))) (tOp rEq (tOp (rIxL K) (tFld K (tVar 8) "points") (tUn rNegI (tC (.int 1)))) (tC (.int 97)))))
def t_law_14a_2a_0 (K : PySem.W.Frag) : TS := (tRet (tC (.bl false)))
def t_law_14a_3a_0 (K : PySem.W.Frag) : TS := tBreak
def t_law_14a_3 (K : PySem.W.Frag) : TS := (tIfS (tTest (tOp rEq (tCall (sp__law_can_come K) [] E0 (tCons (tVar 4) tNil)) (tC (.int 0)))) (t_law_14a_3a_0 K) tNext)
def t_law_14a_2 (K : PySem.W.Frag) : TS := tSeq (tIfS (tTest (tOp rNotB (tMeth (gA "Utf8" K) "take" (sp_Utf8_take K) [] E0 (tVar 8) (tCons (tOp (rIxL K) (tVar 4) (tOp rSubI (tCB (rLenQ K) (tCons (tVar 4) tNil)) (tC (.int 1)))) tNil)) (tC (.bl true)))) (t_law_14a_2a_0 K) tNext) (t_law_14a_3 K)
def t_law_14a_1 (K : PySem.W.Frag) : TS := tSeq (tDrop (tBM K "list" rAppend (tVar 4) (tCons (tOp (rIxL K) (tVar 12) (tCall (sp__law_next K) [] E0 (tCons (tVar 1) (tCons (tCB (rLenQ K) (tCons (tVar 12) tNil)) tNil)))) tNil))) (t_law_14a_2 K)
def t_law_14a_0 (K : PySem.W.Frag) : TS := tSeq (tAsg (tLc (iList K (tLst (tCons (tC (.int 128)) (tCons (tC (.int 144)) (tCons (tC (.int 160)) (tCons (tC (.int 191)) tNil)))))) (gName 9) (tTest (tOp rGeI (tCall (sp__law_can_come K) [] E0 (tCons (tOp rCat (tVar 4) (tLst (tCons (tVar 9) tNil))) tNil)) (tC (.int 0)))) (tVar 9) [9]) (gName 12)) (t_law_14a_1 K)
def t_law_16a_0 (K : PySem.W.Frag) : TS := (tAsg (tOp rSubI (tOp rAddI (tOp rMulI (tVar 13) (tC (.int 64))) (tVar 9)) (tC (.int 128))) (gName 13))
def t_law_17 (K : PySem.W.Frag) : TS := (tRet (tAndV (tOp (rEqD K) (tFld K (tVar 8) "points") (tOp rCat (tOp (rIxT K) (tVar 10) (tC (.int 0))) (tLst (tCons (tVar 13) tNil)))) (tOp rIsB (tProp (gA "Utf8" K) (sp_Utf8_is_open K) [] E0 (tVar 8)) (tC (.bl false)))))
def t_law_16 (K : PySem.W.Frag) : TS := tSeq (tFor (iList K (tSl (rSlL K) (tVar 4) (tPart (tC (.int 1))) tNoPart)) (gName 9) (t_law_16a_0 K)) (t_law_17 K)
def t_law_15 (K : PySem.W.Frag) : TS := tSeq (tAsg (tOp rSubI (tOp (rIxL K) (tVar 4) (tC (.int 0))) (tOp (rIxL K) (tLst (tCons (tC (.int 192)) (tCons (tC (.int 224)) (tCons (tC (.int 240)) tNil)))) (tOp rSubI (tCB (rLenQ K) (tCons (tVar 4) tNil)) (tC (.int 2))))) (gName 13)) (t_law_16 K)
def t_law_14 (K : PySem.W.Frag) : TS := tSeq (tFor (iRng1 (tCons (tC (.int 3)) tNil)) (gName 5) (t_law_14a_0 K)) (t_law_15 K)
def t_law_13 (K : PySem.W.Frag) : TS := tSeq (tIfS (tTest (tOp (rEqD K) (tVar 4) (tLst tNil))) (t_law_13a_0 K) tNext) (t_law_14 K)
def t_law_12 (K : PySem.W.Frag) : TS := tSeq (tFor (iList K (tOp rCat (tLst (tCons (tOp (rIxL K) (tVar 2) (tVar 3)) (tCons (tOp (rIxL K) (tVar 2) (tVar 3)) tNil))) (tLc (iList K (tLst (tCons (tC (.int 97)) (tCons (tC (.int 128)) (tCons (tC (.int 143)) (tCons (tC (.int 159)) (tCons (tC (.int 160)) (tCons (tC (.int 191)) (tCons (tC (.int 194)) tNil))))))))) (gName 11) (tTest (tOp rLtI (tCall (sp__law_can_come K) [] E0 (tCons (tOp rCat (tVar 4) (tLst (tCons (tVar 11) tNil))) tNil)) (tC (.int 0)))) (tVar 11) [11]))) (gName 9) (t_law_12a_0 K)) (t_law_13 K)
def t_law_11 (K : PySem.W.Frag) : TS := tSeq (tAsg (tTup (tCons (tCB (rListOf K) (tCons (tFld K (tVar 8) "points") tNil)) (tCons (tProp (gA "Utf8" K) (sp_Utf8_is_open K) [] E0 (tVar 8)) tNil))) (gName 10)) (t_law_12 K)
def t_law_10 (K : PySem.W.Frag) : TS := tSeq (tFor (iList K (tSl (rSlL K) (tVar 2) tNoPart (tPart (tVar 3)))) (gName 9) (t_law_10a_0 K)) (t_law_11 K)
def t_law_9 (K : PySem.W.Frag) : TS := tSeq (tAsg (tMake (gA "Utf8" K) (sp_Utf8_init K) [] E0 tNil) (gName 8)) (t_law_10 K)
def t_law_8 (K : PySem.W.Frag) : TS := tSeq (tIfS (tTest (tOp (rNeD K) (tVar 7) (tTup (tCons (tC .non) (tCons (tVar 3) tNil))))) (t_law_8a_0 K) tNext) (t_law_9 K)
def t_law_7 (K : PySem.W.Frag) : TS := tSeq (tIfS (tTest (tOp rIsN (tVar 3) (tC .non))) (t_law_7a_0 K) tNext) (t_law_8 K)
def t_law_6 (K : PySem.W.Frag) : TS := tSeq (tIfS (tAnd (tTest (tOp rIsN (tVar 3) (tC .non))) (tTest (tOp (rEqD K) (tVar 4) (tLst tNil)))) (t_law_6a_0 K) tNext) (t_law_7 K)
def t_law_5 (K : PySem.W.Frag) : TS := tSeq (tAsg (tCall (sp_decode K) [] E0 (tCons (tVar 2) tNil)) (gName 7)) (t_law_6 K)
def t_law_4 (K : PySem.W.Frag) : TS := tSeq (tFor (iRng1 (tCons (tCB (rLenQ K) (tCons (tVar 2) tNil)) tNil)) (gName 5) (t_law_4a_0 K)) (t_law_5 K)
def t_law_3 (K : PySem.W.Frag) : TS := tSeq (tAsg (tLst tNil) (gName 4)) (t_law_4 K)
def t_law_2 (K : PySem.W.Frag) : TS := tSeq (tAsg (tC .non) (gName 3)) (t_law_3 K)
def t_law_1 (K : PySem.W.Frag) : TS := tSeq (tAsg (tCall (sp__law_octets K) [] E0 (tCons (tVar 1) tNil)) (gName 2)) (t_law_2 K)
def t_law_0 (K : PySem.W.Frag) : TS := tSeq (tAsg (tCall (sp__law_state K) [] E0 (tCons (tVar 0) (tCons (tC (.int 0)) tNil))) (gName 1)) (t_law_1 K)
section
variable {K : PySem.W.Frag}
theorem len__law_written {vs : List V} {H : Hp} {Q : VK} {E : XK} (h : sp__law_written K vs H Q E) : vs.length = 1 := by obtain ⟨_, rfl, _⟩ := h; rfl
theorem r__law_written {vs : List V} {H : Hp} {Q : VK} {E : XK} (h : sp__law_written K vs H Q E) : t__law_written_0 K { nx := fun _ H' => Q .non H', rt := Q } (start N__law_written vs) H := by
  have z := r_encode_point h
  obtain ⟨c, rfl, _⟩ := h
  exact z
theorem len__law_can_come {vs : List V} {H : Hp} {Q : VK} {E : XK} (h : sp__law_can_come K vs H Q E) : vs.length = 1 := by obtain ⟨_, _, _, rfl, _⟩ := h; rfl
theorem cnt_of (l : Int) : (1 + (if decide (192 ≤ l) = true then 1 else 0) + (if decide (224 ≤ l) = true then 1 else 0) + (if decide (240 ≤ l) = true then 1 else 0) : Int) = cnt l := by
  unfold cnt
  simp only [decide_eq_true_eq]
theorem cnt_bd (l : Int) : 1 ≤ cnt l ∧ cnt l ≤ 4 := by
  unfold cnt
  refine ⟨?_, ?_⟩ <;> (split <;> split <;> split <;> omega)
theorem pick4 {c a0 a1 a2 a3 : Int} (h : 1 ≤ c ∧ c ≤ 4) : atI [V.int a0, .int a1, .int a2, .int a3] (c - 1) = some (.int (if c = 1 then a0 else if c = 2 then a1 else if c = 3 then a2 else a3)) := by
  rcases (show c = 1 ∨ c = 2 ∨ c = 3 ∨ c = 4 by omega) with rfl | rfl | rfl | rfl <;> rfl
theorem r__law_can_come {vs : List V} {H : Hp} {Q : VK} {E : XK} (h : sp__law_can_come K vs H Q E) : t__law_can_come_0 K { nx := fun _ H' => Q .non H', rt := Q } (start N__law_can_come vs) H := by
  obtain ⟨a, l, r, rfl, ha, hr, hq⟩ := h
  have bd := cnt_bd l
  have hcc : canCome (l :: r) = if 248 ≤ l ∨ (128 ≤ l ∧ l < 192) then -1 else match ccFold (l - baseOf (cnt l)) r with
    | none => -1
    | some b => ccFin (cnt l) (cnt l - ((l :: r).length : Int)) b := rfl
  unfold t__law_can_come_0
  walk_at "go"
  refine i_ixL ha (atI_nat (j := 0) (v := .int l) rfl) ?_
  walk_at "go"
  unfold t__law_can_come_1
  walk_at "go"
  rw [cnt_of l]
  have out : 248 ≤ l ∨ (128 ≤ l ∧ l < 192) → t__law_can_come_2a_0 K { nx := t__law_can_come_3 K { nx := fun _ H' => Q .non H', rt := Q }, rt := Q } [some (.ref a), some (.int l), some (.int (cnt l)), none, none, none, none, none] H := fun c => by
    unfold t__law_can_come_2a_0
    walk_at "go"
    have z := hq H (.refl _)
    rw [hcc, if_pos c] at z
    exact z
  have on : ¬ (248 ≤ l ∨ (128 ≤ l ∧ l < 192)) → t__law_can_come_3 K { nx := fun _ H' => Q .non H', rt := Q } [some (.ref a), some (.int l), some (.int (cnt l)), none, none, none, none, none] H := fun c => by
    rw [if_neg c] at hcc
    unfold t__law_can_come_3
    walk_at "go"
    intro t H1 n1
    walk_at "go"
    refine i_ixL n1.sqL (pick4 bd) ?_
    walk_at "go"
    have eb : (if cnt l = 1 then 0 else if cnt l = 2 then 192 else if cnt l = 3 then 224 else 240) = baseOf (cnt l) := rfl
    rw [eb]
    unfold t__law_can_come_4
    walk_at "go"
    have ha1 := (n1.keep []).sqL (by simp) ha
    refine i_slL ha1 fun t2 H2 n2 => ?_
    walk_at "go"
    have k2 : Keep [] H H2 := (n1.keep []).trans (n2.keep [])
    have cut : cutV ((l :: r).map V.int) (some 1) none = r.map V.int := cutV_from _ 1
    rw [cut] at n2
    refine i_listK n2.sqL ?_
    refine f_list (xs := r.map V.int) (fun i σ H3 => H3 = H2 ∧ ∃ (b : Int) (x : Option V), σ = [some (.ref a), some (.int l), some (.int (cnt l)), some (.int b), x, none, none, none] ∧ ccFold (l - baseOf (cnt l)) r = ccFold b (r.drop i))
      ⟨rfl, _, none, rfl, rfl⟩ (fun i σ H3 _ ⟨e, _⟩ => by rw [e]; exact n2.sqL) ?_ ?_
    · rintro i x σ H3 hi ⟨rfl, b, y, rfl, hf⟩
      obtain ⟨o, ho, rfl⟩ := get_map hi
      rw [drop_get ho] at hf
      have no : (o < 128 ∨ 191 < o) → t__law_can_come_4a_0a_0 K { nx := t__law_can_come_4a_1 K { nx := fun σ H4 => H4 = H3 ∧ ∃ (b : Int) (x : Option V), σ = [some (.ref a), some (.int l), some (.int (cnt l)), some (.int b), x, none, none, none] ∧ ccFold (l - baseOf (cnt l)) r = ccFold b (r.drop (i + 1)), rt := Q, bk := t__law_can_come_5 K { nx := fun _ H' => Q .non H', rt := Q }, ct := fun σ H4 => H4 = H3 ∧ ∃ (b : Int) (x : Option V), σ = [some (.ref a), some (.int l), some (.int (cnt l)), some (.int b), x, none, none, none] ∧ ccFold (l - baseOf (cnt l)) r = ccFold b (r.drop (i + 1)) }, rt := Q, bk := t__law_can_come_5 K { nx := fun _ H' => Q .non H', rt := Q }, ct := fun σ H4 => H4 = H3 ∧ ∃ (b : Int) (x : Option V), σ = [some (.ref a), some (.int l), some (.int (cnt l)), some (.int b), x, none, none, none] ∧ ccFold (l - baseOf (cnt l)) r = ccFold b (r.drop (i + 1)) } [some (.ref a), some (.int l), some (.int (cnt l)), some (.int b), some (.int o), none, none, none] H3 := fun c => by
        unfold t__law_can_come_4a_0a_0
        walk_at "go"
        rw [cc_out c] at hf
        rw [hf] at hcc
        have z := hq H3 k2
        rw [hcc] at z
        exact z
      walk_at "go"
      unfold t__law_can_come_4a_0
      walk_at "go"
      walk_at "D"
      all_goals rename_i h1
      · walk_at "go"
        exact no (.inl h1)
      · walk_at "go"
        walk_at "D"
        all_goals rename_i h2
        · exact no (.inr h2)
        · walk_at "go"
          unfold t__law_can_come_4a_1
          walk_at "go"
          rw [cc_in (by omega)] at hf
          exact ⟨rfl, _, _, rfl, hf⟩
    · rintro σ H3 ⟨rfl, b, y, rfl, hf⟩
      rw [List.length_map, List.drop_length] at hf
      have hf : ccFold (l - baseOf (cnt l)) r = some b := hf
      rw [hf] at hcc
      have hcc : canCome (l :: r) = ccFin (cnt l) (cnt l - ((l :: r).length : Int)) b := hcc
      unfold t__law_can_come_5
      walk_at "go"
      unfold t__law_can_come_6
      walk_at "go"
      unfold t__law_can_come_7
      walk_at "go"
      have ha3 := k2.sqL (by simp) ha
      refine i_lenL ha3 ?_
      walk_at "go"
      have elen : (((l :: r).map V.int).length : Int) = ((l :: r).length : Int) := by rw [List.length_map]
      rw [elen]
      refine i_rngK1 (by simp only [List.length_cons]; omega) ?_
      refine f_rng (fun i σ H4 => H4 = H3 ∧ ∃ x : Option V, σ = [some (.ref a), some (.int l), some (.int (cnt l)), some (.int b), y, some (.int (lowK i b)), some (.int (highK i b)), x]) ⟨rfl, none, rfl⟩ ?_ ?_
      · rintro i σ H4 hi ⟨rfl, x, rfl⟩
        walk_at "go"
        unfold t__law_can_come_7a_0
        walk_at "go"
        unfold t__law_can_come_7a_1
        walk_at "go"
        exact ⟨rfl, _, rfl⟩
      · rintro σ H4 ⟨rfl, x, rfl⟩
        unfold ccFin at hcc
        generalize hk : (cnt l - ((l :: r).length : Int)).toNat = k at hcc ⊢
        unfold t__law_can_come_8
        walk_at "go"
        intro t5 H5 n5
        walk_at "go"
        refine i_ixL n5.sqL (pick4 bd) ?_
        walk_at "go"
        intro t6 H6 n6
        walk_at "go"
        refine i_max1 n6.sqL ?_
        have em : (if cnt l = 1 then 0 else if cnt l = 2 then 128 else if cnt l = 3 then 2048 else 65536) = minOf (cnt l) := rfl
        rw [em]
        walk_at "go"
        unfold t__law_can_come_9
        walk_at "go"
        intro t7 H7 n7
        walk_at "go"
        refine i_ixL n7.sqL (pick4 bd) ?_
        walk_at "go"
        intro t8 H8 n8
        walk_at "go"
        refine i_min1 n8.sqL ?_
        have eM : (if cnt l = 1 then 127 else if cnt l = 2 then 2047 else if cnt l = 3 then 65535 else 1114111) = maxOf (cnt l) := rfl
        rw [eM]
        walk_at "go"
        have k8 : Keep [] H H8 := (((k2.trans (n5.keep [])).trans (n6.keep [])).trans (n7.keep [])).trans (n8.keep [])
        generalize hL : max (lowK k b) (minOf (cnt l)) = L at hcc ⊢
        generalize hM : min (highK k b) (maxOf (cnt l)) = M at hcc ⊢
        have bad : (L > M ∨ (L ≥ 55296 ∧ M ≤ 57343)) → Q (.int (-1)) H8 := fun c => by
          have z := hq H8 k8
          rw [hcc, if_pos c] at z
          exact z
        have good : ¬ (L > M ∨ (L ≥ 55296 ∧ M ≤ 57343)) → t__law_can_come_11 K { nx := fun _ H' => Q .non H', rt := Q } [some (.ref a), some (.int l), some (.int (cnt l)), some (.int b), y, some (.int L), some (.int M), x] H8 := fun c => by
          unfold t__law_can_come_11
          walk_at "go"
          refine i_lenL (k8.sqL (by simp) ha) ?_
          walk_at "go"
          have z := hq H8 k8
          rw [hcc, if_neg c] at z
          rw [elen]
          exact z
        unfold t__law_can_come_10
        walk_at "go"
        walk_at "D"
        all_goals rename_i h1
        · unfold t__law_can_come_10a_0
          walk_at "go"
          exact bad (.inl h1)
        · walk_at "go"
          walk_at "D"
          all_goals rename_i h2
          · walk_at "go"
            walk_at "D"
            all_goals rename_i h3
            · unfold t__law_can_come_10a_0
              walk_at "go"
              exact bad (.inr ⟨h2, h3⟩)
            · walk_at "go"
              exact good (by omega)
          · walk_at "go"
            exact good (by omega)
  unfold t__law_can_come_2
  walk_at "go"
  walk_at "D"
  all_goals rename_i h1
  · exact out (.inl h1)
  · walk_at "go"
    walk_at "D"
    all_goals rename_i h2
    · walk_at "go"
      walk_at "D"
      all_goals rename_i h3
      · exact out (.inr ⟨h2, h3⟩)
      · walk_at "go"
        exact on (by omega)
    · walk_at "go"
      exact on (by omega)
end
section
variable {K : PySem.W.Frag}
theorem Keep.freshD {p : Pst} {H H1 : Hp} {l t : Int} {q : Addr} (k : Keep [p] H H1) (d : Dr K p l t H1) (h : H1 q = none) : H q = none := by
  obtain ⟨xs, e⟩ := d.at_
  exact k.fresh (by simpa using (ne_of_none e h).symm) h
theorem enc1_ok {c : Int} (h : okPt c) : ∀ o ∈ u8enc1 c, okOc o := by
  obtain ⟨h0, h1, h2⟩ := h
  intro o ho
  unfold u8enc1 at ho
  unfold okOc
  split at ho
  · simp at ho
    omega
  · split at ho
    · simp at ho
      omega
    · split at ho
      · simp at ho
        omega
      · simp at ho
        omega
theorem len__law_octets {vs : List V} {H : Hp} {Q : VK} {E : XK} (h : sp__law_octets K vs H Q E) : vs.length = 1 := by obtain ⟨_, rfl, _⟩ := h; rfl
theorem r__law_octets {vs : List V} {H : Hp} {Q : VK} {E : XK} (h : sp__law_octets K vs H Q E) : t__law_octets_0 K { nx := fun _ H' => Q .non H', rt := Q } (start N__law_octets vs) H := by
  obtain ⟨p, rfl, hd, hq⟩ := h
  unfold t__law_octets_0
  walk_at "go"
  intro O H1 n1
  have hd1 := hd.new n1
  walk_at "go"
  unfold t__law_octets_1
  walk_at "go"
  refine ⟨p, 0, 3, 4, rfl, by decide, hd1, fun r H2 r0 r1 hd2 k2 => ?_⟩
  have k02 : Keep [p] H H2 := (n1.keep [p.p]).trans k2
  walk_at "go"
  walk_at "D"
  · unfold t__law_octets_1a_0
    walk_at "go"
    refine ⟨p, 0, 3, 4, rfl, by decide, hd2, fun n H3 n0 n1 hd3 k3 => ?_⟩
    walk_at "go"
    refine c_rng (fun P i H4 => ∃ os : List Int, H4 P = some (.lst (os.map V.int)) ∧ os.length = i ∧ (∀ o ∈ os, okOc o) ∧ Dr K p 0 3 H4 ∧ Keep [p] H3 H4) ?_ ?_ ?_
    · intro P hP
      exact ⟨[], upd_same, rfl, by simp, hd3.new (.mk' hP), .new hP⟩
    · rintro P i H4 hP hi ⟨os, ho, hol, hok, hd4, k4⟩
      have pP : p.p ≠ P := by
        obtain ⟨xs, e⟩ := hd3.at_
        exact ne_of_none e hP
      walk_at "go"
      refine ⟨rfl, ?_⟩
      walk_at "go"
      refine ⟨p, 0, 3, 136, rfl, by decide, hd4, fun x H5 x0 x1 hd5 k5 => ?_⟩
      walk_at "go"
      have ho5 := k5 P _ (by simpa using pP.symm) ho
      refine ⟨_, ho5, small_lt (by rw [List.length_map]; omega), os ++ [120 + x], by rw [upd_same]; simp, by simp [hol], fun y hy => ?_, hd3.upd hP hd5, (k4.trans k5).put (.inr hP)⟩
      rcases List.mem_append.mp hy with z | z
      · exact hok y z
      · obtain rfl : y = 120 + x := by simpa using z
        unfold okOc
        omega
    · rintro P H4 hP ⟨os, ho, hol, hok, hd4, k4⟩
      refine hq P os H4 ?_ ho (by omega) hok hd4 ((k02.trans k3).trans k4)
      exact (k02.trans k3).freshD hd3 hP
  · walk_at "go"
    unfold t__law_octets_2
    walk_at "go"
    refine ⟨p, 0, 3, 5, rfl, by decide, hd2, fun n H3 n0' n1' hd3 k3 => ?_⟩
    walk_at "go"
    have OnP : O ≠ p.p := (hd.ne n1).symm
    refine f_rng (fun i σ H4 => ∃ (O : Addr) (os : List Int) (x2 x3 : Option V), σ = [some (.ref p), some (.ref O), x2, x3, none, none, none] ∧ H4 O = some (.lst (os.map V.int)) ∧ H O = none ∧ os.length ≤ 4 * i ∧ (∀ o ∈ os, okOc o) ∧ Dr K p 0 3 H4 ∧ Keep [p] H H4)
      ⟨O, [], none, none, rfl, k3 _ _ (by simpa using OnP) (k2 _ _ (by simpa using OnP) n1.at_), n1.free, by simp, by simp, hd3, k02.trans k3⟩ ?_ ?_
    · rintro i σ H4 hi ⟨O4, os, x2, x3, rfl, hO4, fO4, hle, hok, hd4, k4⟩
      have O4p : O4 ≠ p.p := by
        obtain ⟨xs, e⟩ := hd.at_
        exact (ne_of_none e fO4).symm
      walk_at "go"
      unfold t__law_octets_2a_0
      walk_at "go"
      intro E5 H5 n5
      walk_at "go"
      unfold t__law_octets_2a_1
      walk_at "go"
      refine ⟨p, 0, 3, 12, rfl, by decide, hd4.new n5, fun x H6 x0 x1 hd6 k6 => ?_⟩
      refine i_pick (xs := [0, 127, 128, 2047, 2048, 55295, 57344, 65535, 65536, 1114111, 97, 8364]) hd4 n5 k6 x0 x1 fun c hc => ?_
      have hcp : okPt c := by
        unfold okPt
        simp at hc
        omega
      walk_at "go"
      refine ⟨c, rfl, fun R H7 n7 => ?_⟩
      have k47 : Keep [p] H4 H7 := ((n5.keep [p.p]).trans k6).trans (n7.keep [p.p])
      have hO7 := k47 _ _ (by simpa using O4p) hO4
      have hl := u8enc1_len c
      refine i_cat hO7 n7.at_ (by simp only [List.length_map]; omega) fun O8 H8 n8 => ?_
      have hd7 := hd6.new n7
      walk_at "go"
      refine ⟨O8, os ++ u8enc1 c, _, _, rfl, by rw [n8.at_]; simp, (k4.trans k47).freshD hd7 n8.free, by simp only [List.length_append]; omega, fun y hy => ?_, hd7.new n8, (k4.trans k47).trans (n8.keep _)⟩
      rcases List.mem_append.mp hy with z | z
      · exact hok y z
      · exact enc1_ok hcp y z
    · rintro σ H4 ⟨O4, os, x2, x3, rfl, hO4, fO4, hle, hok, hd4, k4⟩
      unfold t__law_octets_3
      walk_at "go"
      refine ⟨p, 0, 3, 3, rfl, by decide, hd4, fun n2 H5 n20 n21 hd5 k5 => ?_⟩
      walk_at "go"
      have O4p : O4 ≠ p.p := by
        obtain ⟨xs, e⟩ := hd.at_
        exact (ne_of_none e fO4).symm
      refine f_rng (fun i σ H6 => ∃ (O : Addr) (os : List Int) (x2 x4 x5 x6 : Option V), σ = [some (.ref p), some (.ref O), x2, x3, x4, x5, x6] ∧ H6 O = some (.lst (os.map V.int)) ∧ H O = none ∧ os.length ≤ 20 + i ∧ (∀ o ∈ os, okOc o) ∧ Dr K p 0 3 H6 ∧ Keep [p] H H6)
        ⟨O4, os, x2, none, none, none, rfl, k5 _ _ (by simpa using O4p) hO4, fO4, by omega, hok, hd5, k4.trans k5⟩ ?_ ?_
      · rintro i σ H6 hi ⟨O6, os, x2, x4, x5, x6, rfl, hO6, fO6, hle6, hok, hd6, k6⟩
        have O6p : O6 ≠ p.p := by
          obtain ⟨xs, e⟩ := hd.at_
          exact (ne_of_none e fO6).symm
        walk_at "go"
        unfold t__law_octets_3a_0
        walk_at "go"
        refine i_lenL (SqL.of hO6) ?_
        walk_at "go"
        refine ⟨p, 0, 3, _, rfl, by omega, hd6, fun at_ H7 a0 a1 hd7 k7 => ?_⟩
        walk_at "go"
        unfold t__law_octets_3a_1
        walk_at "go"
        refine ⟨p, 0, 3, 4, rfl, by decide, hd7, fun pick H8 p0 p1 hd8 k8 => ?_⟩
        walk_at "go"
        unfold t__law_octets_3a_2
        walk_at "go"
        intro E9 H9 n9
        walk_at "go"
        refine ⟨p, 0, 3, 15, rfl, by decide, hd8.new n9, fun x H10 x0 x1 hd10 k10 => ?_⟩
        refine i_pick (xs := [128, 191, 192, 193, 224, 237, 240, 244, 245, 255, 97, 159, 160, 143, 144]) hd8 n9 k10 x0 x1 fun odd hodd => ?_
        have hoc : okOc odd := by
          unfold okOc
          simp at hodd
          omega
        clear hodd
        walk_at "go"
        obtain ⟨j, rfl⟩ : ∃ j : Nat, at_ = j := ⟨at_.toNat, by omega⟩
        have k610 : Keep [p] H6 H10 := ((k7.trans k8).trans (n9.keep [p.p])).trans k10
        have hO10 := k610 _ _ (by simpa using O6p) hO6
        have kk := k6.trans k610
        -- how each way ends
        have fin : ∀ (O' : Addr) (os' : List Int) (H' : Hp) (b : Option V), H' O' = some (.lst (os'.map V.int)) → H10 O' = none → os'.length ≤ os.length + 1 → (∀ o ∈ os', o ∈ os ∨ o = odd) → Keep [] H10 H' →
            ∃ (O : Addr) (os : List Int) (x2 x4 x5 x6 : Option V), [some (V.ref p), some (.ref O'), some (.int i), x3, some (.int j), some (.int pick), b] = [some (.ref p), some (.ref O), x2, x3, x4, x5, x6] ∧ H' O = some (.lst (os.map V.int)) ∧ H O = none ∧ os.length ≤ 20 + (i + 1) ∧ (∀ o ∈ os, okOc o) ∧ Dr K p 0 3 H' ∧ Keep [p] H H' := fun O' os' H' b h1 h2 h3 h4 h5 =>
          ⟨O', os', _, _, _, _, rfl, h1, kk.freshD hd10 h2, by omega, fun o ho => by
            rcases h4 o ho with z | z
            · exact hok o z
            · rw [z]; exact hoc, hd10.keep h5, kk.trans h5.all⟩
        have mt : ∀ o ∈ os.take j, o ∈ os := fun o ho => List.mem_of_mem_take ho
        have md : ∀ (m : Nat), ∀ o ∈ os.drop m, o ∈ os := fun m o ho => List.mem_of_mem_drop ho
        have lt1 : (os.take j).length ≤ j := by rw [List.length_take]; omega
        have lt2 : (os.take j).length ≤ os.length := by rw [List.length_take]; omega
        have ld : ∀ m, (os.drop m).length = os.length - m := fun m => List.length_drop
        have cutA : cutV (os.map V.int) none (some (j : Int)) = (os.take j).map V.int := by rw [cutV_to, List.map_take]
        have cutB : cutV (os.map V.int) (some ((j : Int) + 1)) none = (os.drop (j + 1)).map V.int := by
          have e : (j : Int) + 1 = ((j + 1 : Nat) : Int) := by omega
          rw [e, cutV_from, List.map_drop]
        have cutC : cutV (os.map V.int) (some (j : Int)) none = (os.drop j).map V.int := by rw [cutV_from, List.map_drop]
        have small : ∀ m, (os.take j).length + (os.drop m).length ≤ 1000 := fun m => by rw [ld]; omega
        unfold t__law_octets_3a_3
        walk_at "go"
        walk_at "D"
        · unfold t__law_octets_3a_3a_0
          walk_at "go"
          refine i_slL (SqL.of hO10) fun A1 Ha na => ?_
          walk_at "go"
          refine i_slL (SqL.of (na.keep [] _ _ (by simp) hO10)) fun B1 Hb nb => ?_
          rw [cutA] at na
          rw [cutB] at nb
          refine i_cat (nb.keep [] _ _ (by simp) na.at_) nb.at_ (by simp only [List.length_map]; have := small (j + 1); omega) fun C1 Hc nc => ?_
          walk_at "go"
          have kc : Keep [] H10 Hc := ((na.keep []).trans (nb.keep [])).trans (nc.keep [])
          refine fin C1 (os.take j ++ os.drop (j + 1)) Hc _ (by rw [nc.at_]; simp) (((na.keep []).trans (nb.keep [])).fresh (by simp) nc.free) (by rw [List.length_append, ld]; omega) (fun o ho => ?_) kc
          rcases List.mem_append.mp ho with z | z
          · exact .inl (mt o z)
          · exact .inl (md _ o z)
        · unfold t__law_octets_3a_3b_0
          walk_at "go"
          walk_at "D"
          · unfold t__law_octets_3a_3b_0a_0
            walk_at "go"
            refine i_slL (SqL.of hO10) fun A1 Ha na => ?_
            rw [cutA] at na
            walk_at "go"
            intro L1 Hl nl
            refine i_cat (nl.keep [] _ _ (by simp) na.at_) nl.at_ (by simp only [List.length_map, List.length_cons, List.length_nil]; have := small j; omega) fun M1 Hm nm => ?_
            walk_at "go"
            refine i_slL (SqL.of (nm.keep [] _ _ (by simp) (nl.keep [] _ _ (by simp) (na.keep [] _ _ (by simp) hO10)))) fun B1 Hb nb => ?_
            rw [cutC] at nb
            refine i_cat (nb.keep [] _ _ (by simp) nm.at_) nb.at_ (by simp only [List.length_append, List.length_map, List.length_cons, List.length_nil]; have := small j; omega) fun C1 Hc nc => ?_
            walk_at "go"
            have kb : Keep [] H10 Hb := (((na.keep []).trans (nl.keep [])).trans (nm.keep [])).trans (nb.keep [])
            refine fin C1 (os.take j ++ [odd] ++ os.drop j) Hc _ (by rw [nc.at_]; simp) (kb.fresh (by simp) nc.free) (by rw [List.length_append, List.length_append, ld]; simp only [List.length_cons, List.length_nil]; omega) (fun o ho => ?_) (kb.trans (nc.keep []))
            rcases List.mem_append.mp ho with z | z
            · rcases List.mem_append.mp z with z | z
              · exact .inl (mt o z)
              · exact .inr (by simpa using z)
            · exact .inl (md _ o z)
          · unfold t__law_octets_3a_3b_0b_0
            walk_at "go"
            walk_at "D"
            · unfold t__law_octets_3a_3b_0b_0a_0
              walk_at "go"
              refine i_slL (SqL.of hO10) fun A1 Ha na => ?_
              rw [cutA] at na
              walk_at "go"
              intro L1 Hl nl
              refine i_cat (nl.keep [] _ _ (by simp) na.at_) nl.at_ (by simp only [List.length_map, List.length_cons, List.length_nil]; have := small j; omega) fun M1 Hm nm => ?_
              walk_at "go"
              refine i_slL (SqL.of (nm.keep [] _ _ (by simp) (nl.keep [] _ _ (by simp) (na.keep [] _ _ (by simp) hO10)))) fun B1 Hb nb => ?_
              rw [cutB] at nb
              refine i_cat (nb.keep [] _ _ (by simp) nm.at_) nb.at_ (by simp only [List.length_append, List.length_map, List.length_cons, List.length_nil]; have := small (j + 1); omega) fun C1 Hc nc => ?_
              walk_at "go"
              have kb : Keep [] H10 Hb := (((na.keep []).trans (nl.keep [])).trans (nm.keep [])).trans (nb.keep [])
              refine fin C1 (os.take j ++ [odd] ++ os.drop (j + 1)) Hc _ (by rw [nc.at_]; simp) (kb.fresh (by simp) nc.free) (by rw [List.length_append, List.length_append, ld]; simp only [List.length_cons, List.length_nil]; omega) (fun o ho => ?_) (kb.trans (nc.keep []))
              rcases List.mem_append.mp ho with z | z
              · rcases List.mem_append.mp z with z | z
                · exact .inl (mt o z)
                · exact .inr (by simpa using z)
              · exact .inl (md _ o z)
            · unfold t__law_octets_3a_3b_0b_0b_0
              walk_at "go"
              refine i_slL (SqL.of hO10) fun A1 Ha na => ?_
              rw [cutA] at na
              walk_at "go"
              exact fin A1 (os.take j) Ha _ na.at_ na.free (by omega) (fun o ho => .inl (mt o ho)) (na.keep [])
      · rintro σ H6 ⟨O6, os, x2, x4, x5, x6, rfl, hO6, fO6, hle6, hok, hd6, k6⟩
        unfold t__law_octets_4
        walk_at "go"
        exact hq O6 os H6 fO6 hO6 (by omega) hok hd6 k6
end
/-! ### the first fault: the run as a whole -/
def u8all : U8 → List Int → Option U8
  | u, [] => some u
  | u, o :: os => match u8take u o with
    | some u' => u8all u' os
    | none => none
theorem all_cons {u v : U8} {o : Int} {os : List Int} (h : u8take u o = some v) : u8all u (o :: os) = u8all v os := by
  show (match u8take u o with | some u' => u8all u' os | none => none) = _
  rw [h]
theorem all_len : ∀ {os : List Int} {u u' : U8}, u8all u os = some u' → u'.pts.length ≤ u.pts.length + os.length
  | [], u, u', h => by cases h; exact Nat.le_refl _
  | o :: os, u, u', h => by
    cases e : u8take u o with
    | none =>
      unfold u8all at h
      rw [e] at h
      cases h
    | some v =>
      rw [all_cons e] at h
      have h1 := all_len h
      have h2 := u8take_len e
      rw [List.length_cons]
      omega
theorem all_app : ∀ {xs ys : List Int} {u : U8}, u8all u (xs ++ ys) = (u8all u xs).bind fun v => u8all v ys
  | [], ys, u => rfl
  | x :: xs, ys, u => by
    rw [List.cons_append]
    cases e : u8take u x with
    | none =>
      unfold u8all
      rw [e]
      rfl
    | some v =>
      rw [all_cons e, all_cons e, all_app]
theorem all_succ {os : List Int} {i : Nat} {o : Int} {u v w : U8} (h : os[i]? = some o) (a : u8all u (os.take i) = some v) (t : u8take v o = some w) : u8all u (os.take (i + 1)) = some w := by
  rw [take_succ h, all_app, a]
  show u8all v [o] = _
  rw [all_cons t]
  rfl
theorem run_all : ∀ {i k : Nat} {os : List Int} {u v : U8}, i ≤ os.length → u8all u (os.take i) = some v → u8run u k os = u8run v (k + i) (os.drop i)
  | 0, k, os, u, v, h, a => by
    cases a
    rfl
  | i + 1, k, [], u, v, h, a => by simp at h
  | i + 1, k, o :: os, u, v, h, a => by
    rw [List.take_succ_cons] at a
    cases e : u8take u o with
    | none =>
      unfold u8all at a
      rw [e] at a
      cases a
    | some w =>
      rw [all_cons e] at a
      have z := run_all (k := k + 1) (by simpa using h) a
      show (match u8take u o with | some u' => u8run u' (k + 1) os | none => .inr k) = _
      rw [e]
      show u8run w (k + 1) os = _
      rw [z, List.drop_succ_cons]
      have e2 : k + 1 + i = k + (i + 1) := by omega
      rw [e2]
theorem run_no {i : Nat} {os : List Int} {o : Int} {u v : U8} (h : os[i]? = some o) (a : u8all u (os.take i) = some v) (t : u8take v o = none) : u8run u 0 os = .inr i := by
  have hi := (List.getElem?_eq_some_iff.mp h).1
  rw [run_all (by omega) a, drop_get h]
  show (match u8take v o with | some u' => u8run u' (0 + i + 1) (os.drop (i + 1)) | none => .inr (0 + i)) = _
  rw [t, Nat.zero_add]
/-- what stands begun -/
def Jx (u : U8) (b : List Int) : Prop := (b = [] ∧ u.left = 0) ∨ ∃ l r c, b = l :: r ∧ Wt u l r c
theorem Jx.none {u : U8} {b : List Int} {o : Int} (j : Jx u b) (h : 0 ≤ o) (c : canCome (b ++ [o]) < 0) : u8take u o = none := by
  rcases j with ⟨rfl, h0⟩ | ⟨l, r, k, rfl, w⟩
  · rcases start_step (u := u) h0 h with ⟨_, z⟩ | ⟨z, _⟩ | ⟨z, _⟩
    · exact z
    · rw [List.nil_append, z] at c; omega
    · rw [List.nil_append] at c; omega
  · rcases in_step (o := o) w with ⟨_, z⟩ | ⟨z, _⟩ | ⟨z, _⟩
    · exact z
    · rw [List.cons_append, z] at c; omega
    · rw [List.cons_append] at c; omega
theorem Jx.zero {u : U8} {b : List Int} {o : Int} (j : Jx u b) (h : 0 ≤ o) (c : canCome (b ++ [o]) = 0) : ∃ v, u8take u o = some v ∧ v.left = 0 := by
  rcases j with ⟨rfl, h0⟩ | ⟨l, r, k, rfl, w⟩
  · rcases start_step (u := u) h0 h with ⟨z, _⟩ | ⟨_, v, a, b, _⟩ | ⟨z, _⟩
    · rw [List.nil_append, z] at c; omega
    · exact ⟨v, a, b⟩
    · rw [List.nil_append] at c; omega
  · rcases in_step (o := o) w with ⟨z, _⟩ | ⟨_, v, a, b, _⟩ | ⟨z, _⟩
    · rw [List.cons_append, z] at c; omega
    · exact ⟨v, a, b⟩
    · rw [List.cons_append] at c; omega
theorem Jx.more {u : U8} {b : List Int} {o : Int} (j : Jx u b) (h : 0 ≤ o) (c : 0 < canCome (b ++ [o])) : ∃ v, u8take u o = some v ∧ Jx v (b ++ [o]) := by
  rcases j with ⟨rfl, h0⟩ | ⟨l, r, k, rfl, w⟩
  · rcases start_step (u := u) h0 h with ⟨z, _⟩ | ⟨z, _⟩ | ⟨_, v, a, _, d, e⟩
    · rw [List.nil_append, z] at c; omega
    · rw [List.nil_append, z] at c; omega
    · exact ⟨v, a, .inr ⟨o, [], d, rfl, e⟩⟩
  · rcases in_step (o := o) w with ⟨z, _⟩ | ⟨z, _⟩ | ⟨_, v, a, _, e⟩
    · rw [List.cons_append, z] at c; omega
    · rw [List.cons_append, z] at c; omega
    · exact ⟨v, a, .inr ⟨l, r ++ [o], k, rfl, e⟩⟩
/-- an octet that fits a begun character -/
theorem Wt.fits {u : U8} {l c : Int} {r : List Int} (w : Wt u l r c) : u.low ∈ [128, 144, 160, 191] ∧ 0 ≤ canCome (l :: (r ++ [u.low])) := by
  have hb : (u.low = 128 ∨ u.low = 144 ∨ u.low = 160) ∧ u.low ≤ u.high := by
    by_cases hr : r = []
    · obtain ⟨a, b⟩ := w.one hr
      have h1 := lowL_is l
      have h2 := highL_is l
      omega
    · obtain ⟨a, b⟩ := w.more hr
      omega
  refine ⟨by simp; omega, ?_⟩
  rcases in_step (o := u.low) w with ⟨_, z⟩ | ⟨z, _⟩ | ⟨z, _⟩
  · have hp := w.pos
    unfold u8take at z
    rw [if_neg (by omega), if_pos ⟨Int.le_refl _, hb.2⟩] at z
    cases z
  · omega
  · omega
/-- the point, from the octets as they stand -/
theorem fold_get {b d : Int} : ∀ {r : List Int} {i : Nat} {o : Int}, r[i]? = some o → ccFold b r = some d → 128 ≤ o ∧ o ≤ 191
  | [], i, o, h, _ => by simp at h
  | a :: t, i, o, h, e => by
    by_cases c : a < 128 ∨ 191 < a
    · rw [cc_out c] at e
      cases e
    · cases i with
      | zero =>
        have : a = o := by simpa using h
        omega
      | succ i =>
        rw [cc_in (by omega)] at e
        exact fold_get (r := t) (i := i) (by simpa using h) e
/-- the law's base, by the count of octets -/
def base3 (n : Nat) : Int := if n = 2 then 192 else if n = 3 then 224 else 240
/-- a whole character: what stands begun, and the point that it gives -/
theorem Wt.done {u : U8} {l c o : Int} {r : List Int} (w : Wt u l r c) (h : canCome (l :: (r ++ [o])) = 0) (ho : 128 ≤ o ∧ o ≤ 191) : ∃ v, u8take u o = some v ∧ v.left = 0 ∧ v.pts = u.pts ++ [u.bits * 64 + o - 128] ∧ ccFold (l - baseOf c) (r ++ [o]) = some (u.bits * 64 + o - 128) ∧ ((l :: (r ++ [o])).length : Int) = c ∧ (c = 2 ∨ c = 3 ∨ c = 4) := by
  have e : ccFold (l - baseOf c) (r ++ [o]) = some (u.bits * 64 + o - 128) := by
    rw [fold_app w.fold, cc_in ho]
    rfl
  have hc : c = 2 ∨ c = 3 ∨ c = 4 := by
    rcases w.lead with z | z | z
    · exact .inl z.1
    · exact .inr (.inl z.1)
    · exact .inr (.inr z.1)
  rcases in_step (o := o) w with ⟨z, _⟩ | ⟨_, v, a, b, d⟩ | ⟨z, _⟩
  · omega
  · refine ⟨v, a, b, d, e, ?_, hc⟩
    have hp := w.pos
    have hl := w.left
    have hn : u.left = 1 := by
      by_cases z : u.left = 1
      · exact z
      · unfold u8take at a
        rw [if_neg (by omega)] at a
        split at a
        · have : v.left = u.left - 1 := by
            cases a
            rfl
          omega
        · cases a
    simp only [List.length_cons, List.length_append, List.length_nil]
    omega
  · omega
section
variable {K : PySem.W.Frag} {D : Ends} {H : Hp} {B M L T P O : Addr} {a b c d e f g i j k m : Option V}
theorem Dr.over {p : Pst} {S : List Addr} {x y x' y' : Int} {H0 H H1 : Hp} (h0 : Dr K p x y H0) (hS : ∀ q ∈ S, H0 q = none) (h : Dr K p x' y' H) (k : Keep S H H1) : Dr K p x' y' H1 := by
  obtain ⟨at0, nums0, ns0, hp0, ha0, hn0, hl0, nn0, hs0⟩ := h0
  obtain ⟨at_, nums, ns, hp, ha, hn, hl, nn, hs⟩ := h
  have out : ∀ {q : Addr} {o : HO}, H0 q = some o → q ∉ S := fun e z => by rw [hS _ z] at e; cases e
  rcases hs0 with ⟨r, _⟩ | r
  · refine ⟨at_, nums, ns, k _ _ (out hp0) hp, ha, k _ _ (out hn0) hn, hl, nn, ?_⟩
    rcases hs with ⟨q, e⟩ | q
    · have n3 : p.sc ∉ S := by rcases r with r | ⟨_, r⟩ <;> exact out r
      exact .inl ⟨k.rd n3 q, e⟩
    · exact .inr q
  · exact ⟨at_, nums, ns0, k _ _ (out hp0) hp, ha, k _ _ (out hn0) hn, hl, nn, .inr r⟩
theorem i_cc {A : Addr} {os : List Int} {H : Hp} {Q : VK} {E : XK} (h : H A = some (.lst (os.map V.int))) (hn : os ≠ []) (hl : os.length ≤ 1000) (hq : ∀ H1, Keep [] H H1 → Q (.int (canCome os)) H1) : sp__law_can_come K [.ref A] H Q E := by
  cases os with
  | nil => exact absurd rfl hn
  | cons l r => exact ⟨A, l, r, rfl, SqL.of h, by simp at hl; omega, hq⟩
theorem pick3 {n : Nat} (h : n = 2 ∨ n = 3 ∨ n = 4) : atI [V.int 192, .int 224, .int 240] ((n : Int) - 2) = some (.int (base3 n)) := by
  rcases h with rfl | rfl | rfl <;> rfl
theorem e15 (kU : Kls K "Utf8" F_Utf8) (hD : ∀ H', D.rt (.bl true) H') {u : U8} {pts : List Int} {l pt : Int} {r : List Int} {ob : V} (hr : 1 ≤ r.length ∧ r.length ≤ 3) (hf : ccFold (l - base3 (r.length + 1)) r = some pt)
    (hB : H B = some (.lst ((l :: r).map V.int))) (hu : U8At K H M L u) (h0 : u.left = 0) (hp : u.pts = pts ++ [pt]) (hT : SqT K H T [.ref P, ob]) (hP : H P = some (.lst (pts.map V.int))) (hlen : pts.length ≤ 1000) :
    t_law_15 K D [a, b, c, d, some (.ref B), e, f, g, some (.ref M), i, some (.ref T), j, k, m] H := by
  unfold t_law_15
  walk_at "go"
  refine i_ixL (SqL.of hB) (atI_nat (j := 0) (v := .int l) rfl) ?_
  walk_at "go"
  intro q H1 n1
  walk_at "go"
  refine i_lenL (SqL.of (n1.keep [] _ _ (by simp) hB)) ?_
  walk_at "go"
  have e1 : (((l :: r).map V.int).length : Int) - 2 = ((r.length + 1 : Nat) : Int) - 2 := by simp
  rw [e1]
  refine i_ixL n1.sqL (pick3 (by omega)) ?_
  walk_at "go"
  unfold t_law_16
  walk_at "go"
  refine i_slL (SqL.of (n1.keep [] _ _ (by simp) hB)) fun t2 H2 n2 => ?_
  walk_at "go"
  have cut : cutV ((l :: r).map V.int) (some 1) none = r.map V.int := cutV_from _ 1
  rw [cut] at n2
  have k2 : Keep [] H H2 := (n1.keep []).trans (n2.keep [])
  refine i_listK n2.sqL ?_
  refine f_list (xs := r.map V.int) (fun n σ H3 => H3 = H2 ∧ ∃ (x : Int) (y : Option V), σ = [a, b, c, d, some (.ref B), e, f, g, some (.ref M), y, some (.ref T), j, k, some (.int x)] ∧ ccFold x (r.drop n) = some pt)
    ⟨rfl, _, _, rfl, hf⟩ (fun n σ H3 _ ⟨z, _⟩ => by rw [z]; exact n2.sqL) ?_ ?_
  · rintro n x σ H3 hi ⟨rfl, x, y, rfl, hx⟩
    obtain ⟨o, ho, rfl⟩ := get_map hi
    have hb := fold_get ho hf
    rw [drop_get ho, cc_in hb] at hx
    walk_at "go"
    unfold t_law_16a_0
    walk_at "go"
    exact ⟨rfl, _, _, rfl, hx⟩
  · rintro σ H3 ⟨rfl, x, y, rfl, hx⟩
    rw [List.length_map, List.drop_length] at hx
    obtain rfl : x = pt := Option.some.inj hx
    have hu2 := hu.keep k2 (by simp) (by simp)
    obtain ⟨⟨dx, hM⟩, hL⟩ := id hu2
    unfold t_law_17
    walk_at "go"
    refine i_fldK kU hM 0 rfl rfl ?_
    walk_at "go"
    refine i_ixT (k2.sqT (by simp) hT) (atI_nat (j := 0) (v := .ref P) rfl) ?_
    walk_at "go"
    intro q3 H4 n4
    refine i_cat (n4.keep [] _ _ (by simp) (k2 _ _ (by simp) hP)) n4.at_ (by simp only [List.length_map, List.length_cons, List.length_nil]; omega) fun q5 H5 n5 => ?_
    have k5 : Keep [] H3 H5 := (n4.keep []).trans (n5.keep [])
    have hu5 := hu2.keep k5 (by simp) (by simp)
    have e5 : (pts.map V.int ++ [V.int x]) = (pts ++ [x]).map V.int := by simp
    rw [e5] at n5
    refine i_eqL (SqL.of hu5.pt) n5.sqL ?_
    walk_at "go"
    rw [decide_eq_true hp]
    walk_at "go"
    obtain ⟨⟨dx5, hM5⟩, hL5⟩ := id hu5
    refine i_propK hM5 ⟨M, L, u, rfl, hu5, ?_⟩
    walk_at "go"
    rw [decide_eq_true (show decide (0 < u.left) = false from decide_eq_false (by omega))]
    exact hD _
def okB (l : Int) (r : List Int) (x : Int) : Bool := decide (0 ≤ canCome (l :: (r ++ [x])))
theorem e14 (kU : Kls K "Utf8" F_Utf8) (hD : ∀ H', D.rt (.bl true) H') {p : Pst} {u : U8} {pts : List Int} {l cc : Int} {r : List Int} {ob : V} (w : Wt u l r cc) {H0 : Hp} (hd0 : Dr K p 0 3 H0) (hS : ∀ q ∈ [B, M, L], H0 q = none) (hd : Dr K p 0 3 H)
    (hB : H B = some (.lst ((l :: r).map V.int))) (hu : U8At K H M L u) (hp : u.pts = pts) (hT : SqT K H T [.ref P, ob]) (hP : H P = some (.lst (pts.map V.int))) (hlen : pts.length ≤ 1000)
    (nT : T ∉ [p.p, B, M, L]) (nP : P ∉ [p.p, B, M, L]) (nB : B ∉ [p.p, M, L]) (npM : p.p ∉ [M, L]) :
    t_law_14 K D [a, some (.ref p), c, d, some (.ref B), e, f, g, some (.ref M), i, some (.ref T), j, none, none] H := by
  have kT : ∀ {H1 : Hp}, Keep [p.p, B, M, L] H H1 → SqT K H1 T [.ref P, ob] ∧ H1 P = some (.lst (pts.map V.int)) := fun k => ⟨k.sqT nT hT, k _ _ nP hP⟩
  unfold t_law_14
  walk_at "go"
  refine f_rng (fun n σ H1 => ∃ (u : U8) (r : List Int) (x5 x9 x12 : Option V), σ = [a, some (.ref p), c, d, some (.ref B), x5, f, g, some (.ref M), x9, some (.ref T), j, x12, none] ∧ Wt u l r cc ∧ u.left + n ≤ 3 ∧ u.pts = pts ∧ U8At K H1 M L u ∧
    H1 B = some (.lst ((l :: r).map V.int)) ∧ Dr K p 0 3 H1 ∧ Keep [p.p, B, M, L] H H1) ?_ ?_ ?_
  · refine ⟨u, r, _, _, _, rfl, w, ?_, hp, hu, hB, hd, .refl _⟩
    have h1 := w.left
    have h2 := w.lead
    omega
  · rintro n σ H1 hn ⟨u, r, x5, x9, x12, rfl, w, hln, hp, hu1, hB1, hd1, k1⟩
    have hr : r.length ≤ 2 := by
      have h1 := w.left
      have h2 := w.lead
      have h3 := w.pos
      omega
    have ro : r.length ≤ 3 := by omega
    walk_at "go"
    unfold t_law_14a_0
    walk_at "go"
    intro q2 H2 n2
    have k12 : Keep [] H1 H2 := n2.keep []
    have hd2 := hd1.new n2
    refine i_listK n2.sqL ?_
    refine c_list (xs := [128, 144, 160, 191].map V.int) (fun D n H3 => H3 D = some (.lst ((([128, 144, 160, 191].take n).filter (okB l r)).map V.int)) ∧ Keep [] H2 H3) ?_ ?_ ?_ ?_
    · intro D hD
      exact ⟨upd_same, .put (.refl _) (.inr hD)⟩
    · rintro D n H3 hD hn ⟨_, k⟩
      exact k.sqL (by simp) n2.sqL
    · rintro D n x H3 hD hx ⟨hD3, k3⟩
      obtain ⟨o, ho, rfl⟩ := get_map hx
      have hB3 := k3 _ _ (by simp) (k12 _ _ (by simp) hB1)
      walk_at "go"
      refine ⟨rfl, ?_⟩
      walk_at "go"
      intro q4 H4 n4
      refine i_cat (n4.keep [] _ _ (by simp) hB3) n4.at_ (by simp only [List.length_map, List.length_cons, List.length_nil]; omega) fun q5 H5 n5 => ?_
      walk_at "go"
      refine i_cc (os := l :: (r ++ [o])) (by rw [n5.at_]; simp) (by simp) (by simp; omega) fun H6 k6 => ?_
      walk_at "go"
      have k36 : Keep [] H3 H6 := ((n4.keep []).trans (n5.keep [])).trans k6
      have hD6 := k36 _ _ (by simp) hD3
      have tk := take_succ ho
      have lf := List.length_filter_le (okB l r) ([128, 144, 160, 191].take n)
      have lt : ([128, 144, 160, 191].take n : List Int).length ≤ 4 := by rw [List.length_take]; simp; omega
      refine i_D (fun z => ?_) (fun z => ?_)
      · walk_at "go"
        refine ⟨_, hD6, small_lt (by rw [List.length_map]; omega), ?_, .put (k3.trans k36) (.inr hD)⟩
        rw [upd_same, tk, List.filter_append, List.filter_cons_of_pos (by unfold okB; exact decide_eq_true z)]
        simp
      · refine ⟨?_, k3.trans k36⟩
        rw [hD6, tk, List.filter_append, List.filter_cons_of_neg (by unfold okB; simpa using z)]
        simp
    · rintro q3 H3 f3 ⟨h3, k3⟩
      obtain ⟨hm, hf⟩ := w.fits
      have hall : (([128, 144, 160, 191].map V.int).length) = 4 := rfl
      rw [hall] at h3
      have hin : u.low ∈ [128, 144, 160, 191].filter (okB l r) := List.mem_filter.mpr ⟨hm, decide_eq_true hf⟩
      have hok : ∀ x ∈ [128, 144, 160, 191].filter (okB l r), 0 ≤ canCome (l :: (r ++ [x])) ∧ 128 ≤ x ∧ x ≤ 191 := fun x hx => by
        obtain ⟨z1, z2⟩ := List.mem_filter.mp hx
        refine ⟨of_decide_eq_true z2, ?_⟩
        simp at z1
        omega
      have h3' : H3 q3 = some (.lst (([128, 144, 160, 191].filter (okB l r)).map V.int)) := h3
      generalize hfs : [128, 144, 160, 191].filter (okB l r) = fs at h3' hin hok
      have hpos : 0 < fs.length := List.length_pos_of_mem hin
      have hd3 := hd2.keep k3
      have k13 : Keep [] H1 H3 := k12.trans k3
      have hB3 := k13 _ _ (by simp) hB1
      have hu3 := hu1.keep k13 (by simp) (by simp)
      have qB : q3 ≠ B := fun z => by rw [z] at f3; rw [k12 _ _ (by simp) hB1] at f3; cases f3
      walk_at "go"
      unfold t_law_14a_1
      walk_at "go"
      refine ⟨ty_lst hB3, ?_⟩
      walk_at "go"
      refine i_lenL (SqL.of h3') ?_
      walk_at "go"
      refine ⟨p, 0, 3, _, rfl, by rw [List.length_map]; omega, hd3, fun x H4 x0 x1 hd4 k4 => ?_⟩
      have qp : q3 ≠ p.p := by
        obtain ⟨xs, ee⟩ := hd2.at_
        exact (ne_of_none ee f3).symm
      obtain ⟨o, hof, ho⟩ := atI_pick (xs := fs) x0 (by rw [List.length_map] at x1; omega)
      refine i_ixL (SqL.of (k4 _ _ (by simpa using qp) h3')) ho ?_
      walk_at "go"
      obtain ⟨ho1, ho2, ho3⟩ := hok o hof
      have nBp : B ∉ [p.p] := fun z => nB (by simp at z; simp [z])
      have hB4 := k4 _ _ nBp hB3
      have hu4 := hu3.keep k4 (fun z => npM (by simp at z; simp [z])) (fun z => npM (by simp at z; simp [z]))
      refine i_app hB4 (by rw [List.length_map]; simp; omega) ?_
      have MB : M ≠ B := fun z => nB (by simp [z])
      have LB : L ≠ B := fun z => nB (by simp [z])
      have pB : p.p ≠ B := fun z => nB (by simp [z])
      have hB5 : (upd H4 B (.lst ((l :: r).map V.int ++ [V.int o]))) B = some (.lst ((l :: (r ++ [o])).map V.int)) := by rw [upd_same]; simp
      have k45 : Keep [B] H4 (upd H4 B (.lst ((l :: r).map V.int ++ [V.int o]))) := .put (.refl _) (.inl (by simp))
      have hu5 := hu4.keep k45 (by simpa using MB) (by simpa using LB)
      have hd5 := hd0.upd (P := B) (o := .lst ((l :: r).map V.int ++ [V.int o])) (hS B (by simp)) hd4
      have k15 : Keep [p.p, B, M, L] H1 (upd H4 B (.lst ((l :: r).map V.int ++ [V.int o]))) := ((k13.all.trans (k4.mono (by simp))).trans (k45.mono (by simp)))
      generalize (upd H4 B (.lst ((l :: r).map V.int ++ [V.int o]))) = H5 at hB5 hu5 hd5 k15
      have l5 : (l :: (r ++ [o])).length = r.length + 2 := by simp
      unfold t_law_14a_2
      obtain ⟨⟨dx5, hM5⟩, hL5⟩ := id hu5
      walk_at "go"
      refine i_methK hM5 (by decide +kernel) ?_
      walk_at "go"
      refine i_lenL (SqL.of hB5) ?_
      walk_at "go"
      have ix : atI ((l :: (r ++ [o])).map V.int) ((((l :: (r ++ [o])).map V.int).length : Int) - 1) = some (.int o) := by
        have ee : (((l :: (r ++ [o])).map V.int).length : Int) - 1 = ((r.length + 1 : Nat) : Int) := by
          rw [List.length_map, l5]
          omega
        rw [ee]
        refine atI_nat ?_
        simp
      refine i_ixL (SqL.of hB5) ix ?_
      walk_at "go"
      have step : ∃ v, u8take u o = some v ∧ ((canCome (l :: (r ++ [o])) = 0 ∧ v.left = 0 ∧ v.pts = pts ++ [u.bits * 64 + o - 128] ∧ ccFold (l - base3 (r.length + 2)) (r ++ [o]) = some (u.bits * 64 + o - 128)) ∨ (canCome (l :: (r ++ [o])) ≠ 0 ∧ Wt v l (r ++ [o]) cc ∧ v.left + 1 = u.left ∧ v.pts = pts)) := by
        by_cases z : canCome (l :: (r ++ [o])) = 0
        · obtain ⟨v, v1, v2, v3, v4, v5, v6⟩ := w.done z ⟨ho2, ho3⟩
          refine ⟨v, v1, .inl ⟨z, v2, by rw [v3, hp], ?_⟩⟩
          have eb : baseOf cc = base3 (r.length + 2) := by
            rw [l5] at v5
            unfold baseOf base3
            rcases v6 with rfl | rfl | rfl
            · have : r.length = 0 := by omega
              rw [this]; rfl
            · have : r.length = 1 := by omega
              rw [this]; rfl
            · have : r.length = 2 := by omega
              rw [this]; rfl
          rw [← eb]
          exact v4
        · rcases in_step (o := o) w with ⟨y, _⟩ | ⟨y, _⟩ | ⟨_, v, y, y2, w2⟩
          · omega
          · exact absurd y z
          · refine ⟨v, y, .inr ⟨z, w2, ?_, by rw [y2, hp]⟩⟩
            have q1 := w.left
            have q2 := w2.left
            rw [List.length_append] at q2
            simp at q2
            omega
      obtain ⟨v, hv, step⟩ := step
      refine ⟨M, L, u, o, rfl, hu5, by rw [hp]; omega, fun z => (by rw [hv] at z; cases z), fun v' H6 hv' hu6 k6 => ?_⟩
      obtain rfl : v = v' := Option.some.inj (hv.symm.trans hv')
      have hB6 := k6 _ _ (fun z => nB (by simp at z; simp [z])) hB5
      have hd6 := hd0.over (S := [M, L]) (fun q hq => hS q (by simp at hq; simp [hq])) hd5 k6
      have k16 := k15.trans (k6.mono (by simp))
      walk_at "go"
      refine i_NDF rfl ?_
      walk_at "go"
      unfold t_law_14a_3
      walk_at "go"
      refine i_cc hB6 (by simp) (by omega) fun H7 k7 => ?_
      have k17 := k16.trans k7.all
      have hu7 := hu6.keep k7 (by simp) (by simp)
      have hB7 := k7 _ _ (by simp) hB6
      have hd7 := hd6.keep k7
      walk_at "go"
      rcases step with ⟨s1, s2, s3, s4⟩ | ⟨s1, s2, s3, s4⟩
      · refine i_DT (by rw [s1]) ?_
        unfold t_law_14a_3a_0
        walk_at "go"
        obtain ⟨hT7, hP7⟩ := kT (k1.trans k17)
        refine e15 kU hD (by rw [List.length_append]; simp; omega) (by rw [List.length_append]; exact s4) hB7 hu7 s2 s3 hT7 hP7 hlen
      · refine i_DF s1 ?_
        walk_at "go"
        exact ⟨v, r ++ [o], _, _, _, rfl, s2, by omega, s4, hu7, hB7, hd7, k1.trans k17⟩
  · rintro σ H1 ⟨u, r, x5, x9, x12, rfl, w, hln, _⟩
    have := w.pos
    omega
end
section
variable {K : PySem.W.Frag} {D : Ends} {H : Hp} {B M L T P O : Addr} {a b c d e f g i j k m : Option V}
/-- a pair of a list of ints and a flag -/
theorem dpF {q l : Addr} {ps : List Int} {x : Bool} (h : SqT K H q [.ref l, .bl x]) (h2 : SqL K H l (ps.map V.int)) : Dp K H (.ref q) (.tuple [.list (ps.map PyData.int), .bool x]) := .tup h (.cons (.lst h2 (dpInts ps)) (.cons (.bl x) .nil))
theorem shF (ps : List Int) (x : Bool) : SeqAt.shaped (.tuple [.list (ps.map PyData.int), .bool x]) = true := by
  simp [SeqAt.shaped, PyData.canLay0, PyData.canLayAll0, PyData.depth, PyData.depthAll, layInts, depInts]
theorem eqvF (ps : List Int) (x : Bool) : PyData.eqv (.tuple [.list (ps.map PyData.int), .bool x]) (.tuple [.list (ps.map PyData.int), .bool x]) = true := by
  simp [PyData.eqv, PyData.eqvAll, eqvInts]
theorem i_neF {q q2 l l2 : Addr} {ps : List Int} {x : Bool} {Q : VK} (h : SqT K H q [.ref l, .bl x]) (h2 : SqL K H l (ps.map V.int)) (h' : SqT K H q2 [.ref l2, .bl x]) (h2' : SqL K H l2 (ps.map V.int)) (hq : Q (.bl false) H) : rNeD K (.ref q) (.ref q2) H Q :=
  ⟨_, _, dpF h h2, dpF h' h2', shF _ _, shF _ _, by rw [eqvF]; exact hq⟩
theorem e13 (kU : Kls K "Utf8" F_Utf8) (hD : ∀ H', D.rt (.bl true) H') {p : Pst} {u : U8} {b : List Int} (jx : Jx u b) {H0 : Hp} (hd0 : Dr K p 0 3 H0) (hS : ∀ q ∈ [B, M, L], H0 q = none) (hd : Dr K p 0 3 H)
    (hB : H B = some (.lst (b.map V.int))) (hu : U8At K H M L u) {ob : V} (hT : SqT K H T [.ref P, ob]) (hP : H P = some (.lst (u.pts.map V.int))) (hlen : u.pts.length ≤ 1000)
    (nT : T ∉ [p.p, B, M, L]) (nP : P ∉ [p.p, B, M, L]) (nB : B ∉ [p.p, M, L]) (npM : p.p ∉ [M, L]) :
    t_law_13 K D [a, some (.ref p), c, d, some (.ref B), e, f, g, some (.ref M), i, some (.ref T), j, none, none] H := by
  unfold t_law_13
  walk_at "go"
  intro E H1 n1
  have hu1 := hu.keep (n1.keep []) (by simp) (by simp)
  have hB1 := n1.keep [] _ _ (by simp) hB
  refine i_eqL (ns := b) (ms := []) (SqL.of hB1) n1.sqL ?_
  walk_at "go"
  rcases jx with ⟨rfl, h0⟩ | ⟨l, r, cc, rfl, w⟩
  · refine i_DT rfl ?_
    unfold t_law_13a_0
    obtain ⟨⟨dx1, hM1⟩, hL1⟩ := id hu1
    walk_at "go"
    refine i_methK hM1 (by decide +kernel) ?_
    walk_at "go"
    have tk : u8take u 97 = some { u with pts := u.pts ++ [97] } := by
      unfold u8take u8begin
      rw [if_pos h0, if_pos (by decide)]
    refine ⟨M, L, u, 97, rfl, hu1, by omega, fun z => (by rw [tk] at z; cases z), fun v H2 e2 hu2 k2 => ?_⟩
    rw [tk] at e2
    obtain rfl := Option.some.inj e2
    obtain ⟨⟨dx2, hM2⟩, hL2⟩ := id hu2
    walk_at "go"
    refine i_DT rfl ?_
    walk_at "go"
    refine i_fldK kU hM2 0 rfl rfl ?_
    walk_at "go"
    have ix : atI ((u.pts ++ [97]).map V.int) (-1) = some (.int 97) := by
      rw [List.map_append]
      simp [atI, ixN]
      have e1 : (-1 + ((u.pts.length : Int) + 1)).toNat = u.pts.length := by omega
      rw [if_pos (by omega), e1]
      simp
    refine i_ixL (SqL.of hL2) ix ?_
    walk_at "go"
    exact hD H2
  · refine i_DF (by simp) ?_
    walk_at "go"
    exact e14 kU hD w hd0 hS (hd.new n1) hB1 hu1 rfl ((n1.keep []).sqT (by simp) hT) (n1.keep [] _ _ (by simp) hP) hlen nT nP nB npM
def noB (b : List Int) (x : Int) : Bool := decide (canCome (b ++ [x]) < 0)
theorem e12 (kU : Kls K "Utf8" F_Utf8) (hD : ∀ H', D.rt (.bl true) H') {p : Pst} {u : U8} {b os : List Int} {dd : Nat} {od : Int} (hod : os[dd]? = some od) (hno : u8take u od = none) (hO : H O = some (.lst (os.map V.int)))
    (jx : Jx u b) (hbl : b.length ≤ 500) {H0 : Hp} (hd0 : Dr K p 0 3 H0) (hS : ∀ q ∈ [B, M, L], H0 q = none) (hd : Dr K p 0 3 H)
    (hB : H B = some (.lst (b.map V.int))) (hu : U8At K H M L u) (hT : SqT K H T [.ref P, .bl (decide (0 < u.left))]) (hP : H P = some (.lst (u.pts.map V.int))) (hlen : u.pts.length ≤ 1000)
    (nT : T ∉ [p.p, B, M, L]) (nP : P ∉ [p.p, B, M, L]) (nB : B ∉ [p.p, M, L]) (npM : p.p ∉ [M, L]) :
    t_law_12 K D [a, some (.ref p), some (.ref O), some (.int dd), some (.ref B), e, f, g, some (.ref M), i, some (.ref T), none, none, none] H := by
  have hdd : dd < os.length := (List.getElem?_eq_some_iff.mp hod).1
  have ixo : atI (os.map V.int) (dd : Int) = some (.int od) := atI_nat (by simp [hod])
  unfold t_law_12
  walk_at "go"
  refine i_ixL (SqL.of hO) ixo ?_
  walk_at "go"
  refine i_ixL (SqL.of hO) ixo ?_
  walk_at "go"
  intro q1 H1 n1
  walk_at "go"
  intro q2 H2 n2
  have k02 : Keep [] H H2 := (n1.keep []).trans (n2.keep [])
  refine i_listK n2.sqL ?_
  refine c_list (xs := [97, 128, 143, 159, 160, 191, 194].map V.int) (fun D n H3 => H3 D = some (.lst ((([97, 128, 143, 159, 160, 191, 194].take n).filter (noB b)).map V.int)) ∧ Keep [] H2 H3) ?_ ?_ ?_ ?_
  · intro D hD
    exact ⟨upd_same, .put (.refl _) (.inr hD)⟩
  · rintro D n H3 hD hn ⟨_, k⟩
    exact k.sqL (by simp) n2.sqL
  · rintro D n x H3 hD hx ⟨hD3, k3⟩
    obtain ⟨o, ho, rfl⟩ := get_map hx
    have hB3 := k3 _ _ (by simp) (k02 _ _ (by simp) hB)
    walk_at "go"
    refine ⟨rfl, ?_⟩
    walk_at "go"
    intro q4 H4 n4
    refine i_cat (n4.keep [] _ _ (by simp) hB3) n4.at_ (by simp only [List.length_map, List.length_cons, List.length_nil]; omega) fun q5 H5 n5 => ?_
    walk_at "go"
    refine i_cc (os := b ++ [o]) (by rw [n5.at_]; simp) (by simp) (by simp; omega) fun H6 k6 => ?_
    walk_at "go"
    have k36 : Keep [] H3 H6 := ((n4.keep []).trans (n5.keep [])).trans k6
    have hD6 := k36 _ _ (by simp) hD3
    have tk := take_succ ho
    have lf := List.length_filter_le (noB b) ([97, 128, 143, 159, 160, 191, 194].take n)
    have lt : ([97, 128, 143, 159, 160, 191, 194].take n : List Int).length ≤ 7 := by rw [List.length_take]; simp; omega
    refine i_D (fun z => ?_) (fun z => ?_)
    · walk_at "go"
      refine ⟨_, hD6, small_lt (by rw [List.length_map]; omega), ?_, .put (k3.trans k36) (.inr hD)⟩
      rw [upd_same, tk, List.filter_append, List.filter_cons_of_pos (by unfold noB; exact decide_eq_true z)]
      simp
    · refine ⟨?_, k3.trans k36⟩
      rw [hD6, tk, List.filter_append, List.filter_cons_of_neg (by unfold noB; simpa using z)]
      simp
  · rintro q3 H3 f3 ⟨h3, k3⟩
    have hall : (([97, 128, 143, 159, 160, 191, 194].map V.int).length) = 7 := rfl
    rw [hall] at h3
    have hok : ∀ x ∈ [97, 128, 143, 159, 160, 191, 194].filter (noB b), u8take u x = none := fun x hx => by
      obtain ⟨z1, z2⟩ := List.mem_filter.mp hx
      refine jx.none (by simp at z1; omega) (of_decide_eq_true z2)
    have lf := List.length_filter_le (noB b) [97, 128, 143, 159, 160, 191, 194]
    have h3' : H3 q3 = some (.lst (([97, 128, 143, 159, 160, 191, 194].filter (noB b)).map V.int)) := h3
    generalize [97, 128, 143, 159, 160, 191, 194].filter (noB b) = fs at h3' hok lf
    have hq1 : H3 q1 = some (.lst [.int od, .int od]) := k3 _ _ (by simp) (n2.keep [] _ _ (by simp) n1.at_)
    refine i_cat hq1 h3' (by simp at lf; simp only [List.length_map, List.length_cons, List.length_nil]; omega) fun q4 H4 n4 => ?_
    have k04 : Keep [] H H4 := (k02.trans k3).trans (n4.keep [])
    have e4 : [V.int od, V.int od] ++ fs.map V.int = (od :: od :: fs).map V.int := rfl
    rw [e4] at n4
    walk_at "go"
    refine i_listK n4.sqL ?_
    refine f_list (xs := (od :: od :: fs).map V.int) (fun n σ H5 => ∃ (x9 : Option V), σ = [a, some (.ref p), some (.ref O), some (.int dd), some (.ref B), e, f, g, some (.ref M), x9, some (.ref T), none, none, none] ∧ Keep [] H4 H5)
      ⟨_, rfl, .refl _⟩ (fun n σ H5 _ ⟨_, _, k⟩ => k.sqL (by simp) n4.sqL) ?_ ?_
    · rintro n x σ H5 hi ⟨x9, rfl, k5⟩
      obtain ⟨o, ho, rfl⟩ := get_map hi
      have hn : u8take u o = none := by
        rcases List.mem_cons.mp (List.mem_of_getElem? ho) with z | z
        · rw [z]; exact hno
        · rcases List.mem_cons.mp z with z | z
          · rw [z]; exact hno
          · exact hok _ z
      have k05 := k04.trans k5
      have hu5 := hu.keep k05 (by simp) (by simp)
      obtain ⟨⟨dx5, hM5⟩, hL5⟩ := id hu5
      walk_at "go"
      unfold t_law_12a_0
      walk_at "go"
      refine i_methK hM5 (by decide +kernel) ?_
      walk_at "go"
      refine ⟨M, L, u, o, rfl, hu5, by omega, fun _ => ?_, fun v H6 z => (by rw [hn] at z; cases z)⟩
      walk_at "go"
      refine i_NDF rfl ?_
      walk_at "go"
      refine i_fldK kU hM5 0 rfl rfl ?_
      walk_at "go"
      refine i_propK hM5 ⟨M, L, u, rfl, hu5, ?_⟩
      walk_at "go"
      intro q6 H6 n6
      have k06 := k05.trans (n6.keep [])
      have hu6 := hu5.keep (n6.keep []) (by simp) (by simp)
      walk_at "go"
      refine i_neF n6.sqT (SqL.of hu6.pt) (k06.sqT (by simp) hT) (SqL.of (k06 _ _ (by simp) hP)) ?_
      walk_at "go"
      exact ⟨_, rfl, k5.trans (n6.keep [])⟩
    · rintro σ H5 ⟨x9, rfl, k5⟩
      have k05 := k04.trans k5
      exact e13 kU hD jx hd0 hS (hd.keep k05) (k05 _ _ (by simp) hB) (hu.keep k05 (by simp) (by simp)) (k05.sqT (by simp) hT) (k05 _ _ (by simp) hP) hlen nT nP nB npM
end
section
variable {K : PySem.W.Frag} {D : Ends} {H : Hp} {B M L T P O : Addr} {a b c d e f g i j k m : Option V}
theorem e11 (kU : Kls K "Utf8" F_Utf8) (hD : ∀ H', D.rt (.bl true) H') {p : Pst} {u : U8} {b os : List Int} {dd : Nat} {od : Int} (hod : os[dd]? = some od) (hno : u8take u od = none) (hO : H O = some (.lst (os.map V.int)))
    (jx : Jx u b) (hbl : b.length ≤ 500) {H0 : Hp} (hd0 : Dr K p 0 3 H0) (hS : ∀ q ∈ [B, M, L], H0 q = none) (hd : Dr K p 0 3 H)
    (hB : H B = some (.lst (b.map V.int))) (hu : U8At K H M L u) (hlen : u.pts.length ≤ 1000) (nB : B ∉ [p.p, M, L]) (npM : p.p ∉ [M, L]) :
    t_law_11 K D [a, some (.ref p), some (.ref O), some (.int dd), some (.ref B), e, f, g, some (.ref M), i, none, none, none, none] H := by
  obtain ⟨⟨dx, hM⟩, hL⟩ := id hu
  obtain ⟨px, hp⟩ := hd.at_
  have out : ∀ {q : Addr}, H q = none → q ∉ [p.p, B, M, L] := fun {q} z y => by
    simp at y
    rcases y with y | y | y | y
    · rw [y, hp] at z; cases z
    · rw [y, hB] at z; cases z
    · rw [y, hM] at z; cases z
    · rw [y, hL] at z; cases z
  unfold t_law_11
  walk_at "go"
  refine i_fldK kU hM 0 rfl rfl ?_
  walk_at "go"
  refine i_lstOf (.inl (SqL.of hL)) fun P H1 n1 => ?_
  have hu1 := hu.keep (n1.keep []) (by simp) (by simp)
  obtain ⟨⟨dx1, hM1⟩, hL1⟩ := id hu1
  walk_at "go"
  refine i_propK hM1 ⟨M, L, u, rfl, hu1, ?_⟩
  walk_at "go"
  intro T H2 n2
  have k2 : Keep [] H H2 := (n1.keep []).trans (n2.keep [])
  walk_at "go"
  exact e12 kU hD hod hno (k2 _ _ (by simp) hO) jx hbl hd0 hS (hd.keep k2) (k2 _ _ (by simp) hB) (hu.keep k2 (by simp) (by simp)) n2.sqT (n2.keep [] _ _ (by simp) n1.at_) hlen (out ((n1.keep []).fresh (by simp) n2.free)) (out n1.free) nB npM
theorem all_le {os : List Int} {d n : Nat} {u v : U8} (h : u8all u (os.take d) = some v) (hn : n ≤ d) : ∃ w, u8all u (os.take n) = some w := by
  have e : os.take d = os.take n ++ (os.take d).drop n := by
    have z : (os.take d).take n = os.take n := by rw [List.take_take, Nat.min_eq_left hn]
    rw [← z, List.take_append_drop]
  rw [e, all_app] at h
  cases z : u8all u (os.take n) with
  | none => rw [z] at h; cases h
  | some w => exact ⟨w, rfl⟩
theorem e9 (kU : Kls K "Utf8" F_Utf8) (hD : ∀ H', D.rt (.bl true) H') {p : Pst} {u : U8} {b os : List Int} {dd : Nat} {od : Int} (hod : os[dd]? = some od) (hno : u8take u od = none) (hall : u8all u8new (os.take dd) = some u) (hO : H O = some (.lst (os.map V.int)))
    (jx : Jx u b) (hbl : b.length ≤ 500) {H0 : Hp} (hd0 : Dr K p 0 3 H0) (hB0 : H0 B = none) (k0 : Keep [] H0 H)
    (hB : H B = some (.lst (b.map V.int))) (hosl : os.length ≤ 500) :
    t_law_9 K D [a, some (.ref p), some (.ref O), some (.int dd), some (.ref B), e, f, g, none, none, none, none, none, none] H := by
  have hdd : dd < os.length := (List.getElem?_eq_some_iff.mp hod).1
  have hd := hd0.keep k0
  obtain ⟨px, hp⟩ := hd.at_
  obtain ⟨px0, hp0⟩ := hd0.at_
  unfold t_law_9
  walk_at "go"
  refine i_makeK F_Utf8 fun M dx H1 hM0 hM1 k1 => ?_
  refine ⟨M, dx, rfl, hM1, fun L H2 hL0 hu2 k2 => ⟨rfl, ?_⟩⟩
  have hL00 : H L = none := (k1 []).fresh (by simp) hL0
  have BM : B ≠ M := ne_of_none hB hM0
  have BL : B ≠ L := ne_of_none hB hL00
  have OM : O ≠ M := ne_of_none hO hM0
  have OL : O ≠ L := ne_of_none hO hL00
  have pM : p.p ≠ M := ne_of_none hp hM0
  have pL : p.p ≠ L := ne_of_none hp hL00
  have pB : p.p ≠ B := ne_of_none hp0 hB0
  have hM00 : H0 M = none := k0.fresh (by simp) hM0
  have hL000 : H0 L = none := k0.fresh (by simp) hL00
  have hB2 := k2 B _ (by simpa using BM) (k1 [] _ _ (by simp) hB)
  have hO2 := k2 O _ (by simpa using OM) (k1 [] _ _ (by simp) hO)
  have hd2 := hd0.over (S := [M]) (by simpa using hM00) (hd.keep (k1 [])) k2
  walk_at "go"
  unfold t_law_10
  walk_at "go"
  refine i_slL (SqL.of hO2) fun t H3 n3 => ?_
  rw [cutV_to, ← List.map_take] at n3
  walk_at "go"
  obtain ⟨⟨dx2, hM2⟩, hL2⟩ := id hu2
  have tM : t ≠ M := fun z => by have := n3.free; rw [z, hM2] at this; cases this
  have tL : t ≠ L := fun z => by have := n3.free; rw [z, hL2] at this; cases this
  refine i_listK n3.sqL ?_
  refine f_list (xs := (os.take dd).map V.int) (fun n σ H4 => ∃ (w : U8) (x9 : Option V), σ = [a, some (.ref p), some (.ref O), some (.int dd), some (.ref B), e, f, g, some (.ref M), x9, none, none, none, none] ∧ U8At K H4 M L w ∧ u8all u8new (os.take n) = some w ∧ Keep [M, L] H3 H4)
    ⟨u8new, _, rfl, hu2.keep (n3.keep []) (by simp) (by simp), rfl, .refl _⟩ (fun n σ H4 _ ⟨_, _, _, _, _, k⟩ => k.sqL (by simp [tM, tL]) n3.sqL) ?_ ?_
  · rintro n x σ H4 hi ⟨w, x9, rfl, hu4, hw, k4⟩
    obtain ⟨o, ho, rfl⟩ := get_map hi
    have hnd : n < dd := by
      have := (List.getElem?_eq_some_iff.mp ho).1
      rw [List.length_take] at this
      omega
    have ho' : os[n]? = some o := by
      rw [List.getElem?_take_of_lt hnd] at ho
      exact ho
    obtain ⟨w', hw'⟩ := all_le (n := n + 1) hall hnd
    have htk : u8take w o = some w' := by
      rw [take_succ ho', all_app, hw] at hw'
      have hw' : u8all w [o] = some w' := hw'
      cases z : u8take w o with
      | none =>
        unfold u8all at hw'
        rw [z] at hw'
        cases hw'
      | some v =>
        rw [all_cons z] at hw'
        exact hw'
    have hwl := all_len hw
    have e0 : u8new.pts.length = 0 := rfl
    have hwl2 : (os.take n).length ≤ 500 := by rw [List.length_take]; omega
    obtain ⟨⟨dx4, hM4⟩, hL4⟩ := id hu4
    walk_at "go"
    unfold t_law_10a_0
    walk_at "go"
    refine i_methK hM4 (by decide +kernel) ?_
    walk_at "go"
    refine ⟨M, L, w, o, rfl, hu4, by omega, fun z => (by rw [htk] at z; cases z), fun w2 H5 e5 hu5 k5 => ?_⟩
    obtain rfl : w' = w2 := Option.some.inj (htk.symm.trans e5)
    walk_at "go"
    refine i_NDF rfl ?_
    walk_at "go"
    exact ⟨w', _, rfl, hu5, hw', k4.trans k5⟩
  · rintro σ H4 ⟨w, x9, rfl, hu4, hw, k4⟩
    have hlt : ((os.take dd).map V.int).length = dd := by
      rw [List.length_map, List.length_take]
      omega
    rw [hlt, hall] at hw
    obtain rfl := Option.some.inj hw
    have hul := all_len hall
    have e0 : u8new.pts.length = 0 := rfl
    have hul2 : (os.take dd).length ≤ 500 := by rw [List.length_take]; omega
    have hS : ∀ q ∈ [B, M, L], H0 q = none := fun q hq => by
      simp at hq
      rcases hq with z | z | z <;> rw [z] <;> assumption
    have hd4 := hd0.over (S := [M, L]) (fun q hq => hS q (by simp at hq; simp [hq])) (hd2.new n3) k4
    exact e11 kU hD hod hno (k4 _ _ (by simp [OM, OL]) (n3.keep [] _ _ (by simp) hO2)) jx hbl hd0 hS hd4 (k4 _ _ (by simp [BM, BL]) (n3.keep [] _ _ (by simp) hB2)) hu4 (by omega) (by simp [BM, BL, pB.symm]) (by simp [pM, pL])
end
section
variable {K : PySem.W.Frag} {D : Ends} {H : Hp} {B M L T P O : Addr} {a b c d e f g i j k m : Option V}
/-- what the search has found -/
def dueV : Option Nat → V
  | none => .non
  | some d => .int d
structure Fnd (os : List Int) (i : Nat) (due : Option Nat) (u : U8) (b : List Int) : Prop where
  jx : Jx u b
  bl : b.length ≤ i
  no : due = none → u8all u8new (os.take i) = some u
  yes : ∀ d, due = some d → d < i ∧ u8all u8new (os.take d) = some u ∧ ∃ o, os[d]? = some o ∧ u8take u o = none
theorem dec_no {os : List Int} {i : Nat} {o : Int} {u : U8} (h : os[i]? = some o) (a : u8all u8new (os.take i) = some u) (t : u8take u o = none) : u8dec os = (none, some (i : Int)) := by
  unfold u8dec
  rw [run_no h a t]
theorem dec_all {os : List Int} {u : U8} (a : u8all u8new os = some u) : u8dec os = if u.left > 0 then (none, some ((os.length : Int) - 1)) else (some u.pts, none) := by
  have z := run_all (i := os.length) (k := 0) (os := os) (u := u8new) (v := u) (Nat.le_refl _) (by rw [List.take_length]; exact a)
  rw [List.drop_length] at z
  have z' : u8run u8new 0 os = .inl u := z
  unfold u8dec
  rw [z']
theorem e5 (kU : Kls K "Utf8" F_Utf8) (hD : ∀ H', D.rt (.bl true) H') {p : Pst} {u : U8} {b os : List Int} {due : Option Nat} (fn : Fnd os os.length due u b) (hO : H O = some (.lst (os.map V.int)))
    {H0 : Hp} (hd0 : Dr K p 0 3 H0) (hB0 : H0 B = none) (k0 : Keep [] H0 H) (hB : H B = some (.lst (b.map V.int))) (hosl : os.length ≤ 500) :
    t_law_5 K D [a, some (.ref p), some (.ref O), some (dueV due), some (.ref B), e, f, none, none, none, none, none, none, none] H := by
  unfold t_law_5
  walk_at "go"
  refine ⟨O, os, rfl, .inl (SqL.of hO), by omega, fun q H1 q0 k1 hq => ?_⟩
  walk_at "go"
  unfold t_law_6
  walk_at "go"
  cases due with
  | none =>
    have hall : u8all u8new os = some u := by
      have := fn.no rfl
      rwa [List.take_length] at this
    rw [dec_all hall] at hq
    refine i_DT rfl ?_
    walk_at "go"
    intro E2 H2 n2
    have hB2 := n2.keep [] _ _ (by simp) (k1 _ _ (by simp) hB)
    refine i_eqL (ns := b) (ms := []) (SqL.of hB2) n2.sqL ?_
    walk_at "go"
    rcases fn.jx with ⟨rfl, h0⟩ | ⟨l, r, cc, rfl, w⟩
    · refine i_DT rfl ?_
      rw [if_neg (by omega)] at hq
      obtain ⟨t, q1, q2⟩ := hq
      have q3 := n2.keep [] _ _ (by simp) q1
      unfold t_law_6a_0
      walk_at "go"
      refine i_isiT q3 ?_
      walk_at "go"
      refine i_lenQ (ys := [.ref t, .non]) (.inr (SqT.of q3)) ?_
      walk_at "go"
      refine i_DT rfl ?_
      walk_at "go"
      refine i_ixT (SqT.of q3) (atI_nat (j := 1) (v := .non) rfl) ?_
      walk_at "go"
      rw [decide_eq_true rfl]
      exact hD H2
    · refine i_DF (by simp) ?_
      have hp := w.pos
      rw [if_pos hp] at hq
      have q3 := n2.keep [] _ _ (by simp) hq
      walk_at "go"
      unfold t_law_7
      walk_at "go"
      refine i_DT rfl ?_
      unfold t_law_7a_0
      walk_at "go"
      have k02 : Keep [] H H2 := k1.trans (n2.keep [])
      refine i_lenL (SqL.of (k02 _ _ (by simp) hO)) ?_
      walk_at "go"
      intro q4 H4 n4
      rw [List.length_map] at n4
      refine i_eqR (prI (SqT.of (n4.keep [] _ _ (by simp) q3))) (prI n4.sqT) ?_
      rw [decide_eq_true ⟨rfl, rfl⟩]
      exact hD _
  | some dd =>
    obtain ⟨hdd, hall, od, hod, hno⟩ := fn.yes dd rfl
    rw [dec_no hod hall hno] at hq
    have hq : H1 q = some (.tup [.non, .int dd]) := hq
    refine i_DF (by intro z; cases z) ?_
    walk_at "go"
    unfold t_law_7
    walk_at "go"
    refine i_DF (by intro z; cases z) ?_
    walk_at "go"
    unfold t_law_8
    walk_at "go"
    intro q4 H4 n4
    refine i_neR (prI (SqT.of (n4.keep [] _ _ (by simp) hq))) (prI n4.sqT) ?_
    walk_at "go"
    refine i_NDF ⟨rfl, rfl⟩ ?_
    walk_at "go"
    have k4 : Keep [] H H4 := k1.trans (n4.keep [])
    exact e9 kU hD hod hno hall (k4 _ _ (by simp) hO) fn.jx (by have := fn.bl; omega) hd0 hB0 (k0.trans k4) (k4 _ _ (by simp) hB) hosl
theorem len_law {vs : List V} {H : Hp} {Q : VK} {E : XK} (h : sp_law K vs H Q E) : vs.length = 1 := by obtain ⟨_, _, rfl, _⟩ := h; rfl
theorem r_law (kU : Kls K "Utf8" F_Utf8) {vs : List V} {H : Hp} {Q : VK} {E : XK} (h : sp_law K vs H Q E) : t_law_0 K { nx := fun _ H' => Q .non H', rt := Q } (start N_law vs) H := by
  obtain ⟨a, ns, rfl, hs, hl, ho, hq⟩ := h
  unfold t_law_0
  walk_at "go"
  refine ⟨a, ns, 0, rfl, hs, fun p H1 hp k1 hd => ?_⟩
  walk_at "go"
  unfold t_law_1
  walk_at "go"
  refine ⟨p, rfl, hd, fun O os H2 hO0 hO hosl hok hd2 k2 => ?_⟩
  walk_at "go"
  unfold t_law_2
  walk_at "go"
  unfold t_law_3
  walk_at "go"
  intro B H3 n3
  walk_at "go"
  unfold t_law_4
  walk_at "go"
  have hO3 := n3.keep [] _ _ (by simp) hO
  refine i_lenL (SqL.of hO3) ?_
  walk_at "go"
  refine i_rngK1 (by rw [List.length_map]; omega) ?_
  have el : (((os.map V.int).length : Int)).toNat = os.length := by simp
  rw [el]
  refine f_rng (fun n σ H4 => ∃ (due : Option Nat) (B : Addr) (u : U8) (b : List Int) (x5 x6 : Option V), σ = [some (.ref a), some (.ref p), some (.ref O), some (dueV due), some (.ref B), x5, x6, none, none, none, none, none, none, none] ∧
      Fnd os n due u b ∧ H4 B = some (.lst (b.map V.int)) ∧ H2 B = none ∧ Keep [] H2 H4)
    ⟨none, B, u8new, [], none, none, rfl, ⟨.inl ⟨rfl, rfl⟩, Nat.le_refl _, fun _ => rfl, fun d z => (nomatch z)⟩, n3.at_, n3.free, n3.keep []⟩ ?_ ?_
  · rintro n σ H4 hn ⟨due, B4, u, b, x5, x6, rfl, fn, hB4, hB0, k4⟩
    walk_at "go"
    unfold t_law_4a_0
    walk_at "go"
    cases due with
    | some dd =>
      refine i_DF (by intro z; cases z) ?_
      walk_at "go"
      exact ⟨some dd, B4, u, b, _, _, rfl, ⟨fn.jx, by have := fn.bl; omega, fun z => (nomatch z), fun d z => by
        obtain ⟨y, y2⟩ := fn.yes d z
        exact ⟨by omega, y2⟩⟩, hB4, hB0, k4⟩
    | none =>
      refine i_DT rfl ?_
      have hall := fn.no rfl
      obtain ⟨o, hoo⟩ : ∃ o, os[n]? = some o := ⟨_, List.getElem?_eq_getElem hn⟩
      have hpos := hok o (List.mem_of_getElem? hoo)
      unfold t_law_4a_0a_0
      walk_at "go"
      have ix : atI (os.map V.int) (n : Int) = some (.int o) := atI_nat (by simp [hoo])
      refine i_ixL (SqL.of (k4 _ _ (by simp) hO)) ix ?_
      walk_at "go"
      intro q5 H5 n5
      have hbl := fn.bl
      refine i_cat (n5.keep [] _ _ (by simp) hB4) n5.at_ (by simp only [List.length_map, List.length_cons, List.length_nil]; omega) fun q6 H6 n6 => ?_
      walk_at "go"
      refine i_cc (os := b ++ [o]) (by rw [n6.at_]; simp) (by simp) (by simp; omega) fun H7 k7 => ?_
      have k47 : Keep [] H4 H7 := ((n5.keep []).trans (n6.keep [])).trans k7
      walk_at "go"
      unfold t_law_4a_0a_1
      walk_at "go"
      refine i_D (fun z => ?_) (fun z => ?_)
      · unfold t_law_4a_0a_1a_0
        walk_at "go"
        have tn := fn.jx.none hpos.1 z
        exact ⟨some n, B4, u, b, _, _, rfl, ⟨fn.jx, by omega, fun y => (nomatch y), fun d y => by
          obtain rfl := Option.some.inj y
          exact ⟨by omega, hall, o, hoo, tn⟩⟩, k47 _ _ (by simp) hB4, hB0, k4.trans k47⟩
      · unfold t_law_4a_0a_1b_0
        walk_at "go"
        refine i_D (fun z0 => ?_) (fun z0 => ?_)
        · unfold t_law_4a_0a_1b_0a_0
          walk_at "go"
          intro q8 H8 n8
          walk_at "go"
          obtain ⟨v, v1, v2⟩ := fn.jx.zero hpos.1 z0
          exact ⟨none, q8, v, [], _, _, rfl, ⟨.inl ⟨rfl, v2⟩, by simp, fun _ => all_succ hoo hall v1, fun d y => (nomatch y)⟩, n8.at_, (k4.trans k47).fresh (by simp) n8.free, (k4.trans k47).trans (n8.keep [])⟩
        · unfold t_law_4a_0a_1b_0b_0
          walk_at "go"
          refine i_ixL (SqL.of (k47 _ _ (by simp) (k4 _ _ (by simp) hO))) ix ?_
          walk_at "go"
          intro q8 H8 n8
          refine i_cat (n8.keep [] _ _ (by simp) (k47 _ _ (by simp) hB4)) n8.at_ (by simp only [List.length_map, List.length_cons, List.length_nil]; omega) fun q9 H9 n9 => ?_
          walk_at "go"
          obtain ⟨v, v1, v2⟩ := fn.jx.more hpos.1 (by omega)
          have k9 : Keep [] H4 H9 := (k47.trans (n8.keep [])).trans (n9.keep [])
          exact ⟨none, q9, v, b ++ [o], _, _, rfl, ⟨v2, by simp; omega, fun _ => all_succ hoo hall v1, fun d y => (nomatch y)⟩, by rw [n9.at_]; simp, ((k4.trans k47).trans (n8.keep [])).fresh (by simp) n9.free, k4.trans k9⟩
  · rintro σ H4 ⟨due, B4, u, b, x5, x6, rfl, fn, hB4, hB0, k4⟩
    exact e5 kU hq fn (k4 _ _ (by simp) hO) hd2 hB0 k4 hB4 (by omega)
end
/-! ### the text by places -/
def top (i : Nat) : Stmt := PySem.Challenge.pw_formsalike_k07_utf8_first_fault.main.body.getD i (.Pass ⟨0, 0, 0, 0⟩)
abbrev s_Utf8_init : Stmt := inClass (top 2) 0
abbrev s_Utf8_is_open : Stmt := inClass (top 2) 1
abbrev s_Utf8_begin : Stmt := inClass (top 2) 3
abbrev s_Utf8_take : Stmt := inClass (top 2) 2
abbrev s_decode : Stmt := top 3
abbrev s__law_cell : Stmt := top 5
abbrev s__law_numbers : Stmt := top 6
abbrev s__law_state : Stmt := top 7
abbrev s__law_next : Stmt := top 8
abbrev s__law_big : Stmt := top 9
abbrev s__law_written : Stmt := top 10
abbrev s__law_octets : Stmt := top 11
abbrev s__law_can_come : Stmt := top 12
abbrev s_law : Stmt := top 13
/-! ### what the walks ask of the module's names -/
structure Txt (K : PySem.W.Frag) (mg : Str → Option Value) : Prop where
  g_LEADS : mg "LEADS" = some (.ref (He.ga K "LEADS"))
  l_LEADS : LitIs K (.ref (He.ga K "LEADS")) (.tup L_LEADS)
  g_Utf8 : mg "Utf8" = some (.ref (He.ga K "Utf8"))
  k_Utf8 : Kls K "Utf8" F_Utf8
  i_Utf8 : Mk K (gA "Utf8" K) (mA "Utf8" "__init__" K)
  m_Utf8_begin : Meth K (gA "Utf8" K) "begin" (mA "Utf8" "begin" K)
  m_Utf8_take : Meth K (gA "Utf8" K) "take" (mA "Utf8" "take" K)
  p_Utf8_is_open : PropOf K (gA "Utf8" K) "is_open" (mA "Utf8" "is_open" K) (pA "Utf8" "is_open" K)
  z_abs : mg "abs" = none
  z_enumerate : mg "enumerate" = none
  z_int : mg "int" = none
  z_isinstance : mg "isinstance" = none
  z_len : mg "len" = none
  z_list : mg "list" = none
  z_max : mg "max" = none
  z_min : mg "min" = none
  z_range : mg "range" = none
  z_tuple : mg "tuple" = none
section
variable {P : Program} {w : World} {K : PySem.W.Frag} {mg : Str → Option Value} {base : Heap}
theorem sc_Utf8_init : FnScope ["self"] ["self"] (defScope s_Utf8_init) := ⟨rfl, rfl, rfl, by decide +kernel, rfl, by decide +kernel, by decide +kernel⟩
theorem ok_Utf8_init {f : Addr} {fd : FuncData} (F : FnP K "__init__" "Utf8.__init__" s_Utf8_init f fd) (T : Txt K mg) : FnOk P w K mg base CX0 1 f fd ["self"] (sp_Utf8_init K) := by
  refine F.ok sc_Utf8_init (fun vs H Q E h => len_Utf8_init h) (fun cdv A outer s H vs Q E hr h => ⟨(t_Utf8_init_0 K), PSs.nox ?_, r_Utf8_init T.k_Utf8 h⟩)
  exact (pss_cons (ps_fld (pv 0) (pe_lst pa_nil) rfl)
      (pss_cons (ps_fld (pv 0) pe_int rfl)
      (pss_cons (ps_fld (pv 0) pe_int rfl)
      (pss_cons (ps_fld (pv 0) pe_int rfl)
      (pss_one (ps_fld (pv 0) pe_int rfl))))))
theorem sc_Utf8_is_open : FnScope ["self"] ["self"] (defScope s_Utf8_is_open) := ⟨rfl, rfl, rfl, by decide +kernel, rfl, by decide +kernel, by decide +kernel⟩
theorem ok_Utf8_is_open {f : Addr} {fd : FuncData} (F : FnP K "is_open" "Utf8.is_open" s_Utf8_is_open f fd) (T : Txt K mg) : FnOk P w K mg base CX0 1 f fd ["self"] (sp_Utf8_is_open K) := by
  refine F.ok sc_Utf8_is_open (fun vs H Q E h => len_Utf8_is_open h) (fun cdv A outer s H vs Q E hr h => ⟨(t_Utf8_is_open_0 K), PSs.nox ?_, r_Utf8_is_open T.k_Utf8 h⟩)
  exact (pss_one (ps_ret (pe_cmpR op_gt (pe_fld (pv 0) rfl) pe_int (nomark _))))
theorem sc_Utf8_begin : FnScope ["self", "octet", "first", "last", "low", "high", "left", "base"] ["self", "octet"] (defScope s_Utf8_begin) := ⟨rfl, rfl, rfl, by decide +kernel, rfl, by decide +kernel, by decide +kernel⟩
theorem ok_Utf8_begin {f : Addr} {fd : FuncData} (F : FnP K "begin" "Utf8.begin" s_Utf8_begin f fd) (T : Txt K mg) : FnOk P w K mg base CX0 1 f fd ["self", "octet"] (sp_Utf8_begin K) := by
  refine F.ok sc_Utf8_begin (fun vs H Q E h => len_Utf8_begin h) (fun cdv A outer s H vs Q E hr h => ⟨(t_Utf8_begin_0 K), PSs.nox ?_, r_Utf8_begin T.k_Utf8 T.l_LEADS h⟩)
  exact (pss_cons (ps_if (pt_cmpR op_lt (pv 1) pe_int (nomark _)) (pss_cons (ps_expr (pe_bm PySem.F.plainAttrs_list PySem.F.slot_list_append PySem.F.type_list_append mt_append (pe_fld (pv 0) rfl) (pa_cons (pv 1) pa_nil)))
      (pss_one (ps_ret pe_bl))) pss_nil)
      (pss_cons (ps_for PassesOwn.never rfl (pi_tup (pe_globR (by rfl) T.g_LEADS)) (pg_tup rfl (pgs_cons (pg_name (i := 2) sc_Utf8_begin.nd rfl (Or.inl rfl)) (pgs_cons (pg_name (i := 3) sc_Utf8_begin.nd rfl (Or.inl rfl)) (pgs_cons (pg_name (i := 4) sc_Utf8_begin.nd rfl (Or.inl rfl)) (pgs_cons (pg_name (i := 5) sc_Utf8_begin.nd rfl (Or.inl rfl)) (pgs_cons (pg_name (i := 6) sc_Utf8_begin.nd rfl (Or.inl rfl)) (pgs_cons (pg_name (i := 7) sc_Utf8_begin.nd rfl (Or.inl rfl)) pgs_nil))))))) (pss_one (ps_if (pt_chain op_le op_le (pv 2) (pv 1) (pv 3)) (pss_cons (ps_fld (pv 0) (pv 4) rfl)
      (pss_cons (ps_fld (pv 0) (pv 5) rfl)
      (pss_cons (ps_fld (pv 0) (pv 6) rfl)
      (pss_cons (ps_fld (pv 0) (pe_op op_sub (pv 1) (pv 7)) rfl)
      (pss_one (ps_ret pe_bl)))))) pss_nil)))
      (pss_one (ps_ret pe_bl))))
theorem sc_Utf8_take : FnScope ["self", "octet"] ["self", "octet"] (defScope s_Utf8_take) := ⟨rfl, rfl, rfl, by decide +kernel, rfl, by decide +kernel, by decide +kernel⟩
theorem ok_Utf8_take {f : Addr} {fd : FuncData} (F : FnP K "take" "Utf8.take" s_Utf8_take f fd) (T : Txt K mg) (c_Utf8_begin : CalA P w K mg base 1 (mA "Utf8" "begin" K) (sp_Utf8_begin K)) : FnOk P w K mg base CX0 2 f fd ["self", "octet"] (sp_Utf8_take K) := by
  obtain ⟨_, _, G_Utf8_begin, b_Utf8_begin⟩ := c_Utf8_begin.ex
  refine F.ok sc_Utf8_take (fun vs H Q E h => len_Utf8_take h) (fun cdv A outer s H vs Q E hr h => ⟨(t_Utf8_take_0 K), PSs.nox ?_, r_Utf8_take T.k_Utf8 h⟩)
  exact (pss_cons (ps_if (pt_cmpR op_eq (pe_fld (pv 0) rfl) pe_int (nomark _)) (pss_one (ps_ret (pe_meth (pv 0) T.k_Utf8.cl T.m_Utf8_begin G_Utf8_begin (hr.mono (by decide)) b_Utf8_begin .nil pass0 (pa_cons (pv 1) pa_nil)))) pss_nil)
      (pss_cons (ps_if (pt_not (pt_chain op_le op_le (pe_fld (pv 0) rfl) (pv 1) (pe_fld (pv 0) rfl))) (pss_one (ps_ret pe_bl)) pss_nil)
      (pss_cons (ps_fld (pv 0) (pe_op op_sub (pe_op op_add (pe_op op_mul (pe_fld (pv 0) rfl) pe_int) (pv 1)) pe_int) rfl)
      (pss_cons (ps_fld (pv 0) pe_int rfl)
      (pss_cons (ps_fld (pv 0) pe_int rfl)
      (pss_cons (ps_fld (pv 0) (pe_op op_sub (pe_fld (pv 0) rfl) pe_int) rfl)
      (pss_cons (ps_if (pt_cmpR op_eq (pe_fld (pv 0) rfl) pe_int (nomark _)) (pss_one (ps_expr (pe_bm PySem.F.plainAttrs_list PySem.F.slot_list_append PySem.F.type_list_append mt_append (pe_fld (pv 0) rfl) (pa_cons (pe_fld (pv 0) rfl) pa_nil)))) pss_nil)
      (pss_one (ps_ret pe_bl)))))))))
theorem sc_decode : FnScope ["octets", "machine", "index", "octet"] ["octets"] (defScope s_decode) := ⟨rfl, rfl, rfl, by decide +kernel, rfl, by decide +kernel, by decide +kernel⟩
theorem ok_decode {f : Addr} {fd : FuncData} (F : FnP K "decode" "decode" s_decode f fd) (T : Txt K mg) (c_Utf8_init : CalA P w K mg base 1 (mA "Utf8" "__init__" K) (sp_Utf8_init K)) (c_Utf8_is_open : CalA P w K mg base 1 (pA "Utf8" "is_open" K) (sp_Utf8_is_open K)) (c_Utf8_take : CalA P w K mg base 2 (mA "Utf8" "take" K) (sp_Utf8_take K)) : FnOk P w K mg base CX0 3 f fd ["octets"] (sp_decode K) := by
  obtain ⟨_, _, G_Utf8_init, b_Utf8_init⟩ := c_Utf8_init.ex
  obtain ⟨_, _, G_Utf8_is_open, b_Utf8_is_open⟩ := c_Utf8_is_open.ex
  obtain ⟨_, _, G_Utf8_take, b_Utf8_take⟩ := c_Utf8_take.ex
  refine F.ok sc_decode (fun vs H Q E h => len_decode h) (fun cdv A outer s H vs Q E hr h => ⟨(t_decode_0 K), PSs.nox ?_, r_decode T.k_Utf8 h⟩)
  exact (pss_cons (ps_set (i := 1) sc_decode.nd rfl (Or.inl rfl) (pe_make0 T.i_Utf8 G_Utf8_init (hr.mono (by decide)) (by rfl) T.g_Utf8 b_Utf8_init .nil pass0))
      (pss_cons (ps_for PassesOwn.never rfl (pi_enumQ (by rfl) T.z_enumerate (pa_cons (pv 0) pa_nil)) (pg_tup rfl (pgs_cons (pg_name (i := 2) sc_decode.nd rfl (Or.inl rfl)) (pgs_cons (pg_name (i := 3) sc_decode.nd rfl (Or.inl rfl)) pgs_nil))) (pss_one (ps_if (pt_not (pt_val (pe_meth (pv 1) T.k_Utf8.cl T.m_Utf8_take G_Utf8_take (hr.mono (by decide)) b_Utf8_take .nil pass0 (pa_cons (pv 3) pa_nil)))) (pss_one (ps_ret (pe_tup (pa_cons pe_non (pa_cons (pv 2) pa_nil))))) pss_nil)))
      (pss_cons (ps_if (pt_val (pe_prop (pv 1) T.k_Utf8.cl T.p_Utf8_is_open G_Utf8_is_open (hr.mono (by decide)) b_Utf8_is_open .nil pass0 rfl)) (pss_one (ps_ret (pe_tup (pa_cons pe_non (pa_cons (pe_op op_sub (pe_callB call_len_seq (by rfl) T.z_len (by decide +kernel) (pa_cons (pv 0) pa_nil)) pe_int) pa_nil))))) pss_nil)
      (pss_one (ps_ret (pe_tup (pa_cons (pe_callTy call_tuple_of (by rfl) T.z_tuple (by decide +kernel) (pa_cons (pe_fld (pv 1) rfl) pa_nil)) (pa_cons pe_non pa_nil))))))))
theorem sc__law_cell : FnScope ["_law_script", "_law_k"] ["_law_script", "_law_k"] (defScope s__law_cell) := ⟨rfl, rfl, rfl, by decide +kernel, rfl, by decide +kernel, by decide +kernel⟩
theorem ok__law_cell {f : Addr} {fd : FuncData} (F : FnP K "_law_cell" "_law_cell" s__law_cell f fd) (T : Txt K mg) : FnOk P w K mg base CX0 1 f fd ["_law_script", "_law_k"] (sp__law_cell K) := by
  refine F.ok sc__law_cell (fun vs H Q E h => len__law_cell h) (fun cdv A outer s H vs Q E hr h => ⟨(t__law_cell_0 K), PSs.nox ?_, r__law_cell h⟩)
  exact (pss_cons (ps_if (pt_cmpR op_lt (pv 1) (pe_callB call_len_seq (by rfl) T.z_len (by decide +kernel) (pa_cons (pv 0) pa_nil)) (nomark _)) (pss_one (ps_ret (pe_ix ix_list (pv 0) (pv 1) (fun _ _ => rfl)))) pss_nil)
      (pss_one (ps_ret pe_int)))
theorem sc__law_numbers : FnScope ["_law_cell_here", "_law_many", "_law_rest", "_law_size", "_law_numbers_here", "_law_k", "_law_mixed"] ["_law_cell_here", "_law_many"] (defScope s__law_numbers) := ⟨rfl, rfl, rfl, by decide +kernel, rfl, by decide +kernel, by decide +kernel⟩
theorem ok__law_numbers {f : Addr} {fd : FuncData} (F : FnP K "_law_numbers" "_law_numbers" s__law_numbers f fd) (T : Txt K mg) : FnOk P w K mg base CX0 1 f fd ["_law_cell_here", "_law_many"] (sp__law_numbers K) := by
  refine F.ok sc__law_numbers (fun vs H Q E h => len__law_numbers h) (fun cdv A outer s H vs Q E hr h => ⟨(t__law_numbers_0 K), PSs.nox ?_, r__law_numbers h⟩)
  exact (pss_cons (ps_set (i := 2) sc__law_numbers.nd rfl (Or.inl rfl) (pe_callB call_abs (by rfl) T.z_abs (by decide +kernel) (pa_cons (pv 0) pa_nil)))
      (pss_cons (ps_set (i := 3) sc__law_numbers.nd rfl (Or.inl rfl) (pv 2))
      (pss_cons (ps_set (i := 4) sc__law_numbers.nd rfl (Or.inl rfl) (pe_lst pa_nil))
      (pss_cons (ps_for PassesOwn.never rfl (pi_range1 (by rfl) T.z_range (pa_cons (pv 1) pa_nil)) (pg_name (i := 5) sc__law_numbers.nd rfl (Or.inl rfl)) (pss_one (ps_if (PW.pt (pw_and (pt_cmpR op_ge (pv 3) (pe_op op_pow pe_int pe_int) (nomark _)) (pw_and1 (pt_cmpR op_gt (pv 2) pe_int (nomark _))))) (pss_cons (ps_expr (pe_bm PySem.F.plainAttrs_list PySem.F.slot_list_append PySem.F.type_list_append mt_append (pv 4) (pa_cons (pe_op op_mod (pe_callTy call_int1 (by rfl) T.z_int (by decide +kernel) (pa_cons (pv 2) pa_nil)) pe_int) pa_nil)))
      (pss_one (ps_set (i := 2) sc__law_numbers.nd rfl (Or.inl rfl) (pe_op op_fdiv (pv 2) pe_int)))) (pss_cons (ps_set (i := 6) sc__law_numbers.nd rfl (Or.inl rfl) (pe_op op_mod (pe_callTy call_int1 (by rfl) T.z_int (by decide +kernel) (pa_cons (pe_op op_add (pe_op op_add (pe_op op_mul (pv 3) pe_int) (pe_op op_mul (pv 5) pe_int)) pe_int) pa_nil)) pe_int))
      (pss_cons (ps_set (i := 6) sc__law_numbers.nd rfl (Or.inl rfl) (pe_op op_mod (pe_callTy call_int1 (by rfl) T.z_int (by decide +kernel) (pa_cons (pe_op op_add (pe_op op_add (pe_op op_mul (pv 6) (pv 6)) (pe_op op_mul pe_int (pv 5))) pe_int) pa_nil)) pe_int))
      (pss_one (ps_expr (pe_bm PySem.F.plainAttrs_list PySem.F.slot_list_append PySem.F.type_list_append mt_append (pv 4) (pa_cons (pe_op op_mod (pe_callTy call_int1 (by rfl) T.z_int (by decide +kernel) (pa_cons (pe_op op_fdiv (pv 6) pe_int) pa_nil)) pe_int) pa_nil)))))))))
      (pss_one (ps_ret (pv 4)))))))
theorem sc__law_state : FnScope ["_law_script", "_law_left", "_law_numbers_here", "_law_parted", "_law_k"] ["_law_script", "_law_left"] (defScope s__law_state) := ⟨rfl, rfl, rfl, by decide +kernel, rfl, by decide +kernel, by decide +kernel⟩
theorem ok__law_state {f : Addr} {fd : FuncData} (F : FnP K "_law_state" "_law_state" s__law_state f fd) (T : Txt K mg) (c__law_cell : Cal P w K mg base 1 "_law_cell" (sp__law_cell K)) (c__law_numbers : Cal P w K mg base 1 "_law_numbers" (sp__law_numbers K)) : FnOk P w K mg base CX0 2 f fd ["_law_script", "_law_left"] (sp__law_state K) := by
  refine F.ok sc__law_state (fun vs H Q E h => len__law_state h) (fun cdv A outer s H vs Q E hr h => ⟨(t__law_state_0 K), PSs.nox ?_, r__law_state h⟩)
  exact (pss_cons (ps_set (i := 2) sc__law_state.nd rfl (Or.inl rfl) (pe_lst pa_nil))
      (pss_cons (ps_setLc (i := 3) (own := [("_law_k", 4)]) (g := (gName 4)) (tt := tYes) (te := (tCall (sp__law_numbers K) [] E0 (tCons (tCall (sp__law_cell K) [] E0 (tCons (tVar 0) (tCons (tVar 4) tNil))) (tCons (tC (.int 40)) tNil)))) (wi := (iRng1 (tCons (tC (.int 3)) tNil))) rfl sc__law_state.nd rfl rfl (sw_true rfl rfl rfl (by decide +kernel)) (pi_range1 (by rfl) T.z_range (pa_cons pe_int pa_nil)) (blkOk_by (N := ["_law_script", "_law_left", "_law_numbers_here", "_law_parted", "_law_k"]) (sc := defScope s__law_state) (by decide +kernel)) (fun _ _ _ _ _ => (pg_name (i := 4) sc__law_state.nd rfl (Or.inl rfl))) (fun _ _ _ _ _ => pts_nil) (fun _ _ _ _ _ => (pe_callC c__law_numbers (hr.mono (by decide)) (by rfl) (pa_cons (pe_callC c__law_cell (hr.mono (by decide)) (by rfl) (pa_cons (pv 0) (pa_cons (pv 4) pa_nil))) (pa_cons pe_int pa_nil)))))
      (pss_cons (ps_for PassesOwn.never rfl (pi_range1 (by rfl) T.z_range (pa_cons pe_int pa_nil)) (pg_name (i := 4) sc__law_state.nd rfl (Or.inl rfl)) (pss_cons (ps_expr (pe_bm PySem.F.plainAttrs_list PySem.F.slot_list_append PySem.F.type_list_append mt_append (pv 2) (pa_cons (pe_ix ix_list (pe_ix ix_list (pv 3) pe_int (fun _ _ => rfl)) (pv 4) (fun _ _ => rfl)) pa_nil)))
      (pss_cons (ps_expr (pe_bm PySem.F.plainAttrs_list PySem.F.slot_list_append PySem.F.type_list_append mt_append (pv 2) (pa_cons (pe_ix ix_list (pe_ix ix_list (pv 3) pe_int (fun _ _ => rfl)) (pv 4) (fun _ _ => rfl)) pa_nil)))
      (pss_one (ps_expr (pe_bm PySem.F.plainAttrs_list PySem.F.slot_list_append PySem.F.type_list_append mt_append (pv 2) (pa_cons (pe_ix ix_list (pe_ix ix_list (pv 3) pe_int (fun _ _ => rfl)) (pv 4) (fun _ _ => rfl)) pa_nil)))))))
      (pss_one (ps_ret (pe_lst (pa_cons (pv 2) (pa_cons pe_int (pa_cons (pv 1) (pa_cons (pv 0) (pa_cons pe_int pa_nil)))))))))))
theorem sc__law_next : FnScope ["_law_state_here", "_law_many", "_law_at"] ["_law_state_here", "_law_many"] (defScope s__law_next) := ⟨rfl, rfl, rfl, by decide +kernel, rfl, by decide +kernel, by decide +kernel⟩
theorem ok__law_next {f : Addr} {fd : FuncData} (F : FnP K "_law_next" "_law_next" s__law_next f fd) (T : Txt K mg) : FnOk P w K mg base CX0 1 f fd ["_law_state_here", "_law_many"] (sp__law_next K) := by
  refine F.ok sc__law_next (fun vs H Q E h => len__law_next h) (fun cdv A outer s H vs Q E hr h => ⟨(t__law_next_0 K), PSs.nox ?_, r__law_next h⟩)
  exact (pss_cons (ps_set (i := 2) sc__law_next.nd rfl (Or.inl rfl) (pe_ix ix_list (pv 0) pe_int (fun _ _ => rfl)))
      (pss_cons (ps_asg (pe_op op_add (pv 2) pe_int) (pg_sub (pv 0) pe_int set_list))
      (pss_one (ps_ret (pe_op op_mod (pe_callTy call_int1 (by rfl) T.z_int (by decide +kernel) (pa_cons (pe_op op_add (pe_ix ix_list (pe_ix ix_list (pv 0) pe_int (fun _ _ => rfl)) (pe_op op_mod (pv 2) pe_int) (fun _ _ => rfl)) (pe_op op_mul pe_int (pe_op op_fdiv (pv 2) pe_int))) pa_nil)) (pv 1))))))
theorem sc__law_big : FnScope ["_law_state_here", "_law_many", "_law_cell_here"] ["_law_state_here", "_law_many"] (defScope s__law_big) := ⟨rfl, rfl, rfl, by decide +kernel, rfl, by decide +kernel, by decide +kernel⟩
theorem ok__law_big {f : Addr} {fd : FuncData} (F : FnP K "_law_big" "_law_big" s__law_big f fd) (T : Txt K mg) (c__law_cell : Cal P w K mg base 1 "_law_cell" (sp__law_cell K)) (c__law_next : Cal P w K mg base 1 "_law_next" (sp__law_next K)) : FnOk P w K mg base CX0 2 f fd ["_law_state_here", "_law_many"] (sp__law_big K) := by
  refine F.ok sc__law_big (fun vs H Q E h => len__law_big h) (fun cdv A outer s H vs Q E hr h => ⟨(t__law_big_0 K), PSs.nox ?_, r__law_big h⟩)
  exact (pss_cons (ps_set (i := 2) sc__law_big.nd rfl (Or.inl rfl) (pe_callB call_abs (by rfl) T.z_abs (by decide +kernel) (pa_cons (pe_callC c__law_cell (hr.mono (by decide)) (by rfl) (pa_cons (pe_ix ix_list (pv 0) pe_int (fun _ _ => rfl)) (pa_cons (pe_op op_add pe_int (pe_callC c__law_next (hr.mono (by decide)) (by rfl) (pa_cons (pv 0) (pa_cons pe_int pa_nil)))) pa_nil))) pa_nil)))
      (pss_one (ps_ret (pe_op op_mod (pe_callTy call_int1 (by rfl) T.z_int (by decide +kernel) (pa_cons (pe_op op_add (pe_op op_mul (pv 2) pe_int) (pe_callC c__law_next (hr.mono (by decide)) (by rfl) (pa_cons (pv 0) (pa_cons pe_int pa_nil)))) pa_nil)) (pv 1)))))
theorem sc__law_written : FnScope ["_law_point"] ["_law_point"] (defScope s__law_written) := ⟨rfl, rfl, rfl, by decide +kernel, rfl, by decide +kernel, by decide +kernel⟩
theorem ok__law_written {f : Addr} {fd : FuncData} (F : FnP K "_law_written" "_law_written" s__law_written f fd) (T : Txt K mg) : FnOk P w K mg base CX0 1 f fd ["_law_point"] (sp__law_written K) := by
  refine F.ok sc__law_written (fun vs H Q E h => len__law_written h) (fun cdv A outer s H vs Q E hr h => ⟨(t__law_written_0 K), PSs.nox ?_, r__law_written h⟩)
  exact (pss_cons (ps_if (pt_cmpR op_lt (pv 0) pe_int (nomark _)) (pss_one (ps_ret (pe_lst (pa_cons (pv 0) pa_nil)))) pss_nil)
      (pss_cons (ps_if (pt_cmpR op_lt (pv 0) pe_int (nomark _)) (pss_one (ps_ret (pe_lst (pa_cons (pe_op op_add pe_int (pe_op op_fdiv (pv 0) pe_int)) (pa_cons (pe_op op_add pe_int (pe_op op_mod (pv 0) pe_int)) pa_nil))))) pss_nil)
      (pss_cons (ps_if (pt_cmpR op_lt (pv 0) pe_int (nomark _)) (pss_one (ps_ret (pe_lst (pa_cons (pe_op op_add pe_int (pe_op op_fdiv (pv 0) pe_int)) (pa_cons (pe_op op_add pe_int (pe_op op_mod (pe_op op_fdiv (pv 0) pe_int) pe_int)) (pa_cons (pe_op op_add pe_int (pe_op op_mod (pv 0) pe_int)) pa_nil)))))) pss_nil)
      (pss_one (ps_ret (pe_lst (pa_cons (pe_op op_add pe_int (pe_op op_fdiv (pv 0) pe_int)) (pa_cons (pe_op op_add pe_int (pe_op op_mod (pe_op op_fdiv (pv 0) pe_int) pe_int)) (pa_cons (pe_op op_add pe_int (pe_op op_mod (pe_op op_fdiv (pv 0) pe_int) pe_int)) (pa_cons (pe_op op_add pe_int (pe_op op_mod (pv 0) pe_int)) pa_nil))))))))))
theorem sc__law_octets : FnScope ["_law_state_here", "_law_octets_here", "_law_k", "_law_edges", "_law_at", "_law_pick", "_law_odd"] ["_law_state_here"] (defScope s__law_octets) := ⟨rfl, rfl, rfl, by decide +kernel, rfl, by decide +kernel, by decide +kernel⟩
theorem ok__law_octets {f : Addr} {fd : FuncData} (F : FnP K "_law_octets" "_law_octets" s__law_octets f fd) (T : Txt K mg) (c__law_next : Cal P w K mg base 1 "_law_next" (sp__law_next K)) (c__law_written : Cal P w K mg base 1 "_law_written" (sp__law_written K)) : FnOk P w K mg base CX0 2 f fd ["_law_state_here"] (sp__law_octets K) := by
  refine F.ok sc__law_octets (fun vs H Q E h => len__law_octets h) (fun cdv A outer s H vs Q E hr h => ⟨(t__law_octets_0 K), PSs.nox ?_, r__law_octets h⟩)
  exact (pss_cons (ps_set (i := 1) sc__law_octets.nd rfl (Or.inl rfl) (pe_lst pa_nil))
      (pss_cons (ps_if (pt_cmpR op_eq (pe_callC c__law_next (hr.mono (by decide)) (by rfl) (pa_cons (pv 0) (pa_cons pe_int pa_nil))) pe_int (nomark _)) (pss_one (ps_ret (pe_lc (own := [("_law_k", 2)]) (g := (gName 2)) (tt := tYes) (te := (tOp rAddI (tC (.int 120)) (tCall (sp__law_next K) [] E0 (tCons (tVar 0) (tCons (tC (.int 136)) tNil))))) (wi := (iRng1 (tCons (tOp rAddI (tC (.int 1)) (tCall (sp__law_next K) [] E0 (tCons (tVar 0) (tCons (tC (.int 4)) tNil)))) tNil))) rfl sc__law_octets.nd (pi_range1 (by rfl) T.z_range (pa_cons (pe_op op_add pe_int (pe_callC c__law_next (hr.mono (by decide)) (by rfl) (pa_cons (pv 0) (pa_cons pe_int pa_nil)))) pa_nil)) (blkOk_by (N := ["_law_state_here", "_law_octets_here", "_law_k", "_law_edges", "_law_at", "_law_pick", "_law_odd"]) (sc := defScope s__law_octets) (by decide +kernel)) (fun _ _ _ _ _ => (pg_name (i := 2) sc__law_octets.nd rfl (Or.inl rfl))) (fun _ _ _ _ _ => pts_nil) (fun _ _ _ _ _ => (pe_op op_add pe_int (pe_callC c__law_next (hr.mono (by decide)) (by rfl) (pa_cons (pv 0) (pa_cons pe_int pa_nil)))))))) pss_nil)
      (pss_cons (ps_for PassesOwn.never rfl (pi_range1 (by rfl) T.z_range (pa_cons (pe_callC c__law_next (hr.mono (by decide)) (by rfl) (pa_cons (pv 0) (pa_cons pe_int pa_nil))) pa_nil)) (pg_name (i := 2) sc__law_octets.nd rfl (Or.inl rfl)) (pss_cons (ps_set (i := 3) sc__law_octets.nd rfl (Or.inl rfl) (pe_lst (pa_cons pe_int (pa_cons pe_int (pa_cons pe_int (pa_cons pe_int (pa_cons pe_int (pa_cons pe_int (pa_cons pe_int (pa_cons pe_int (pa_cons pe_int (pa_cons pe_int (pa_cons pe_int (pa_cons pe_int pa_nil))))))))))))))
      (pss_one (ps_set (i := 1) sc__law_octets.nd rfl (Or.inl rfl) (pe_op op_cat (pv 1) (pe_callC c__law_written (hr.mono (by decide)) (by rfl) (pa_cons (pe_ix ix_list (pv 3) (pe_callC c__law_next (hr.mono (by decide)) (by rfl) (pa_cons (pv 0) (pa_cons pe_int pa_nil))) (fun _ _ => rfl)) pa_nil)))))))
      (pss_cons (ps_for PassesOwn.never rfl (pi_range1 (by rfl) T.z_range (pa_cons (pe_callC c__law_next (hr.mono (by decide)) (by rfl) (pa_cons (pv 0) (pa_cons pe_int pa_nil))) pa_nil)) (pg_name (i := 2) sc__law_octets.nd rfl (Or.inl rfl)) (pss_cons (ps_set (i := 4) sc__law_octets.nd rfl (Or.inl rfl) (pe_callC c__law_next (hr.mono (by decide)) (by rfl) (pa_cons (pv 0) (pa_cons (pe_op op_add (pe_callB call_len_seq (by rfl) T.z_len (by decide +kernel) (pa_cons (pv 1) pa_nil)) pe_int) pa_nil))))
      (pss_cons (ps_set (i := 5) sc__law_octets.nd rfl (Or.inl rfl) (pe_callC c__law_next (hr.mono (by decide)) (by rfl) (pa_cons (pv 0) (pa_cons pe_int pa_nil))))
      (pss_cons (ps_set (i := 6) sc__law_octets.nd rfl (Or.inl rfl) (pe_ix ix_list (pe_lst (pa_cons pe_int (pa_cons pe_int (pa_cons pe_int (pa_cons pe_int (pa_cons pe_int (pa_cons pe_int (pa_cons pe_int (pa_cons pe_int (pa_cons pe_int (pa_cons pe_int (pa_cons pe_int (pa_cons pe_int (pa_cons pe_int (pa_cons pe_int (pa_cons pe_int pa_nil)))))))))))))))) (pe_callC c__law_next (hr.mono (by decide)) (by rfl) (pa_cons (pv 0) (pa_cons pe_int pa_nil))) (fun _ _ => rfl)))
      (pss_one (ps_if (pt_cmpR op_eq (pv 5) pe_int (nomark _)) (pss_one (ps_set (i := 1) sc__law_octets.nd rfl (Or.inl rfl) (pe_op op_cat (pe_slice sl_list (pv 1) po_none (po_some (pv 4))) (pe_slice sl_list (pv 1) (po_some (pe_op op_add (pv 4) pe_int)) po_none)))) (pss_one (ps_if (pt_cmpR op_eq (pv 5) pe_int (nomark _)) (pss_one (ps_set (i := 1) sc__law_octets.nd rfl (Or.inl rfl) (pe_op op_cat (pe_op op_cat (pe_slice sl_list (pv 1) po_none (po_some (pv 4))) (pe_lst (pa_cons (pv 6) pa_nil))) (pe_slice sl_list (pv 1) (po_some (pv 4)) po_none)))) (pss_one (ps_if (pt_cmpR op_eq (pv 5) pe_int (nomark _)) (pss_one (ps_set (i := 1) sc__law_octets.nd rfl (Or.inl rfl) (pe_op op_cat (pe_op op_cat (pe_slice sl_list (pv 1) po_none (po_some (pv 4))) (pe_lst (pa_cons (pv 6) pa_nil))) (pe_slice sl_list (pv 1) (po_some (pe_op op_add (pv 4) pe_int)) po_none)))) (pss_one (ps_set (i := 1) sc__law_octets.nd rfl (Or.inl rfl) (pe_slice sl_list (pv 1) po_none (po_some (pv 4)))))))))))))))
      (pss_one (ps_ret (pv 1)))))))
theorem sc__law_can_come : FnScope ["_law_octets_here", "_law_lead", "_law_count", "_law_bits", "_law_octet", "_law_low", "_law_high", "_law_k"] ["_law_octets_here"] (defScope s__law_can_come) := ⟨rfl, rfl, rfl, by decide +kernel, rfl, by decide +kernel, by decide +kernel⟩
theorem ok__law_can_come {f : Addr} {fd : FuncData} (F : FnP K "_law_can_come" "_law_can_come" s__law_can_come f fd) (T : Txt K mg) : FnOk P w K mg base CX0 1 f fd ["_law_octets_here"] (sp__law_can_come K) := by
  refine F.ok sc__law_can_come (fun vs H Q E h => len__law_can_come h) (fun cdv A outer s H vs Q E hr h => ⟨(t__law_can_come_0 K), PSs.nox ?_, r__law_can_come h⟩)
  exact (pss_cons (ps_set (i := 1) sc__law_can_come.nd rfl (Or.inl rfl) (pe_ix ix_list (pv 0) pe_int (fun _ _ => rfl)))
      (pss_cons (ps_set (i := 2) sc__law_can_come.nd rfl (Or.inl rfl) (pe_op op_add (pe_op op_add (pe_op op_add pe_int (pe_callTy call_int1 (by rfl) T.z_int (by decide +kernel) (pa_cons (pe_cmpR op_ge (pv 1) pe_int (nomark _)) pa_nil))) (pe_callTy call_int1 (by rfl) T.z_int (by decide +kernel) (pa_cons (pe_cmpR op_ge (pv 1) pe_int (nomark _)) pa_nil))) (pe_callTy call_int1 (by rfl) T.z_int (by decide +kernel) (pa_cons (pe_cmpR op_ge (pv 1) pe_int (nomark _)) pa_nil))))
      (pss_cons (ps_if (PW.pt (pw_or (pt_cmpR op_ge (pv 1) pe_int (nomark _)) (pw_or1 (PW.pt (pw_and (pt_cmpR op_le pe_int (pv 1) (nomark _)) (pw_and1 (pt_cmpR op_lt (pv 1) pe_int (nomark _)))))))) (pss_one (ps_ret (pe_un un_neg pe_int))) pss_nil)
      (pss_cons (ps_set (i := 3) sc__law_can_come.nd rfl (Or.inl rfl) (pe_op op_sub (pv 1) (pe_ix ix_list (pe_lst (pa_cons pe_int (pa_cons pe_int (pa_cons pe_int (pa_cons pe_int pa_nil))))) (pe_op op_sub (pv 2) pe_int) (fun _ _ => rfl))))
      (pss_cons (ps_for PassesOwn.never rfl (pi_list (pe_slice sl_list (pv 0) (po_some pe_int) po_none)) (pg_name (i := 4) sc__law_can_come.nd rfl (Or.inl rfl)) (pss_cons (ps_if (PW.pt (pw_or (pt_cmpR op_lt (pv 4) pe_int (nomark _)) (pw_or1 (pt_cmpR op_gt (pv 4) pe_int (nomark _))))) (pss_one (ps_ret (pe_un un_neg pe_int))) pss_nil)
      (pss_one (ps_set (i := 3) sc__law_can_come.nd rfl (Or.inl rfl) (pe_op op_sub (pe_op op_add (pe_op op_mul (pv 3) pe_int) (pv 4)) pe_int)))))
      (pss_cons (ps_set (i := 5) sc__law_can_come.nd rfl (Or.inl rfl) (pv 3))
      (pss_cons (ps_set (i := 6) sc__law_can_come.nd rfl (Or.inl rfl) (pv 3))
      (pss_cons (ps_for PassesOwn.never rfl (pi_range1 (by rfl) T.z_range (pa_cons (pe_op op_sub (pv 2) (pe_callB call_len_seq (by rfl) T.z_len (by decide +kernel) (pa_cons (pv 0) pa_nil))) pa_nil)) (pg_name (i := 7) sc__law_can_come.nd rfl (Or.inl rfl)) (pss_cons (ps_set (i := 5) sc__law_can_come.nd rfl (Or.inl rfl) (pe_op op_mul (pv 5) pe_int))
      (pss_one (ps_set (i := 6) sc__law_can_come.nd rfl (Or.inl rfl) (pe_op op_add (pe_op op_mul (pv 6) pe_int) pe_int)))))
      (pss_cons (ps_set (i := 5) sc__law_can_come.nd rfl (Or.inl rfl) (pe_callB (cr_max rfl) (by rfl) T.z_max (by decide +kernel) (pa_cons (pe_lst (pa_cons (pv 5) (pa_cons (pe_ix ix_list (pe_lst (pa_cons pe_int (pa_cons pe_int (pa_cons pe_int (pa_cons pe_int pa_nil))))) (pe_op op_sub (pv 2) pe_int) (fun _ _ => rfl)) pa_nil))) pa_nil)))
      (pss_cons (ps_set (i := 6) sc__law_can_come.nd rfl (Or.inl rfl) (pe_callB (cr_min rfl) (by rfl) T.z_min (by decide +kernel) (pa_cons (pe_lst (pa_cons (pv 6) (pa_cons (pe_ix ix_list (pe_lst (pa_cons pe_int (pa_cons pe_int (pa_cons pe_int (pa_cons pe_int pa_nil))))) (pe_op op_sub (pv 2) pe_int) (fun _ _ => rfl)) pa_nil))) pa_nil)))
      (pss_cons (ps_if (PW.pt (pw_or (pt_cmpR op_gt (pv 5) (pv 6) (nomark _)) (pw_or1 (PW.pt (pw_and (pt_cmpR op_ge (pv 5) pe_int (nomark _)) (pw_and1 (pt_cmpR op_le (pv 6) pe_int (nomark _)))))))) (pss_one (ps_ret (pe_un un_neg pe_int))) pss_nil)
      (pss_one (ps_ret (pe_op op_sub (pv 2) (pe_callB call_len_seq (by rfl) T.z_len (by decide +kernel) (pa_cons (pv 0) pa_nil))))))))))))))))
theorem sc_law : FnScope ["_law_script", "_law_state_here", "_law_octets_here", "_law_due", "_law_begun", "_law_k", "_law_left", "_law_told", "_law_machine", "_law_octet", "_law_before", "_law_odd", "_law_follow", "_law_point"] ["_law_script"] (defScope s_law) := ⟨rfl, rfl, rfl, by decide +kernel, rfl, by decide +kernel, by decide +kernel⟩
theorem ok_law {f : Addr} {fd : FuncData} (F : FnP K "law" "law" s_law f fd) (T : Txt K mg) (c_Utf8_init : CalA P w K mg base 1 (mA "Utf8" "__init__" K) (sp_Utf8_init K)) (c_Utf8_is_open : CalA P w K mg base 1 (pA "Utf8" "is_open" K) (sp_Utf8_is_open K)) (c_Utf8_take : CalA P w K mg base 2 (mA "Utf8" "take" K) (sp_Utf8_take K)) (c__law_can_come : Cal P w K mg base 1 "_law_can_come" (sp__law_can_come K)) (c__law_next : Cal P w K mg base 1 "_law_next" (sp__law_next K)) (c__law_octets : Cal P w K mg base 2 "_law_octets" (sp__law_octets K)) (c__law_state : Cal P w K mg base 2 "_law_state" (sp__law_state K)) (c_decode : Cal P w K mg base 3 "decode" (sp_decode K)) : FnOk P w K mg base CX0 4 f fd ["_law_script"] (sp_law K) := by
  obtain ⟨_, _, G_Utf8_init, b_Utf8_init⟩ := c_Utf8_init.ex
  obtain ⟨_, _, G_Utf8_is_open, b_Utf8_is_open⟩ := c_Utf8_is_open.ex
  obtain ⟨_, _, G_Utf8_take, b_Utf8_take⟩ := c_Utf8_take.ex
  refine F.ok sc_law (fun vs H Q E h => len_law h) (fun cdv A outer s H vs Q E hr h => ⟨(t_law_0 K), PSs.nox ?_, r_law T.k_Utf8 h⟩)
  have hu64 := hr.units
  exact (pss_cons (ps_set (i := 1) sc_law.nd rfl (Or.inl rfl) (pe_callC c__law_state (hr.mono (by decide)) (by rfl) (pa_cons (pv 0) (pa_cons pe_int pa_nil))))
      (pss_cons (ps_set (i := 2) sc_law.nd rfl (Or.inl rfl) (pe_callC c__law_octets (hr.mono (by decide)) (by rfl) (pa_cons (pv 1) pa_nil)))
      (pss_cons (ps_set (i := 3) sc_law.nd rfl (Or.inl rfl) pe_non)
      (pss_cons (ps_set (i := 4) sc_law.nd rfl (Or.inr rfl) (pe_lst pa_nil))
      (pss_cons (ps_for PassesOwn.never rfl (pi_range1 (by rfl) T.z_range (pa_cons (pe_callB call_len_seq (by rfl) T.z_len (by decide +kernel) (pa_cons (pv 2) pa_nil)) pa_nil)) (pg_name (i := 5) sc_law.nd rfl (Or.inl rfl)) (pss_one (ps_if (pt_cmpR op_isN (pv 3) pe_non (nomark _)) (pss_cons (ps_set (i := 6) sc_law.nd rfl (Or.inl rfl) (pe_callC c__law_can_come (hr.mono (by decide)) (by rfl) (pa_cons (pe_op op_cat (pv 4) (pe_lst (pa_cons (pe_ix ix_list (pv 2) (pv 5) (fun _ _ => rfl)) pa_nil))) pa_nil)))
      (pss_one (ps_if (pt_cmpR op_lt (pv 6) pe_int (nomark _)) (pss_one (ps_set (i := 3) sc_law.nd rfl (Or.inl rfl) (pv 5))) (pss_one (ps_if (pt_cmpR op_eq (pv 6) pe_int (nomark _)) (pss_one (ps_set (i := 4) sc_law.nd rfl (Or.inr rfl) (pe_lst pa_nil))) (pss_one (ps_set (i := 4) sc_law.nd rfl (Or.inr rfl) (pe_op op_cat (pv 4) (pe_lst (pa_cons (pe_ix ix_list (pv 2) (pv 5) (fun _ _ => rfl)) pa_nil)))))))))) pss_nil)))
      (pss_cons (ps_set (i := 7) sc_law.nd rfl (Or.inl rfl) (pe_callC c_decode (hr.mono (by decide)) (by rfl) (pa_cons (pv 2) pa_nil)))
      (pss_cons (ps_if (PW.pt (pw_and (pt_cmpR op_isN (pv 3) pe_non (nomark _)) (pw_and1 (pt_cmpR (op_eqD hu64) (pv 4) (pe_lst pa_nil) (nomark _))))) (pss_one (ps_ret (pe_and (pe_callB call_isi (by rfl) T.z_isinstance (by decide +kernel) (pa_cons (pv 7) (pa_cons (pe_bltn (v := .ty "tuple") (by rfl) T.z_tuple (by decide +kernel) rfl) pa_nil))) (pe_and (pe_cmpR op_eq (pe_callB call_len_seq (by rfl) T.z_len (by decide +kernel) (pa_cons (pv 7) pa_nil)) pe_int (nomark _)) (pe_one (pe_cmpR op_isN (pe_ix ix_tup (pv 7) pe_int (fun _ _ => rfl)) pe_non (nomark _))))))) pss_nil)
      (pss_cons (ps_if (pt_cmpR op_isN (pv 3) pe_non (nomark _)) (pss_one (ps_ret (pe_cmpR (op_eqD hu64) (pv 7) (pe_tup (pa_cons pe_non (pa_cons (pe_op op_sub (pe_callB call_len_seq (by rfl) T.z_len (by decide +kernel) (pa_cons (pv 2) pa_nil)) pe_int) pa_nil))) (nomark _)))) pss_nil)
      (pss_cons (ps_if (pt_cmpR (op_neD hu64) (pv 7) (pe_tup (pa_cons pe_non (pa_cons (pv 3) pa_nil))) (nomark _)) (pss_one (ps_ret pe_bl)) pss_nil)
      (pss_cons (ps_set (i := 8) sc_law.nd rfl (Or.inl rfl) (pe_make0 T.i_Utf8 G_Utf8_init (hr.mono (by decide)) (by rfl) T.g_Utf8 b_Utf8_init .nil pass0))
      (pss_cons (ps_for PassesOwn.never rfl (pi_list (pe_slice sl_list (pv 2) po_none (po_some (pv 3)))) (pg_name (i := 9) sc_law.nd rfl (Or.inl rfl)) (pss_one (ps_if (pt_cmpR op_notBl (pe_meth (pv 8) T.k_Utf8.cl T.m_Utf8_take G_Utf8_take (hr.mono (by decide)) b_Utf8_take .nil pass0 (pa_cons (pv 9) pa_nil)) pe_bl (nomark _)) (pss_one (ps_ret pe_bl)) pss_nil)))
      (pss_cons (ps_set (i := 10) sc_law.nd rfl (Or.inl rfl) (pe_tup (pa_cons (pe_callTy call_list_of (by rfl) T.z_list (by decide +kernel) (pa_cons (pe_fld (pv 8) rfl) pa_nil)) (pa_cons (pe_prop (pv 8) T.k_Utf8.cl T.p_Utf8_is_open G_Utf8_is_open (hr.mono (by decide)) b_Utf8_is_open .nil pass0 rfl) pa_nil))))
      (pss_cons (ps_for PassesOwn.never rfl (pi_list (pe_op op_cat (pe_lst (pa_cons (pe_ix ix_list (pv 2) (pv 3) (fun _ _ => rfl)) (pa_cons (pe_ix ix_list (pv 2) (pv 3) (fun _ _ => rfl)) pa_nil))) (pe_lc (own := [("_law_odd", 11)]) (g := (gName 11)) (tt := (tTest (tOp rLtI (tCall (sp__law_can_come K) [] E0 (tCons (tOp rCat (tVar 4) (tLst (tCons (tVar 11) tNil))) tNil)) (tC (.int 0))))) (te := (tVar 11)) (wi := (iList K (tLst (tCons (tC (.int 97)) (tCons (tC (.int 128)) (tCons (tC (.int 143)) (tCons (tC (.int 159)) (tCons (tC (.int 160)) (tCons (tC (.int 191)) (tCons (tC (.int 194)) tNil)))))))))) rfl sc_law.nd (pi_list (pe_lst (pa_cons pe_int (pa_cons pe_int (pa_cons pe_int (pa_cons pe_int (pa_cons pe_int (pa_cons pe_int (pa_cons pe_int pa_nil))))))))) (blkOk_by (N := ["_law_script", "_law_state_here", "_law_octets_here", "_law_due", "_law_begun", "_law_k", "_law_left", "_law_told", "_law_machine", "_law_octet", "_law_before", "_law_odd", "_law_follow", "_law_point"]) (sc := defScope s_law) (by decide +kernel)) (fun _ _ _ _ _ => (pg_name (i := 11) sc_law.nd rfl (Or.inl rfl))) (fun _ _ _ _ _ => (pts_one (pt_cmpR op_lt (pe_callC c__law_can_come (hr.mono (by decide)) (by rfl) (pa_cons (pe_op op_cat (pv 4) (pe_lst (pa_cons (pv 11) pa_nil))) pa_nil)) pe_int (nomark _)))) (fun _ _ _ _ _ => (pv 11))))) (pg_name (i := 9) sc_law.nd rfl (Or.inl rfl)) (pss_one (ps_if (PW.pt (pw_or (pt_cmpR op_notBl (pe_meth (pv 8) T.k_Utf8.cl T.m_Utf8_take G_Utf8_take (hr.mono (by decide)) b_Utf8_take .nil pass0 (pa_cons (pv 9) pa_nil)) pe_bl (nomark _)) (pw_or1 (pt_cmpR (op_neD hu64) (pe_tup (pa_cons (pe_fld (pv 8) rfl) (pa_cons (pe_prop (pv 8) T.k_Utf8.cl T.p_Utf8_is_open G_Utf8_is_open (hr.mono (by decide)) b_Utf8_is_open .nil pass0 rfl) pa_nil))) (pv 10) (nomark _))))) (pss_one (ps_ret pe_bl)) pss_nil)))
      (pss_cons (ps_if (pt_cmpR (op_eqD hu64) (pv 4) (pe_lst pa_nil) (nomark _)) (pss_one (ps_ret (pe_and (pe_cmpR op_isBl (pe_meth (pv 8) T.k_Utf8.cl T.m_Utf8_take G_Utf8_take (hr.mono (by decide)) b_Utf8_take .nil pass0 (pa_cons pe_int pa_nil)) pe_bl (nomark _)) (pe_one (pe_cmpR op_eq (pe_ix ix_list (pe_fld (pv 8) rfl) (pe_un un_neg pe_int) (fun _ _ => rfl)) pe_int (nomark _)))))) pss_nil)
      (pss_cons (ps_for PassesOwn.never rfl (pi_range1 (by rfl) T.z_range (pa_cons pe_int pa_nil)) (pg_name (i := 5) sc_law.nd rfl (Or.inl rfl)) (pss_cons (ps_setLc (i := 12) (own := [("_law_octet", 9)]) (g := (gName 9)) (tt := (tTest (tOp rGeI (tCall (sp__law_can_come K) [] E0 (tCons (tOp rCat (tVar 4) (tLst (tCons (tVar 9) tNil))) tNil)) (tC (.int 0))))) (te := (tVar 9)) (wi := (iList K (tLst (tCons (tC (.int 128)) (tCons (tC (.int 144)) (tCons (tC (.int 160)) (tCons (tC (.int 191)) tNil))))))) rfl sc_law.nd rfl rfl (sw_true rfl rfl rfl (by decide +kernel)) (pi_list (pe_lst (pa_cons pe_int (pa_cons pe_int (pa_cons pe_int (pa_cons pe_int pa_nil)))))) (blkOk_by (N := ["_law_script", "_law_state_here", "_law_octets_here", "_law_due", "_law_begun", "_law_k", "_law_left", "_law_told", "_law_machine", "_law_octet", "_law_before", "_law_odd", "_law_follow", "_law_point"]) (sc := defScope s_law) (by decide +kernel)) (fun _ _ _ _ _ => (pg_name (i := 9) sc_law.nd rfl (Or.inl rfl))) (fun _ _ _ _ _ => (pts_one (pt_cmpR op_ge (pe_callC c__law_can_come (hr.mono (by decide)) (by rfl) (pa_cons (pe_op op_cat (pv 4) (pe_lst (pa_cons (pv 9) pa_nil))) pa_nil)) pe_int (nomark _)))) (fun _ _ _ _ _ => (pv 9)))
      (pss_cons (ps_expr (pe_bm PySem.F.plainAttrs_list PySem.F.slot_list_append PySem.F.type_list_append mt_append (pv 4) (pa_cons (pe_ix ix_list (pv 12) (pe_callC c__law_next (hr.mono (by decide)) (by rfl) (pa_cons (pv 1) (pa_cons (pe_callB call_len_seq (by rfl) T.z_len (by decide +kernel) (pa_cons (pv 12) pa_nil)) pa_nil))) (fun _ _ => rfl)) pa_nil)))
      (pss_cons (ps_if (pt_cmpR op_notBl (pe_meth (pv 8) T.k_Utf8.cl T.m_Utf8_take G_Utf8_take (hr.mono (by decide)) b_Utf8_take .nil pass0 (pa_cons (pe_ix ix_list (pv 4) (pe_op op_sub (pe_callB call_len_seq (by rfl) T.z_len (by decide +kernel) (pa_cons (pv 4) pa_nil)) pe_int) (fun _ _ => rfl)) pa_nil)) pe_bl (nomark _)) (pss_one (ps_ret pe_bl)) pss_nil)
      (pss_one (ps_if (pt_cmpR op_eq (pe_callC c__law_can_come (hr.mono (by decide)) (by rfl) (pa_cons (pv 4) pa_nil)) pe_int (nomark _)) (pss_one ps_break) pss_nil))))))
      (pss_cons (ps_set (i := 13) sc_law.nd rfl (Or.inl rfl) (pe_op op_sub (pe_ix ix_list (pv 4) pe_int (fun _ _ => rfl)) (pe_ix ix_list (pe_lst (pa_cons pe_int (pa_cons pe_int (pa_cons pe_int pa_nil)))) (pe_op op_sub (pe_callB call_len_seq (by rfl) T.z_len (by decide +kernel) (pa_cons (pv 4) pa_nil)) pe_int) (fun _ _ => rfl))))
      (pss_cons (ps_for PassesOwn.never rfl (pi_list (pe_slice sl_list (pv 4) (po_some pe_int) po_none)) (pg_name (i := 9) sc_law.nd rfl (Or.inl rfl)) (pss_one (ps_set (i := 13) sc_law.nd rfl (Or.inl rfl) (pe_op op_sub (pe_op op_add (pe_op op_mul (pv 13) pe_int) (pv 9)) pe_int))))
      (pss_one (ps_ret (pe_and (pe_cmpR (op_eqD hu64) (pe_fld (pv 8) rfl) (pe_op op_cat (pe_ix ix_tup (pv 10) pe_int (fun _ _ => rfl)) (pe_lst (pa_cons (pv 13) pa_nil))) (nomark _)) (pe_one (pe_cmpR op_isBl (pe_prop (pv 8) T.k_Utf8.cl T.p_Utf8_is_open G_Utf8_is_open (hr.mono (by decide)) b_Utf8_is_open .nil pass0 rfl) pe_bl (nomark _)))))))))))))))))))))))
end
/-! ### the head -/
def d_Utf8_init : DefX := dX (mA "Utf8" "__init__") "__init__" "Utf8.__init__" s_Utf8_init
def d_Utf8_is_open : DefX := dX (pA "Utf8" "is_open") "is_open" "Utf8.is_open" s_Utf8_is_open
def d_Utf8_begin : DefX := dX (mA "Utf8" "begin") "begin" "Utf8.begin" s_Utf8_begin
def d_Utf8_take : DefX := dX (mA "Utf8" "take") "take" "Utf8.take" s_Utf8_take
def d_decode : DefX := dX (gA "decode") "decode" "decode" s_decode
def d__law_cell : DefX := dX (gA "_law_cell") "_law_cell" "_law_cell" s__law_cell
def d__law_numbers : DefX := dX (gA "_law_numbers") "_law_numbers" "_law_numbers" s__law_numbers
def d__law_state : DefX := dX (gA "_law_state") "_law_state" "_law_state" s__law_state
def d__law_next : DefX := dX (gA "_law_next") "_law_next" "_law_next" s__law_next
def d__law_big : DefX := dX (gA "_law_big") "_law_big" "_law_big" s__law_big
def d__law_written : DefX := dX (gA "_law_written") "_law_written" "_law_written" s__law_written
def d__law_octets : DefX := dX (gA "_law_octets") "_law_octets" "_law_octets" s__law_octets
def d__law_can_come : DefX := dX (gA "_law_can_come") "_law_can_come" "_law_can_come" s__law_can_come
def d_law : DefX := dX (gA "law") "law" "law" s_law
def fn : List DefX := [d_Utf8_init, d_Utf8_is_open, d_Utf8_begin, d_Utf8_take, d_decode, d__law_cell, d__law_numbers, d__law_state, d__law_next, d__law_big, d__law_written, d__law_octets, d__law_can_come, d_law]
def fa : List Fx := [constB "LEADS" (.tup L_LEADS), fFa (.glo "Utf8"), klsB "Utf8" F_Utf8, fFa (.mkr "Utf8"), fFa (.meth "Utf8" "begin"), fFa (.meth "Utf8" "take"), propB "Utf8" "is_open", fFa (.free "abs"), fFa (.free "enumerate"), fFa (.free "int"), fFa (.free "isinstance"), fFa (.free "len"), fFa (.free "list"), fFa (.free "max"), fFa (.free "min"), fFa (.free "range"), fFa (.free "tuple"), fFa (.glo "decode"), fFa (.glo "_law_cell"), fFa (.glo "_law_numbers"), fFa (.glo "_law_state"), fFa (.glo "_law_next"), fFa (.glo "_law_big"), fFa (.glo "_law_written"), fFa (.glo "_law_octets"), fFa (.glo "_law_can_come"), fFa (.glo "law")]
abbrev R : PySem.W.OpenRow := PySem.W.OpenLaw.row PySem.Challenge.rw_formsalike_k07_utf8_first_fault
abbrev hk : PySem.W.Hook := hookX 6 fa fn
def ob (s : PySem.W.SharedT) : AlX := obsXG 6 fa fn (HandSHeadRun.getT s)
theorem ob_eq (s : PySem.W.SharedT) : ob s = hk.obs s.abs := obsXG_eq (HandSHeadRun.getT_eq s)
def loose : List Str := (["__name__", "LEADS", "Utf8", "decode", "_law_cell", "_law_numbers", "_law_state", "_law_next", "_law_big", "_law_written", "_law_octets", "_law_can_come"] : List Str)
theorem run (w : World) : HandSHeadRun.RunEq R (PySem.W.view R.prog [13]) hk ob 4000 loose w := by
  intro os
  kernel_rfl
theorem facts {P : Program} {w : World} {K : PySem.W.Frag} {h : Heap} {mg : Str → Option Value} {f : Addr} (X : K.In h) (G : h.Ns mainGlobals mg) (hfa : mg ("law" : Str) = some (.ref f)) (c : SaysX fa fn K) :
    ∃ fd : FuncData, (∀ (s : Shared) (v : Value), BindsTo s fd ⟨[v], []⟩ [("_law_script", v)]) ∧ ∀ base : Heap, K.In base → base.Ns mainGlobals mg → FnOk P w K mg base CX0 4 f fd ["_law_script"] (sp_law K) := by
  obtain ⟨fd_Utf8_init, F_Utf8_init⟩ := c.def_ 0 (d := d_Utf8_init) rfl
  obtain ⟨fd_Utf8_is_open, F_Utf8_is_open⟩ := c.def_ 1 (d := d_Utf8_is_open) rfl
  obtain ⟨fd_Utf8_begin, F_Utf8_begin⟩ := c.def_ 2 (d := d_Utf8_begin) rfl
  obtain ⟨fd_Utf8_take, F_Utf8_take⟩ := c.def_ 3 (d := d_Utf8_take) rfl
  obtain ⟨fd_decode, F_decode⟩ := c.def_ 4 (d := d_decode) rfl
  obtain ⟨fd__law_cell, F__law_cell⟩ := c.def_ 5 (d := d__law_cell) rfl
  obtain ⟨fd__law_numbers, F__law_numbers⟩ := c.def_ 6 (d := d__law_numbers) rfl
  obtain ⟨fd__law_state, F__law_state⟩ := c.def_ 7 (d := d__law_state) rfl
  obtain ⟨fd__law_next, F__law_next⟩ := c.def_ 8 (d := d__law_next) rfl
  obtain ⟨fd__law_big, F__law_big⟩ := c.def_ 9 (d := d__law_big) rfl
  obtain ⟨fd__law_written, F__law_written⟩ := c.def_ 10 (d := d__law_written) rfl
  obtain ⟨fd__law_octets, F__law_octets⟩ := c.def_ 11 (d := d__law_octets) rfl
  obtain ⟨fd__law_can_come, F__law_can_come⟩ := c.def_ 12 (d := d__law_can_come) rfl
  obtain ⟨fd_law, F_law⟩ := c.def_ 13 (d := d_law) rfl
  have e := hfa.symm.trans (He.glo_ok X G (c.fact 26 (f := fFa (.glo "law")) rfl))
  cases e
  have T : Txt K mg := ⟨(const_tup X G (c.fact 0 rfl)).1, (const_tup X G (c.fact 0 rfl)).2, He.glo_ok X G (c.fact 1 rfl), klsB_ok (c.fact 2 rfl), He.mkr_ok (c.fact 3 rfl), He.meth_ok (c.fact 4 rfl), He.meth_ok (c.fact 5 rfl), propB_ok (c.fact 6 rfl), He.free_ok X G (c.fact 7 rfl), He.free_ok X G (c.fact 8 rfl), He.free_ok X G (c.fact 9 rfl), He.free_ok X G (c.fact 10 rfl), He.free_ok X G (c.fact 11 rfl), He.free_ok X G (c.fact 12 rfl), He.free_ok X G (c.fact 13 rfl), He.free_ok X G (c.fact 14 rfl), He.free_ok X G (c.fact 15 rfl), He.free_ok X G (c.fact 16 rfl)⟩
  have b_Utf8_init := FunD.bindsN (ps := ["self"]) F_Utf8_init fun _ _ _ _ _ _ us hl => match us, hl with | [_], _ => rfl
  have b_Utf8_is_open := FunD.bindsN (ps := ["self"]) F_Utf8_is_open fun _ _ _ _ _ _ us hl => match us, hl with | [_], _ => rfl
  have b_Utf8_begin := FunD.bindsN (ps := ["self", "octet"]) F_Utf8_begin fun _ _ _ _ _ _ us hl => match us, hl with | [_, _], _ => rfl
  have b_Utf8_take := FunD.bindsN (ps := ["self", "octet"]) F_Utf8_take fun _ _ _ _ _ _ us hl => match us, hl with | [_, _], _ => rfl
  have b_decode := FunD.bindsN (ps := ["octets"]) F_decode fun _ _ _ _ _ _ us hl => match us, hl with | [_], _ => rfl
  have b__law_cell := FunD.bindsN (ps := ["_law_script", "_law_k"]) F__law_cell fun _ _ _ _ _ _ us hl => match us, hl with | [_, _], _ => rfl
  have b__law_numbers := FunD.bindsN (ps := ["_law_cell_here", "_law_many"]) F__law_numbers fun _ _ _ _ _ _ us hl => match us, hl with | [_, _], _ => rfl
  have b__law_state := FunD.bindsN (ps := ["_law_script", "_law_left"]) F__law_state fun _ _ _ _ _ _ us hl => match us, hl with | [_, _], _ => rfl
  have b__law_next := FunD.bindsN (ps := ["_law_state_here", "_law_many"]) F__law_next fun _ _ _ _ _ _ us hl => match us, hl with | [_, _], _ => rfl
  have b__law_big := FunD.bindsN (ps := ["_law_state_here", "_law_many"]) F__law_big fun _ _ _ _ _ _ us hl => match us, hl with | [_, _], _ => rfl
  have b__law_written := FunD.bindsN (ps := ["_law_point"]) F__law_written fun _ _ _ _ _ _ us hl => match us, hl with | [_], _ => rfl
  have b__law_octets := FunD.bindsN (ps := ["_law_state_here"]) F__law_octets fun _ _ _ _ _ _ us hl => match us, hl with | [_], _ => rfl
  have b__law_can_come := FunD.bindsN (ps := ["_law_octets_here"]) F__law_can_come fun _ _ _ _ _ _ us hl => match us, hl with | [_], _ => rfl
  have b_law := FunD.bindsA (ps := ["_law_script"]) F_law fun _ _ _ _ _ _ us hl => match us, hl with | [_], _ => rfl
  refine ⟨fd_law, fun s v => b_law s [v] rfl, fun base _ _ => ?_⟩
  have c_Utf8_init : CalA P w K mg base 1 (mA "Utf8" "__init__" K) (sp_Utf8_init K) := ⟨⟨fd_Utf8_init, ["self"], ok_Utf8_init F_Utf8_init T, b_Utf8_init⟩⟩
  have c_Utf8_is_open : CalA P w K mg base 1 (pA "Utf8" "is_open" K) (sp_Utf8_is_open K) := ⟨⟨fd_Utf8_is_open, ["self"], ok_Utf8_is_open F_Utf8_is_open T, b_Utf8_is_open⟩⟩
  have c_Utf8_begin : CalA P w K mg base 1 (mA "Utf8" "begin" K) (sp_Utf8_begin K) := ⟨⟨fd_Utf8_begin, ["self", "octet"], ok_Utf8_begin F_Utf8_begin T, b_Utf8_begin⟩⟩
  have c_Utf8_take : CalA P w K mg base 2 (mA "Utf8" "take" K) (sp_Utf8_take K) := ⟨⟨fd_Utf8_take, ["self", "octet"], ok_Utf8_take F_Utf8_take T c_Utf8_begin, b_Utf8_take⟩⟩
  have c_decode : Cal P w K mg base 3 "decode" (sp_decode K) := ⟨⟨_, fd_decode, ["octets"], ok_decode F_decode T c_Utf8_init c_Utf8_is_open c_Utf8_take, He.glo_ok X G (c.fact 17 rfl), F_decode.kp, b_decode⟩⟩
  have c__law_cell : Cal P w K mg base 1 "_law_cell" (sp__law_cell K) := ⟨⟨_, fd__law_cell, ["_law_script", "_law_k"], ok__law_cell F__law_cell T, He.glo_ok X G (c.fact 18 rfl), F__law_cell.kp, b__law_cell⟩⟩
  have c__law_numbers : Cal P w K mg base 1 "_law_numbers" (sp__law_numbers K) := ⟨⟨_, fd__law_numbers, ["_law_cell_here", "_law_many"], ok__law_numbers F__law_numbers T, He.glo_ok X G (c.fact 19 rfl), F__law_numbers.kp, b__law_numbers⟩⟩
  have c__law_state : Cal P w K mg base 2 "_law_state" (sp__law_state K) := ⟨⟨_, fd__law_state, ["_law_script", "_law_left"], ok__law_state F__law_state T c__law_cell c__law_numbers, He.glo_ok X G (c.fact 20 rfl), F__law_state.kp, b__law_state⟩⟩
  have c__law_next : Cal P w K mg base 1 "_law_next" (sp__law_next K) := ⟨⟨_, fd__law_next, ["_law_state_here", "_law_many"], ok__law_next F__law_next T, He.glo_ok X G (c.fact 21 rfl), F__law_next.kp, b__law_next⟩⟩
  have c__law_big : Cal P w K mg base 2 "_law_big" (sp__law_big K) := ⟨⟨_, fd__law_big, ["_law_state_here", "_law_many"], ok__law_big F__law_big T c__law_cell c__law_next, He.glo_ok X G (c.fact 22 rfl), F__law_big.kp, b__law_big⟩⟩
  have c__law_written : Cal P w K mg base 1 "_law_written" (sp__law_written K) := ⟨⟨_, fd__law_written, ["_law_point"], ok__law_written F__law_written T, He.glo_ok X G (c.fact 23 rfl), F__law_written.kp, b__law_written⟩⟩
  have c__law_octets : Cal P w K mg base 2 "_law_octets" (sp__law_octets K) := ⟨⟨_, fd__law_octets, ["_law_state_here"], ok__law_octets F__law_octets T c__law_next c__law_written, He.glo_ok X G (c.fact 24 rfl), F__law_octets.kp, b__law_octets⟩⟩
  have c__law_can_come : Cal P w K mg base 1 "_law_can_come" (sp__law_can_come K) := ⟨⟨_, fd__law_can_come, ["_law_octets_here"], ok__law_can_come F__law_can_come T, He.glo_ok X G (c.fact 25 rfl), F__law_can_come.kp, b__law_can_come⟩⟩
  exact ok_law F_law T c_Utf8_init c_Utf8_is_open c_Utf8_take c__law_can_come c__law_next c__law_octets c__law_state c_decode
end Fa
open PySem PySem.W PySem.Calls PyProof.Rows
set_option maxRecDepth 100000 in
set_option maxHeartbeats 0 in
theorem PySem.Challenge.cw_formsalike_k07_utf8_first_fault_holds : PySem.Challenge.rw_formsalike_k07_utf8_first_fault.Holds := by
  w_on; o_law
  refine HandSHeadRun.head_any (r := OpenLaw.row PySem.Challenge.rw_formsalike_k07_utf8_first_fault) (q := view (OpenLaw.row PySem.Challenge.rw_formsalike_k07_utf8_first_fault).prog [13]) (H := Fa.hk) (ob := Fa.ob) (M := 4000) (loose := Fa.loose) (d := HandSHeadRun.topDef (OpenLaw.row PySem.Challenge.rw_formsalike_k07_utf8_first_fault).prog 13) (kwd := []) Fa.ob_eq
    (by kernel_rfl) (fun s => by kernel_rfl) Fa.run (by kernel_rfl) (by kernel_rfl) (by kernel_rfl) (by rfl) (by first | assumption | decide +kernel) (by decide +kernel) ⟨rfl, rfl, rfl, rfl, rfl, by decide +kernel⟩ ?hw ?hc
  case hw => w_witness2
  case hc =>
    refine L2.walk_ofE (l := PySem.Challenge.rw_formsalike_k07_utf8_first_fault) (n := 63) (k := 4) (x := "_law_script") (CX := L2.CX0) rfl (by decide) (by kernel_rfl) ⟨rfl, by decide, by decide⟩ ?F (fun _ _ _ _ z => z)
    intro w mg fa h Y G hmg0
    obtain ⟨K, KX, c⟩ := Y
    have hmg : mg ("law" : PySem.Str) = some (.ref fa) := by
      have e : (HandSHeadRun.topDef (OpenLaw.row PySem.Challenge.rw_formsalike_k07_utf8_first_fault).prog 13).name = ("law" : PySem.Str) := by kernel_rfl
      rw [← e]
      exact hmg0
    obtain ⟨fd, hb, hF⟩ := Fa.facts (P := (PySem.Challenge.rw_formsalike_k07_utf8_first_fault).prog) (w := w) KX G hmg c
    exact ⟨K, fd, Fa.sp_law K, KX, hb, fun H a ns hl ho hS => ⟨a, ns, rfl, hS, hl, ho, fun _ => rfl⟩, hF⟩
#print axioms PySem.Challenge.cw_formsalike_k07_utf8_first_fault_holds
